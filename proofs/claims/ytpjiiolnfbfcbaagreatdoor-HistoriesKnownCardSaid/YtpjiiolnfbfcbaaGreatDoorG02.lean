/- Texts of the proof: Eng16, Eng17, Eng18, Eng19, Eng20, Eng21, Eng22, Eng23, Eng24, Eng25, Eng26, Eng27, Eng28, Eng29, Eng30, Eng31, Eng32, Eng33, Eng34, Eng35, Eng36, Eng37, Eng38, Eng39, Eng40, Eng41, Eng42, Eng43, Eng44, Eng45, Eng46, Eng47, Eng48, Eng49, Eng50, Eng51, Eng52, Eng53, Eng54, Eng55, Eng56, Eng57, Eng58, Eng59, Eng60, Eng61, Eng62, Eng63, Eng64, Eng65, Eng66, Eng67, Eng68. -/
import Derived.Test.YtpjiiolnfbfcbaaGreatDoorG01
import Derived.Orders
import Derived.Laws.StructEq
import Derived.ChangeKeysEq
import Derived.WalkKit
import Derived.ProofKit
import Derived.OpenShut
import Derived.ShutString
import Derived.ChangeOld
import Derived.Below
import Derived.Deep.Slices
import Derived.Laws.MakeOwn
import Derived.Laws.CopyRow
import Derived.Laws.BytesString
import Derived.Laws.Strings
import Derived.Lib.AppendZeros
import Derived.Lib.Bytealg
import Derived.Lib.Builder
import Derived.Lib.UnsafeStr

set_option linter.unusedVariables false
set_option linter.unusedSimpArgs false
set_option linter.unusedSectionVars false
set_option maxRecDepth 10000

namespace Go.Eng
open Go.RowKit
def OpIs (P:Program) (all:List Oper) (o:Oper) (env:Env) (h:Upds) (n:Nat) (v:Option AV) (u:Upds):Prop :=
 ∀(C:Ctx) (G:Nat→Prop) (st:St) (σ:Place) (w:World) (a:Act),fh env h st→(∀d,o.dst=some d→d<st.sz)→aH C G st σ w a →
  (∀r,n≤r→r<n+8→¬G r)→st.bs=64→∀(next:Act→World→Prop) (Q:Exit→Act→World→Prop),
   (∀x w' σ' G',aH C G' (st.put o.dst v u) σ' w' (a.put o.dst x)→(∀r,G r→G' r)→(∀r,G' r→G r∨n≤r∧r<n+8)→next (a.put o.dst x) w') →
   if Region.wanted o (yielded all.toArray a.tmps) then o.wpIn (fen C.ro) 0 P a w next Q else next (a.put o.dst undef) w
section
variable {P : Program} {all : List Oper} {env : Env} {h : Upds} {n : Nat} {v : Option AV} {u : Upds}
theorem OpIs.plain {d:Option Tmp} {op:Op} {ty:TypeId} {pos:String} {af:Array Edge} (hs:an P op env h n v u):OpIs P all ⟨d,op,ty,pos,af,none⟩ env h n v u:=by
 intro C G st σ w a hA hd hst hn hbs next Q hnext
 rw[if_pos (show Region.wanted ⟨d,op,ty,pos,af,none⟩ _=true from rfl)]
 exact hs C G st σ w a _ rfl hA hd hst hn hbs next Q hnext
theorem wanted_bool' {o:Oper} {j g:Nat} {want b:Bool} (hg:o.guard=some (j,want)) (hj:((all[j]?).bind (·.dst))=some g) (hb:lk env g=some (.bool b)) {C:Ctx} {σ:Place} {w:World} {a:Act} {G:Nat→Prop} {st:St} (hA:fh env h st) (hst:aH C G st σ w a) :
  Region.wanted o (yielded all.toArray a.tmps)=(b==want):=by
 obtain⟨u,hu,hv⟩:=hst.env g _ (hA.env g _ hb)
 obtain⟨rfl,_⟩:=RelV.sc.1 hv
 simp only[Region.wanted,hg,yielded,List.getElem?_toArray,hj,Option.bind_some,hu]
 cases b <;> cases want <;> rfl
theorem OpIs.on {d:Option Tmp} {op:Op} {ty:TypeId} {pos:String} {af:Array Edge} {j g:Nat} {want b:Bool} (hj:((all[j]?).bind (·.dst))=some g) (hb:lk env g=some (.bool b)) (he:b=want) (hs:an P op env h n v u):OpIs P all ⟨d,op,ty,pos,af,some (j,want)⟩ env h n v u:=by
 intro C G st σ w a hA hd hst hn hbs next Q hnext
 rw[if_pos (by rw[wanted_bool' (o:=⟨d,op,ty,pos,af,some (j,want)⟩) rfl hj hb hA hst,he]; exact beq_self_eq_true _)]
 exact hs C G st σ w a _ rfl hA hd hst hn hbs next Q hnext
theorem OpIs.off {d:Option Tmp} {op:Op} {ty:TypeId} {pos:String} {af:Array Edge} {j g:Nat} {want b:Bool} (hj:((all[j]?).bind (·.dst))=some g) (hb:lk env g=some (.bool b)) (he:b = !want):OpIs P all ⟨d,op,ty,pos,af,some (j,want)⟩ env h n none []:=by
 intro C G st σ w a hA hd hst hn hbs next Q hnext
 rw[if_neg (by rw[wanted_bool' (o:=⟨d,op,ty,pos,af,some (j,want)⟩) rfl hj hb hA hst,he]; cases want <;> exact fun e=>by cases e)]
 exact hnext undef w σ G (hst.set (v:=none) (u:=undef) (dst:=d) hd (ga _ _ _) trivial) (fun _ h=>h) (fun _ h=>.inl h)
end
structure bW:Type 1 where
 op:Oper
 looks:List Nat
 rows:List Nat
 v:Option AV
 u:Upds
def bW.envU (f:bW):Env:=match f.op.dst with
 | none=>[]
 | some d=>[(d,f.v.getD .undef)]
def only {β:Type 1} (ks:List Nat):List (Nat×β)→List (Nat×β)
 | []=>[]
 | (i,x)::l=>bif ks.any (Nat.beq i) then (i,x)::only ks l else only ks l
theorem l5 {β:Type 1} {ks:List Nat}:∀(l:List (Nat×β)) (t:Nat) (x:β),lk (only ks l) t=some x→t∈ks∧lk l t=some x
 | [],t,x,h=>by simp[only,lk]at h
 | (i,y)::l,t,x,h=>by
  simp only[only]at h
  cases hi:ks.any (Nat.beq i) <;> rw[hi]at h <;> simp only[cond_true,cond_false]at h
  ·obtain⟨h1,h2⟩:=l5 l t x h
   refine⟨h1,?_⟩
   rw[aQ,if_neg ?_]
   ·exact h2
   ·rintro rfl
    have:=List.any_eq_false.1 hi i h1
    simp at this
  ·rw[aQ]at h ⊢
   split at h
   ·rename_i e
    subst e
    obtain⟨z,h1,h2⟩:=List.any_eq_true.1 hi
    have:=Nat.eq_of_beq_eq_true h2
    subst this
    exact⟨h1,by simpa using h⟩
   ·rename_i e
    obtain⟨h1,h2⟩:=l5 l t x h
    exact⟨h1,by rw[if_neg e]; exact h2⟩
def mh:List Operand→List Nat
 | []=>[]
 | .tmp t::l=>t::mh l
 | _::l=>mh l
def Cx (all:List Oper) (o:Oper):List Nat:=match o.guard with
 | none=>mh o.op.operands.toList
 | some (j,_)=>match (all[j]?).bind (·.dst) with
  | some g=>g::mh o.op.operands.toList
  | none=>mh o.op.operands.toList
def AV.refs:AV→List Nat
 | .acons a r=>a.refs++r.refs
 | .own r .. => [r]
 | .ptr r _=>[r]
 | .asl r _ _ _=>[r]
 | .mapr r=>[r]
 | .fn _ p q=>p.refs++q.refs
 | .tup q=>q.refs
 | _=>[]
def Row.refs:Row→List Nat
 | .box _ a=>a.refs
 | .ds .. => []
 | .lits _ _ _ _ a=>a.refs
 | .mo a=>a.refs
 | .si .. => []
 | .mq _=>[]
 | .lo _=>[]
 | .mi a _ _ _=>a.refs
def rA (h:Upds):List Nat→List Nat
 | []=>[]
 | r::l=>match bp h r with
  | some row=>row.refs++rA h l
  | none=>rA h l
def oc (h:Upds):Nat→List Nat→List Nat
 | 0,l=>l
 | k+1,l=>l++oc h k (rA h l)
def oH (env:Env):List Operand→List Nat
 | []=>[]
 | x::l=>match ay env x with
  | some v=>v.refs++oH env l
  | none=>oH env l
def CA (env:Env) (h:Upds) (o:Oper):List Nat:=oc h 3 (oH env o.op.operands.toList)
def fE (e:Edge):Bool:=Region.binds .any e
def dO (ps:List (List Nat)):List Edge→List Nat
 | []=>[]
 | e::es=>bif fE e then e.on::(ps[e.on]?.getD []++dO ps es) else dO ps es
def dh (k:Nat):List Edge→Bool
 | []=>true
 | e::es=>bif fE e then (bif Nat.blt e.on k then dh k es else false) else dh k es
def memB (x:Nat) (l:List Nat):Bool:=l.any (Nat.beq x)
def eC (l m:List Nat):Bool:=l.all fun x => !memB x m
def bW.dsts (f:bW):List Nat:=match f.op.dst with
 | none=>[]
 | some d=>[d]
def eP (f g:bW):Bool :=
 bif eC f.dsts g.looks then (bif eC g.dsts f.looks then (bif eC f.dsts g.dsts then
  (bif eC (bZ f.u) g.rows then (bif eC (bZ g.u) f.rows then eC (bZ f.u) (bZ g.u) else false) else false) else false) else false) else false
def il (p:List Nat) (g:bW):Nat→List bW→Bool
 | _,[]=>true
 | i,f::fs=>bif memB i p then il p g (i+1) fs else (bif eP f g then il p g (i+1) fs else false)
def nh:List (List Nat)→List bW→List bW→Bool
 | _,_,[]=>true
 | ps,seen,g::gs=>bif dh ps.length g.op.after.toList then
   (bif il (dO ps g.op.after.toList) g 0 seen then nh (ps++[dO ps g.op.after.toList]) (seen++[g]) gs else false) else false
def eW (P:Program) (all:List Oper) (sz:Nat):List bW→Nat→Env→Upds→(Env→Upds→Nat→Prop)→Prop
 | [],n,env,h,K=>K env h n
 | f::fs,n,env,h,K=>(fP f.op.dst sz=true∧OpIs P all f.op (only f.looks env) (only f.rows h) n f.v f.u)∧eW P all sz fs (n+8) (f.envU++env) (f.u++h) K
def RegD (P:Program) (all:List Oper) (sz:Nat) (l:List Oper) (n:Nat) (env:Env) (h:Upds) (acc:List bW) (K:Env→Upds→Nat→Prop):Prop :=
 ∃fs:List bW,fs.map (·.op)=l∧nh [] [] (acc.reverse++fs)=true∧eW P all sz fs n env h K
section
variable {P : Program} {all l : List Oper} {sz n : Nat} {env : Env} {h : Upds} {acc : List bW} {K : Env → Upds → Nat → Prop} {Q : Exit → St → Prop}
theorem xe (hd:nh [] [] acc.reverse=true) (hk:Q .normal ⟨env,h,n,sz,64⟩):RegD P all sz [] n env h acc (RegK Q sz):=⟨[],rfl,by simpa using hd,hk⟩
theorem yH {o:Oper} (f:bW) (hop:f.op=o) (hd:fP o.dst sz=true) (ho:OpIs P all o (only f.looks env) (only f.rows h) n f.v f.u) (h1:RegD P all sz l (n+8) (f.envU++env) (f.u++h) (f::acc) K):RegD P all sz (o::l) n env h acc K:=by
 subst hop
 obtain⟨fs,rfl,h2,h3⟩:=h1
 exact⟨f::fs,rfl,by simpa using h2,⟨hd,ho⟩,h3⟩
theorem jn {d:Option Tmp} {op:Op} {ty:TypeId} {pos:String} {af:Array Edge} {gd:Option (Nat×Bool)} {v:Option AV} {u:Upds} {env':Env} {h':Upds} (looks rows:List Nat) (hd:fP d sz=true) (ho:OpIs P all ⟨d,op,ty,pos,af,gd⟩ (only looks env) (only rows h) n v u)
  (he:putE d v env=env') (hh:u++h=h') (h1:RegD P all sz l (n+8) env' h' (⟨⟨d,op,ty,pos,af,gd⟩,looks,rows,v,u⟩::acc) K):RegD P all sz (⟨d,op,ty,pos,af,gd⟩::l) n env h acc K:=by
 refine yH ⟨⟨d,op,ty,pos,af,gd⟩,looks,rows,v,u⟩ rfl hd ho ?_
 have:bW.envU ⟨⟨d,op,ty,pos,af,gd⟩,looks,rows,v,u⟩++env=env':=by rw[←he]; cases d <;> rfl
 rw[this,hh]
 exact h1
end
def accS {β:Type 1} (S:Nat→Bool):Nat→List (List (Nat×β))→List (Nat×β)→List (Nat×β)
 | _,[],e=>e
 | k,u::us,e=>accS S (k+1) us (bif S k then u++e else e)
section
variable {β : Type 1} {S S' : Nat → Bool}
theorem gz {t:Nat}:∀(us:List (List (Nat×β))) (k:Nat) (e e':List (Nat×β)),lk e t=lk e' t→(∀j u,us[j]?=some u→lk u t≠none→S (k+j)=S' (k+j))→lk (accS S k us e) t=lk (accS S' k us e') t
 | [],k,e,e',h,_=>h
 | u::us,k,e,e',h,hS=>by
  simp only[accS]
  refine gz us (k+1) _ _ ?_ fun j x hj hx=>by have:=hS (j+1) x (by simpa using hj) hx; rw[Nat.add_right_comm]; simpa[Nat.add_assoc]using this
  cases hu:lk u t with
  | none =>
   cases S k <;> cases S' k <;> simp only[cond_true,cond_false,eJ,hu] <;> exact h
  | some x =>
   have:=hS 0 u rfl (by rw[hu]; exact fun e=>by cases e)
   simp only[Nat.add_zero]at this
   rw[this]
   cases S' k <;> simp only[cond_true,cond_false,eJ,hu]
   exact h
theorem qP {t:Nat}:∀(us:List (List (Nat×β))) (k:Nat) (e:List (Nat×β)),(∀j u,us[j]?=some u→S (k+j)=true→lk u t=none)→lk (accS S k us e) t=lk e t
 | [],k,e,_=>rfl
 | u::us,k,e,hS=>by
  simp only[accS]
  rw[qP us (k+1) _ fun j x hj hx=>hS (j+1) x (by simpa using hj) (by rw[←hx]; congr 1; omega)]
  cases hk:S k
  ·rfl
  ·simp only[cond_true,eJ,hS 0 u rfl (by simpa using hk)]
theorem qQ {t:Nat} {x:β} {u:List (Nat×β)}:∀(us:List (List (Nat×β))) (i k:Nat) (e:List (Nat×β)),us[i]?=some u→lk u t=some x→S (k+i)=true →
  (∀j u',us[j]?=some u'→i<j→S (k+j)=true→lk u' t=none)→lk (accS S k us e) t=some x
 | [],i,k,e,h,_,_,_=>by simp at h
 | y::us,0,k,e,h,hx,hi,hS=>by
  simp only[List.getElem?_cons_zero,Option.some.injEq]at h
  subst h
  simp only[accS]
  rw[qP us (k+1) _ fun j z hj hz=>hS (j+1) z (by simpa using hj) (by omega) (by rw[←hz]; congr 1; omega)]
  simp only[Nat.add_zero]at hi
  simp only[hi,cond_true,eJ,hx]
 | y::us,i+1,k,e,h,hx,hi,hS=>by
  simp only[accS]
  exact qQ us i (k+1) _ (by simpa using h) hx (by rw[←hi]; congr 1; omega) fun j z hj hij hz=>hS (j+1) z (by simpa using hj) (by omega) (by rw[←hz]; congr 1; omega)
theorem tK {t:Nat} {u:List (Nat×β)} {us:List (List (Nat×β))} {i:Nat} {e:List (Nat×β)} (hu:us[i]?=some u) (hS:∀j,j≠i→S' j=S j) (hi':S' i=true)
  (hap:∀j u',us[j]?=some u'→i<j→S j=true→lk u t≠none→lk u' t=none):lk (accS S' 0 us e) t=lk (u++accS S 0 us e) t:=by
 rw[eJ]
 cases hx:lk u t with
 | none =>
  refine gz us 0 e e rfl fun j x hj hne=>?_
  simp only[Nat.zero_add]
  refine hS j ?_
  rintro rfl
  rw[hu]at hj
  cases hj
  exact hne hx
 | some x =>
  refine qQ us i 0 e hu hx (by simpa using hi') fun j z hj hij hz=>?_
  rw[Nat.zero_add,hS j (by omega)]at hz
  exact hap j z hj hij hz (by rw[hx]; exact fun e=>by cases e)
end
theorem p9 {x:Nat} {l:List Nat}:memB x l=true↔x∈l:=by
 unfold memB
 rw[List.any_eq_true]
 constructor
 ·rintro⟨y,h1,h2⟩; rw[Nat.eq_of_beq_eq_true h2]; exact h1
 ·exact fun h=>⟨x,h,Nat.beq_refl x⟩
theorem fu {l m:List Nat} (h:eC l m=true):∀x,x∈l→x ∉ m:=by
 intro x hx hm
 have:=List.all_eq_true.1 h x hx
 rw[p9.2 hm]at this
 cases this
theorem eO {f g:bW} (h:eP f g=true):eC f.dsts g.looks=true∧eC g.dsts f.looks=true∧eC f.dsts g.dsts=true ∧
  eC (bZ f.u) g.rows=true∧eC (bZ g.u) f.rows=true∧eC (bZ f.u) (bZ g.u)=true:=by
 unfold eP at h
 cases h1:eC f.dsts g.looks <;> simp only[h1,cond_true,cond_false,Bool.false_eq_true]at h
 cases h2:eC g.dsts f.looks <;> simp only[h2,cond_true,cond_false,Bool.false_eq_true]at h
 cases h3:eC f.dsts g.dsts <;> simp only[h3,cond_true,cond_false,Bool.false_eq_true]at h
 cases h4:eC (bZ f.u) g.rows <;> simp only[h4,cond_true,cond_false,Bool.false_eq_true]at h
 cases h5:eC (bZ g.u) f.rows <;> simp only[h5,cond_true,cond_false,Bool.false_eq_true]at h
 exact⟨rfl,rfl,rfl,rfl,rfl,h⟩
theorem jE {p:List Nat} {g:bW}:∀(fs:List bW) (k:Nat),il p g k fs=true→∀i f,fs[i]?=some f→k+i∈p∨eP f g=true
 | [],k,_,i,f,h=>by simp at h
 | x::fs,k,hp,i,f,h=>by
  simp only[il]at hp
  cases h1:memB k p <;> rw[h1]at hp <;> simp only[cond_true,cond_false]at hp
  ·cases h2:eP x g <;> rw[h2]at hp <;> simp only[cond_true,cond_false,Bool.false_eq_true]at hp
   cases i with
   | zero=>simp at h; subst h; exact .inr h2
   | succ i =>
    have:=jE fs (k+1) hp i f (by simpa using h)
    rwa [show k+1+i=k+(i+1) by omega]at this
  ·cases i with
   | zero=>exact .inl (by simpa using p9.1 h1)
   | succ i =>
    have:=jE fs (k+1) hp i f (by simpa using h)
    rwa [show k+1+i=k+(i+1) by omega]at this
theorem fX {k:Nat}:∀(es:List Edge),dh k es=true→∀e∈es,fE e=true→e.on<k
 | [],_,e,h,_=>by simp at h
 | x::es,hb,e,h,he=>by
  simp only[dh]at hb
  rcases List.mem_cons.1 h with rfl | h
  ·rw[he]at hb
   simp only[cond_true]at hb
   cases h1:Nat.blt e.on k
   ·rw[h1]at hb; cases hb
   ·exact Nat.le_of_ble_eq_true h1
  ·cases h1:fE x <;> rw[h1]at hb <;> simp only[cond_true,cond_false]at hb
   ·exact fX es hb e h he
   ·cases h2:Nat.blt x.on k <;> rw[h2]at hb <;> simp only[cond_true,cond_false,Bool.false_eq_true]at hb
    exact fX es hb e h he
theorem jC {ps:List (List Nat)}:∀(es:List Edge) (i:Nat),i∈dO ps es→∃e∈es,fE e=true∧(i=e.on∨∃p,ps[e.on]?=some p∧i∈p)
 | [],i,h=>by simp[dO]at h
 | x::es,i,h=>by
  simp only[dO]at h
  cases h1:fE x <;> rw[h1]at h <;> simp only[cond_true,cond_false]at h
  ·obtain⟨e,h2,h3⟩:=jC es i h
   exact⟨e,List.mem_cons_of_mem _ h2,h3⟩
  ·rcases List.mem_cons.1 h with rfl | h
   ·exact⟨x,List.mem_cons_self,h1,.inl rfl⟩
   ·rcases List.mem_append.1 h with h | h
    ·refine⟨x,List.mem_cons_self,h1,.inr ?_⟩
     cases hp:ps[x.on]? with
     | none=>rw[hp]at h; simp at h
     | some p=>rw[hp]at h; exact⟨p,rfl,by simpa using h⟩
    ·obtain⟨e,h2,h3⟩:=jC es i h
     exact⟨e,List.mem_cons_of_mem _ h2,h3⟩
structure sS (fs:List bW) (pr:Nat→List Nat):Prop where
 back:∀j g,fs[j]?=some g→∀e∈g.op.after.toList,fE e=true→e.on<j
 pred:∀j g,fs[j]?=some g→∀i,i∈pr j→∃e∈g.op.after.toList,fE e=true∧(i=e.on∨i∈pr e.on)
 pair:∀i j f g,fs[i]?=some f→fs[j]?=some g→i<j→i∈pr j∨eP f g=true
theorem n7:∀(gs:List bW) (ps:List (List Nat)) (seen:List bW),ps.length=seen.length→nh ps seen gs=true→sS seen (fun j=>ps[j]?.getD [])→∃pr,sS (seen++gs) pr
 | [],ps,seen,hl,_,h=>⟨_,by simpa using h⟩
 | g::gs,ps,seen,hl,hd,h=>by
  simp only[nh]at hd
  cases h1:dh ps.length g.op.after.toList <;> rw[h1]at hd <;> simp only[cond_true,cond_false,Bool.false_eq_true]at hd
  cases h2:il (dO ps g.op.after.toList) g 0 seen <;> rw[h2]at hd <;> simp only[cond_true,cond_false,Bool.false_eq_true]at hd
  have hnew:sS (seen++[g]) (fun j=>(ps++[dO ps g.op.after.toList])[j]?.getD []):=by
   have hold:∀j,j<seen.length→(ps++[dO ps g.op.after.toList])[j]?.getD []=ps[j]?.getD []:=fun j hj=>by
    rw[List.getElem?_append_left (by omega)]
   have hlast:(ps++[dO ps g.op.after.toList])[seen.length]?.getD []=dO ps g.op.after.toList:=by
    rw[List.getElem?_append_right (by omega),hl,Nat.sub_self]; rfl
   have hcases:∀j x,(seen++[g])[j]?=some x→(j<seen.length∧seen[j]?=some x)∨(j=seen.length∧x=g):=fun j x hj=>by
    rcases Nat.lt_or_ge j seen.length with hlt | hge
    ·rw[List.getElem?_append_left hlt]at hj; exact .inl ⟨hlt,hj⟩
    ·rw[List.getElem?_append_right hge]at hj
     have hlt:=(List.getElem?_eq_some_iff.1 hj).1
     simp at hlt
     have:j-seen.length=0:=by omega
     rw[this]at hj
     simp at hj
     exact .inr ⟨by omega,hj.symm⟩
   refine⟨fun j x hj e he hb=>?_,fun j x hj i hi=>?_,fun i j f x hf hj hij=>?_⟩
   ·rcases hcases j x hj with ⟨_,hj⟩ | ⟨rfl,rfl⟩
    ·exact h.back j x hj e he hb
    ·rw[←hl]; exact fX _ h1 e he hb
   ·rcases hcases j x hj with ⟨hlt,hj⟩ | ⟨rfl,rfl⟩
    ·simp only[hold j hlt]at hi
     obtain⟨e,h3,h4,h5⟩:=h.pred j x hj i hi
     refine⟨e,h3,h4,h5.imp id fun h5=>?_⟩
     simp only[hold e.on (by have:=h.back j x hj e h3 h4; omega)]
     exact h5
    ·simp only[hlast]at hi
     obtain⟨e,h3,h4,h5⟩:=jC _ i hi
     refine⟨e,h3,h4,h5.imp id fun⟨p,hp,hip⟩=>?_⟩
     have hlt:=(List.getElem?_eq_some_iff.1 hp).1
     simp only[hold e.on (by omega),hp]
     exact hip
   ·rcases hcases j x hj with ⟨hlt,hj⟩ | ⟨rfl,rfl⟩
    ·rcases hcases i f hf with ⟨_,hf⟩ | ⟨hi,_⟩
     ·simp only[hold j hlt]; exact h.pair i j f x hf hj hij
     ·omega
    ·rcases hcases i f hf with ⟨_,hf⟩ | ⟨hi,_⟩
     ·simp only[hlast]
      simpa using jE seen 0 h2 i f hf
     ·omega
  obtain⟨pr,hpr⟩:=n7 gs _ (seen++[g]) (by simp[hl]) hd hnew
  exact⟨pr,by simpa using hpr⟩
theorem nZ {p q:Nat→Bool} (hpq:∀x,q x=true→p x=true):∀(l:List Nat) (i:Nat),i∈l→p i=true→q i=false→(l.filter q).length<(l.filter p).length
 | [],i,h,_,_=>by simp at h
 | x::l,i,h,h1,h2=>by
  have hle:∀l:List Nat,(l.filter q).length≤(l.filter p).length:=by
   intro l
   induction l with
   | nil=>simp
   | cons y l ih =>
    cases hq:q y
    ·rw[List.filter_cons_of_neg (by simp[hq])]
     cases hp:p y
     ·rw[List.filter_cons_of_neg (by simp[hp])]; exact ih
     ·rw[List.filter_cons_of_pos (by simp[hp])]; simp; omega
    ·rw[List.filter_cons_of_pos (by simp[hq]),List.filter_cons_of_pos (by simp[hpq y hq])]; simpa using ih
  rcases List.mem_cons.1 h with rfl | h
  ·rw[List.filter_cons_of_neg (by simp[h2]),List.filter_cons_of_pos (by simp[h1])]
   have:=hle l
   simp; omega
  ·have ih:=nZ hpq l i h h1 h2
   cases hq:q x
   ·rw[List.filter_cons_of_neg (by simp[hq])]
    cases hp:p x
    ·rw[List.filter_cons_of_neg (by simp[hp])]; exact ih
    ·rw[List.filter_cons_of_pos (by simp[hp])]; simp; omega
   ·rw[List.filter_cons_of_pos (by simp[hq]),List.filter_cons_of_pos (by simp[hpq x hq])]; simpa using ih
theorem aH.congr {C:Ctx} {G:Nat→Prop} {st st':St} {σ:Place} {w:World} {a:Act} (h:aH C G st σ w a) (he:∀t,lk st'.env t=lk st.env t) (hh:∀t,lk st'.heap t=lk st.heap t) (hs:st'.sz=st.sz) (hb:st'.bs=st.bs):aH C G st' σ w a:=by
 have hr:∀r,st'.row r=st.row r:=fun r=>by simp only[St.row,hh]
 have hX:st'.X C.X0 σ=st.X C.X0 σ:=by funext b; simp only[St.X,hr]
 exact {
  env:=fun i v hi=>by rw[hX]; exact h.env i v (by rw[←he]; exact hi)
  envG:=fun i v hi=>h.envG i v (by rw[←he]; exact hi)
  rows:=fun r row hi=>by rw[hX]; exact h.rows r row (by rw[←hr]; exact hi)
  rowsG:=fun r row hi=>h.rowsG r row (by rw[←hr]; exact hi)
  inj:=fun r r' row row' b c c' h1 h2=>h.inj r r' row row' b c c' (by rw[←hr]; exact h1) (by rw[←hr]; exact h2)
  high:=fun r row b c h1=>h.high r row b c (by rw[←hr]; exact h1)
  size:=h.size
  below:=h.below
  defers:=h.defers
  sz:=by rw[hs]; exact h.sz
  x0:=h.x0
  agree:=h.agree
  baseG:=h.baseG
  bs:=hb.trans h.bs
  rok:=h.rok
  glob:=h.glob }
theorem kp {β:Type 1} {S:Nat→Bool}:∀(us:List (List (Nat×β))) (k:Nat) (e:List (Nat×β)),(∀j,k≤j→S j=false)→accS S k us e=e
 | [],_,_,_=>rfl
 | u::us,k,e,h=>by
  simp only[accS,h k (Nat.le_refl _),cond_false]
  exact kp us (k+1) e fun j hj=>h j (by omega)
section
variable {P : Program} {all : List Oper} {sz : Nat} {K : Env → Upds → Nat → Prop}
theorem eW.at:∀(fs:List bW) (k n:Nat) (env:Env) (h:Upds),eW P all sz fs n env h K→∀i f,fs[i]?=some f→fP f.op.dst sz=true ∧
  OpIs P all f.op (only f.looks (accS (fun j=>Nat.blt j (k+i)) k (fs.map (·.envU)) env)) (only f.rows (accS (fun j=>Nat.blt j (k+i)) k (fs.map (·.u)) h)) (n+8*i) f.v f.u
 | [],k,n,env,h,_,i,f,hi=>by simp at hi
 | x::fs,k,n,env,h,hf,0,f,hi=>by
  simp only[List.getElem?_cons_zero,Option.some.injEq]at hi
  subst hi
  have hoff:∀j,k≤j→Nat.blt j (k+0)=false:=fun j hj=>by
   cases hb:Nat.blt j (k+0)
   ·rfl
   ·have:=Nat.le_of_ble_eq_true hb; omega
  rw[kp _ k env hoff,kp _ k h hoff]
  exact hf.1
 | x::fs,k,n,env,h,hf,i+1,f,hi=>by
  have:=eW.at fs (k+1) (n+8) _ _ hf.2 i f (by simpa using hi)
  have hk:Nat.blt k (k+(i+1))=true:=Nat.ble_eq_true_of_le (by omega)
  simp only[List.map_cons,accS,hk,cond_true]
  rw[show k+(i+1)=k+1+i by omega,show n+8*(i+1)=n+8+8*i by omega]
  exact this
theorem eW.end:∀(fs:List bW) (k n:Nat) (env:Env) (h:Upds),eW P all sz fs n env h K →
  K (accS (fun _=>true) k (fs.map (·.envU)) env) (accS (fun _=>true) k (fs.map (·.u)) h) (n+8*fs.length)
 | [],k,n,env,h,hf=>hf
 | x::fs,k,n,env,h,hf=>by
  have:=eW.end fs (k+1) (n+8) _ _ hf.2
  simp only[List.map_cons,accS,cond_true,List.length_cons]
  rw[show n+8*(fs.length+1)=n+8+8*fs.length by omega]
  exact this
theorem oR {f:bW} {t:Nat} (h:lk f.envU t≠none):t∈f.dsts:=by
 unfold bW.envU at h
 unfold bW.dsts
 cases hd:f.op.dst with
 | none=>rw[hd]at h; exact absurd rfl h
 | some d =>
  rw[hd]at h
  simp only[aQ]at h
  by_cases he:d=t
  ·simp[he]
  ·rw[if_neg he]at h; exact absurd rfl h
theorem xq {i j:Nat} (h:i<j):Nat.blt j i=false:=by
 cases hb:Nat.blt j i
 ·rfl
 ·have:=Nat.le_of_ble_eq_true hb; omega
theorem lk_keys' {β:Type 1} {l:List (Nat×β)} {r:Nat} (h:lk l r≠none):r∈bZ l:=by
 cases hx:lk l r with
 | none=>exact absurd hx h
 | some v=>exact jW l r v hx
theorem aE (hm:P.follows .mixedOrders=true) {id n:Nat} {ops:Array Oper} {Q:Exit→St→Prop} {env:Env} {h:Upds} (hd:RegD P ops.toList sz ops.toList n env h [] (RegK Q sz)):WC P sz (.region id ops true) Q env h n:=by
 intro C σ w a hst
 obtain⟨fs,hfs,hdr,hok⟩:=hd
 obtain⟨pr,hD⟩:=n7 fs [] [] rfl (by simpa using hdr) ⟨fun j g hj=>by simp at hj,fun j g hj=>by simp at hj,fun i j f g hi=>by simp at hi⟩
 simp only[List.nil_append]at hD
 have hop:∀(i:Nat) (o:Oper),ops[i]?=some o→∃f:bW,fs[i]?=some f∧f.op=o:=fun i o hi=>by
  have h1:(fs.map (·.op))[i]?=some o:=by rw[hfs]; simpa using hi
  simpa using h1
 have hlen:fs.length=ops.size:=by have:=congrArg List.length hfs; simpa using this
 have hop':∀(i:Nat) (f:bW),fs[i]?=some f→ops[i]?=some f.op:=fun i f hi=>by
  have h1:(fs.map (·.op))[i]?=some f.op:=by simp[hi]
  rw[hfs]at h1; simpa using h1
 refine wpIn_region_any hm ?_
 let S (listed:Array Bool):Nat→Bool:=fun i=>listed.getD i false
 let stOf (listed:Array Bool):St:=⟨accS (S listed) 0 (fs.map (·.envU)) env,accS (S listed) 0 (fs.map (·.u)) h,0,sz,64⟩
 have key:∀(fuel:Nat) (listed:Array Bool) (a:Act) (w:World) (σ:Place) (G:Nat→Prop),listed.size=ops.size→(∀j g,fs[j]?=some g→S listed j=true→∀e∈g.op.after.toList,fE e=true→S listed e.on=true) →
   aH C G (stOf listed) σ w a→(∀r,G r→r<n∨∃i,S listed i=true∧n+8*i≤r∧r<n+8*i+8)→((List.range ops.size).filter fun i => !S listed i).length≤fuel →
   wpAnyIn (fen C.ro) 0 P .any ops (Lift C Q) fuel listed a w:=by
  have hdone:∀(listed:Array Bool) (a:Act) (w:World) (σ:Place) (G:Nat→Prop),listed.size=ops.size→aH C G (stOf listed) σ w a→(∀r,G r→r<n∨∃i,S listed i=true∧n+8*i≤r∧r<n+8*i+8) →
    (∀i,i<ops.size→S listed i=true)→Lift C Q .normal a w:=by
   intro listed a w σ G hsz hst hG hall
   refine⟨_,σ,eW.end fs 0 n env h hok,?_⟩
   have hcong:∀ {β:Type 1} (g:bW→List (Nat×β)) (e:List (Nat×β)) (t:Nat),lk (accS (fun _=>true) 0 (fs.map g) e) t=lk (accS (S listed) 0 (fs.map g) e) t:=fun g e t =>
    gz _ 0 _ _ rfl fun j u hj _=>by
     have hlt:=(List.getElem?_eq_some_iff.1 hj).1
     simp at hlt
     rw[Nat.zero_add,hall j (by omega)]
   have h2:=(hst.grow (G':=fun r=>r<n+8*fs.length) fun r hr=>by
    rcases hG r hr with h1 | ⟨i,h1,h2,h3⟩
    ·omega
    ·have:i<listed.size:=by
      rcases Nat.lt_or_ge i listed.size with h4 | h4
      ·exact h4
      ·simp[S,h4]at h1
     omega)
   exact h2.congr (fun t=>hcong _ env t) (fun t=>hcong _ h t) rfl rfl
  have hready:∀(listed:Array Bool),listed.size=ops.size→Region.ready .any ops listed=[] → ∀i,i<ops.size→S listed i=true:=by
   intro listed hsz hr i
   induction i using Nat.strongRecOn with
   | _ i ih =>
    intro hi
    cases hS:S listed i
    ·exfalso
     have:i∈Region.ready .any ops listed:=by
      refine mem_ready.2 ⟨?_,ops[i],by simp[hi],fun e he hb=>?_⟩
      ·simp only[S,Array.getD_eq_getD_getElem?]at hS ⊢
       have:i<listed.size:=by omega
       simp[this]at hS ⊢
       exact hS
      ·obtain⟨f,hf,hfo⟩:=hop i ops[i] (by simp[hi])
       have hlt:=hD.back i f hf e (by rw[hfo]; simpa using he) hb
       exact ih e.on hlt (by omega)
     rw[hr]at this
     simp at this
    ·rfl
  intro fuel
  induction fuel with
  | zero =>
   intro listed a w σ G hsz hcl hst hG hcnt
   have hall:∀i,i<ops.size→S listed i=true:=fun i hi=>by
    have h0:((List.range ops.size).filter fun i => !S listed i)=[]:=List.eq_nil_of_length_eq_zero (by omega)
    have:=List.filter_eq_nil_iff.1 h0 i (List.mem_range.2 hi)
    simpa using this
   refine⟨?_,hdone listed a w σ G hsz hst hG hall⟩
   refine List.eq_nil_iff_forall_not_mem.2 fun i hi=>?_
   obtain⟨h0,o,ho,_⟩:=mem_ready.1 hi
   have hlt:i<ops.size:=(Array.getElem?_eq_some_iff.1 ho).1
   have:=hall i hlt
   have hlt':i<listed.size:=by omega
   simp only[S,Array.getD_eq_getD_getElem?]at this h0
   simp[hlt']at this h0
   rw[this]at h0; cases h0
  | succ fuel ih =>
   intro listed a w σ G hsz hcl hst hG hcnt
   refine⟨fun hr=>hdone listed a w σ G hsz hst hG (hready listed hsz hr),fun i hi=>?_⟩
   obtain⟨h0,o,ho,hpre⟩:=mem_ready.1 hi
   have hlt:i<ops.size:=(Array.getElem?_eq_some_iff.1 ho).1
   have hSi:S listed i=false:=by
    have hlt':i<listed.size:=by omega
    simp only[S,Array.getD_eq_getD_getElem?]at h0 ⊢
    simp[hlt']at h0 ⊢
    exact h0
   obtain⟨f,hf,hfo⟩:=hop i o ho
   subst hfo
   obtain⟨hdst,hOp⟩:=eW.at fs 0 n env h hok i f hf
   have hclos:∀j g,fs[j]?=some g→S listed j=true→∀k,k∈pr j→S listed k=true:=by
    intro j
    induction j using Nat.strongRecOn with
    | _ j ihj =>
     intro g hg hSj k hk
     obtain⟨e,he,hb,hor⟩:=hD.pred j g hg k hk
     have h1:=hcl j g hg hSj e he hb
     rcases hor with rfl | hk'
     ·exact h1
     ·have hlt:=hD.back j g hg e he hb
      have hjl:=(List.getElem?_eq_some_iff.1 hg).1
      exact ihj e.on hlt _ (List.getElem?_eq_getElem (by omega)) h1 k hk'
   have hpri:∀k,k∈pr i→S listed k=true:=fun k hk=>by
    obtain⟨e,he,hb,hor⟩:=hD.pred i f hf k hk
    have h1:S listed e.on=true:=hpre e (by simpa using he) hb
    rcases hor with rfl | hk'
    ·exact h1
    ·have hlt:=hD.back i f hf e he hb
     exact hclos e.on _ (List.getElem?_eq_getElem (by omega)) h1 k hk'
   have hap:∀j g,fs[j]?=some g→S listed j≠Nat.blt j i→(j<i∧eP g f=true)∨(i<j∧S listed j=true∧eP f g=true):=by
    intro j g hg hne
    rcases Nat.lt_trichotomy j i with hji | rfl | hij
    ·refine .inl ⟨hji,?_⟩
     rcases hD.pair j i g f hg hf hji with h1 | h1
     ·exfalso
      have:=hpri j h1
      rw[this,show Nat.blt j i=true from Nat.ble_eq_true_of_le hji]at hne
      exact hne rfl
     ·exact h1
    ·exfalso
     apply hne
     rw[hSi]
     cases hb:Nat.blt j j
     ·rfl
     ·have:=Nat.le_of_ble_eq_true hb; omega
    ·refine .inr ⟨hij,?_⟩
     have hSj:S listed j=true:=by
      cases hs:S listed j
      ·exfalso
       apply hne
       rw[hs]
       cases hb:Nat.blt j i
       ·rfl
       ·have:=Nat.le_of_ble_eq_true hb; omega
      ·rfl
     refine⟨hSj,?_⟩
     rcases hD.pair i j f g hf hg hij with h1 | h1
     ·have:=hclos j g hg hSj i h1
      rw[hSi]at this; cases this
     ·exact h1
   have hget:∀ {β:Type 1} (q:bW→List (Nat×β)) j u,(fs.map q)[j]?=some u→∃g,fs[j]?=some g∧q g=u:=fun q j u hj=>by
    rw[List.getElem?_map]at hj
    cases hg:fs[j]? with
    | none=>rw[hg]at hj; cases hj
    | some g=>rw[hg]at hj; exact⟨g,by first | exact hg | rfl,by simpa using hj⟩
   have henv:∀t,t∈f.looks→lk (accS (fun j=>Nat.blt j (0+i)) 0 (fs.map (·.envU)) env) t=lk (accS (S listed) 0 (fs.map (·.envU)) env) t:=fun t ht =>
    gz _ 0 _ _ rfl fun j u hj hne=>by
     obtain⟨g,hg,rfl⟩:=hget _ j u hj
     simp only[Nat.zero_add]
     by_cases hs:S listed j=Nat.blt j i
     ·exact hs.symm
     ·exfalso
      have hmem:=oR hne
      rcases hap j g hg hs with ⟨_,h1⟩ | ⟨_,_,h1⟩
      ·exact fu (eO h1).1 t hmem ht
      ·exact fu (eO h1).2.1 t hmem ht
   have hrow:∀t,t∈f.rows→lk (accS (fun j=>Nat.blt j (0+i)) 0 (fs.map (·.u)) h) t=lk (accS (S listed) 0 (fs.map (·.u)) h) t:=fun t ht =>
    gz _ 0 _ _ rfl fun j u hj hne=>by
     obtain⟨g,hg,rfl⟩:=hget _ j u hj
     simp only[Nat.zero_add]
     by_cases hs:S listed j=Nat.blt j i
     ·exact hs.symm
     ·exfalso
      have hmem:=lk_keys' hne
      rcases hap j g hg hs with ⟨_,h1⟩ | ⟨_,_,h1⟩
      ·exact fu (eO h1).2.2.2.1 t hmem ht
      ·exact fu (eO h1).2.2.2.2.1 t hmem ht
   have hagree:fh (only f.looks (accS (fun j=>Nat.blt j (0+i)) 0 (fs.map (·.envU)) env)) (only f.rows (accS (fun j=>Nat.blt j (0+i)) 0 (fs.map (·.u)) h)) (stOf listed):=by
    refine⟨fun t v ht=>?_,fun r row hr=>?_⟩
    ·obtain⟨h1,h2⟩:=l5 _ t v ht
     rw[henv t h1]at h2
     exact h2
    ·simp only[bp]at hr
     split at hr <;> try (cases hr; done)
     rename_i row' hl
     simp only[Option.some.injEq]at hr
     subst hr
     obtain⟨h1,h2⟩:=l5 _ r _ hl
     rw[hrow r h1]at h2
     simp only[St.row,stOf,h2]
     rfl
   have hfresh:∀r,n+8*i≤r→r<n+8*i+8→¬G r:=fun r h1 h2 h3=>by
    rcases hG r h3 with h4 | ⟨k,h4,h5,h6⟩
    ·omega
    ·have:k=i:=by omega
     subst this
     rw[hSi]at h4; cases h4
   have hS':∀j,j≠i→S (listed.setIfInBounds i true) j=S listed j:=fun j hj=>getD_set_ne false (Ne.symm hj)
   have hSi':S (listed.setIfInBounds i true) i=true:=by
    have hlt':i<listed.size:=by omega
    simp only[S,Array.getD_eq_getD_getElem?]
    simp[hlt']
   have hmono:∀j,S listed j=true→S (listed.setIfInBounds i true) j=true:=fun j hj=>getD_set_true hj
   have hrest:=hOp C G (stOf listed) σ w a hagree (gv hdst) hst hfresh rfl (wpAnyIn (fen C.ro) 0 P .any ops (Lift C Q) fuel (listed.setIfInBounds i true)) (Lift C Q) (by
    intro x w' σ' G' hst' _ hG'
    refine ih (listed.setIfInBounds i true) (a.put f.op.dst x) w' σ' G' (by simpa using hsz) ?_ ?_ ?_ ?_
    ·intro j g hg hSj e he hb
     by_cases hji:j=i
     ·subst hji
      rw[hf]at hg
      cases hg
      exact hmono _ (hpre e (by simpa using he) hb)
     ·rw[hS' j hji]at hSj
      exact hmono _ (hcl j g hg hSj e he hb)
    ·refine hst'.congr (fun t=>?_) (fun t=>?_) ?_ ?_
     ·have hput:lk ((stOf listed).put f.op.dst f.v f.u).env t=lk (f.envU++(stOf listed).env) t:=by
       unfold bW.envU
       cases f.op.dst <;> cases f.v <;> rfl
      rw[hput]
      refine tK (u:=f.envU) (i:=i) (by simp[hf]) hS' hSi' fun j u hj hij hSj hne=>?_
      obtain⟨g,hg,rfl⟩:=hget _ j u hj
      cases hn:lk g.envU t with
      | none=>rfl
      | some z =>
       exfalso
       rcases hap j g hg (by rw[hSj,xq hij]; exact fun e=>by cases e)with ⟨h1,_⟩ | ⟨_,_,h1⟩
       ·omega
       ·exact fu (eO h1).2.2.1 t (oR hne) (oR (by rw[hn]; exact fun e=>by cases e))
     ·have hput:((stOf listed).put f.op.dst f.v f.u).heap=f.u++(stOf listed).heap:=by
       cases f.op.dst <;> cases f.v <;> rfl
      rw[hput]
      refine tK (u:=f.u) (i:=i) (by simp[hf]) hS' hSi' fun j u hj hij hSj hne=>?_
      obtain⟨g,hg,rfl⟩:=hget _ j u hj
      cases hn:lk g.u t with
      | none=>rfl
      | some z =>
       exfalso
       rcases hap j g hg (by rw[hSj,xq hij]; exact fun e=>by cases e)with ⟨h1,_⟩ | ⟨_,_,h1⟩
       ·omega
       ·exact fu (eO h1).2.2.2.2.2 t (lk_keys' hne) (lk_keys' (by rw[hn]; exact fun e=>by cases e))
     ·cases f.op.dst <;> cases f.v <;> rfl
     ·cases f.op.dst <;> cases f.v <;> rfl
    ·intro r hr
     rcases hG' r hr with h1 | h1
     ·rcases hG r h1 with h2 | ⟨k,h2,h3⟩
      ·exact .inl h2
      ·exact .inr ⟨k,hmono k h2,h3⟩
     ·exact .inr ⟨i,hSi',h1.1,h1.2⟩
    ·have:=nZ (p:=fun i => !S listed i) (q:=fun j => !S (listed.setIfInBounds i true) j) (fun x hx=>by
      simp only[Bool.not_eq_true']at hx ⊢
      cases hs:S listed x
      ·rfl
      ·rw[hmono x hs]at hx; cases hx) (List.range ops.size) i (List.mem_range.2 hlt) (by simp[hSi]) (by simp[hSi'])
     omega)
   unfold wpOpIn
   rw[ho]
   have hall:ops.toList.toArray=ops:=by simp
   rw[hall]at hrest
   by_cases hw:Region.wanted f.op (yielded ops a.tmps)=true
   ·simp only[hw,if_true]at hrest ⊢
    exact hrest
   ·simp only[hw]at hrest ⊢
    exact⟨fun _ _=>trivial,hrest⟩
 have hrep:∀i,S (Array.replicate ops.size false) i=false:=fun i=>by
  simp only[S,Array.getD_eq_getD_getElem?]
  rcases Nat.lt_or_ge i ops.size with h1 | h1
  ·simp[h1]
  ·simp[h1]
 refine key ops.size _ a _ σ (fun r=>r<n) (by simp) ?_ ?_ ?_ ?_
 ·intro j g _ hSj
  rw[hrep]at hSj; cases hSj
 ·have h0:∀ {β:Type 1} (us:List (List (Nat×β))) (e:List (Nat×β)),accS (S (Array.replicate ops.size false)) 0 us e=e:=fun us e=>kp us 0 e fun j _=>hrep j
  have h1:=hst.drew
  exact h1.congr (fun t=>by simp only[stOf,h0]) (fun t=>by simp only[stOf,h0]) rfl rfl
 ·intro r hr; exact .inl hr
 ·have:=List.length_filter_le (fun i => !S (Array.replicate ops.size false) i) (List.range ops.size)
  simpa using this
end
end Go.Eng
namespace Go.Eng
open Go.RowKit
theorem qq (C:List Value) (off:Nat):∀(l:List Value) (k:Nat) (A m:List Value),A.length=off+k→m.length=l.length →
  (l.zipIdx k).foldl (fun cs (x:Value×Nat)=>cs.setIfInBounds (off+x.2) x.1) (A++m++C).toArray=(A++l++C).toArray
 | [],k,A,m,_,hm=>by
  have:m=[]:=List.eq_nil_of_length_eq_zero (by simpa using hm)
  subst this; rfl
 | v::l,k,A,[],_,hm=>by simp at hm
 | v::l,k,A,u::m,hA,hm=>by
  simp only[List.zipIdx_cons,List.foldl_cons]
  have h1:(A++u::m++C).toArray.setIfInBounds (off+k) v=((A++[v])++m++C).toArray:=by
   apply Array.ext'
   rw[Array.toList_setIfInBounds]
   simp only[List.append_assoc,List.cons_append]
   rw[←hA,List.set_append_right _ _ (Nat.le_refl _),Nat.sub_self]
   simp
  rw[h1,qq C off l (k+1) (A++[v]) m (by simp[hA]; omega) (by simpa using hm)]
  simp
def iC (T:Tab) (offs:List (Nat×Nat)) (ev:Operand→Option AV):List (Nat×Operand)→AV→Option AV
 | [],z=>some z
 | (i,x)::l,z=>match ev x,offs[i]? with
  | some v,some (o,t)=>match z.chainAt i o with
   | some u=>bif bK T t v then (bif Nat.beq u.size v.size then (bif u.isAgg==v.isAgg then iC T offs ev l (AV.chainSet v i z) else none) else none) else none
   | none=>none
  | _,_=>none
theorem AUpd.one {z u v:AV} {i o:Nat} (h:z.chainAt i o=some u) (hs:u.size=v.size) (ha:u.isAgg=v.isAgg):AUpd z [.fld i o] v (AV.chainSet v i z):=by
  cases z with
  | d x =>
    have h':=h
    simp only[AV.chainAt,Option.map_eq_some_iff]at h'
    obtain⟨y,hy,rfl⟩:=h'
    cases v with
    | d q =>
      refine⟨x.chainSet i q,?_,D.chainSet_d i x q o y hy⟩
      cases x <;> first
        | (cases i <;> simp[D.chainAt]at hy; done)
        | (simp only[Upd,Step.ix,Step.off]
           rw[hy]
           exact⟨q,⟨hs,ha,rfl⟩,rfl⟩)
    | _ =>
      simp only[AUpd,Step.ix,Step.off]
      rw[h]
      exact⟨_,⟨hs,ha,rfl⟩,rfl⟩
  | acons p q =>
    cases v <;>
    · simp only[AUpd,Step.ix,Step.off]
      rw[h]
      exact⟨_,⟨hs,ha,rfl⟩,rfl⟩
  | _=>simp[AV.chainAt]at h
section
variable {P : Program} {T : Tab} {sz : Nat} {env : Env} {h : Upds} {n : Nat}
theorem fo (hT:aq P T) {C:Ctx} {G:Nat→Prop} {st:St} {σ:Place} {w:World} {a:Act} (hst:aH C G st σ w a) (hA:fh env h st) {offs:List (Nat×Nat)} {pl:Nat→Option (Nat×Nat)} (hpl:∀(k o t:Nat) (r:TyR),offs[k]?=some (o,t)→lk T t=some r→pl k=some (o,r.size)) :
  ∀(l:List (Nat×Operand)) (z q:AV) (cs:List Value),iC T offs (ay env) l z=some q→z.flat=true→z.within G→Rel σ w (st.X C.X0 σ) z false cs →
   ∃cs',Instr.fill pl cs.toArray (l.map fun x=>(x.1,a.eval x.2))=some cs'.toArray∧Rel σ w (st.X C.X0 σ) q false cs'∧q.flat=true∧q.within G
 | [],z,q,cs,hq,hf,hg,hr=>by
  simp only[iC,Option.some.injEq]at hq
  subst hq
  exact⟨cs,rfl,hr,hf,hg⟩
 | (i,x)::l,z,q,cs,hq,hf,hg,hr=>by
  simp only[iC]at hq
  split at hq <;> try (cases hq; done)
  rename_i v o t' hv ho
  split at hq <;> try (cases hq; done)
  rename_i u hu
  cases h1:bK T t' v <;> rw[h1]at hq <;> simp only[cond_true,cond_false]at hq
  ·cases hq
  cases h2:Nat.beq u.size v.size <;> rw[h2]at hq <;> simp only[cond_true,cond_false]at hq
  ·cases hq
  cases h3:(u.isAgg==v.isAgg) <;> rw[h3]at hq <;> simp only[cond_true,cond_false]at hq
  ·cases hq
  have h2:=Nat.eq_of_beq_eq_true h2
  have h3:u.isAgg=v.isAgg:=by simpa using h3
  obtain⟨r,hr1,hr2,hvf,_⟩:=bK.out h1
  obtain⟨hv1,hv2⟩:=ao hst (hA.ev hv)
  have hvc:=RelV.cells hvf hv1
  have hup:=AUpd.one hu h2 h3
  obtain⟨A,m,C',⟨rfl,hAl⟩,hml,hnew⟩:=AUpd.cells _ _ _ _ _ _ hf hvf hup hr hvc
  have hp:=hpl i o t' r ho hr1
  have hl:=Rel.len _ _ hvf hvc
  obtain⟨cs',hfill,h5⟩:=fo hT hst hA hpl l _ q _ hq (AUpd.flat _ _ _ _ hf hvf hup) (AV.within.set _ _ _ hv2 hg) hnew
  refine⟨cs',?_,h5⟩
  simp only[List.map_cons,Instr.fill,hp]
  have hsz:(a.eval x).cells.size=r.size:=by rw[hr2,←hl]; simp
  simp only[aW,Step.off,Nat.add_zero]at hAl
  rw[if_neg (by
   simp only[hsz,ne_eq,not_true,decide_false,Bool.false_or,decide_eq_true_eq]
   have:m.length=r.size:=by rw[hml,hl,hr2]
   simp; omega)]
  rw[←hfill]
  congr 1
  rw[←Array.foldl_toList]
  have:=qq C' o (a.eval x).cells.toList 0 A m (by simpa using hAl) hml
  simpa using this
theorem rh (hT:aq P T) {gs:List Field} (hi:∀g∈gs,∃i,P.info? g.type=some i) (w:World) :
  (gs.mapM fun f=>do pure (f.offset,←sizeOf f.type):Sem (List (Nat×Nat))).run P w=.ok (gs.map fun f=>(f.offset,P.cellsOf f.type)) w:=by
 induction gs with
 | nil=>simp
 | cons g gs ih =>
  obtain⟨i,hgi⟩:=hi g (by simp)
  have ih:=ih (fun x hx=>hi x (by simp[hx]))
  have hs:(sizeOf g.type).run P w=.ok (P.cellsOf g.type) w:=by simp[sizeOf,typeInfo,hgi,Program.cellsOf]
  rw[List.mapM_cons]
  simp only[Sem.run_bind,hs,Result.andThen_ok,Sem.run_pure,List.map_cons]
  rw[ih]
  rfl
theorem aX (hT:aq P T) {t:TypeId} {r:TyR} {offs:List (Nat×Nat)} {parts:Array (Nat×Operand)} {q:AV} (ht:lk T t=some r) (hd:r.desc=.struct offs) (hq:iC T offs (ay env) parts.toList (.d r.zero)=some q) (hag:q.isAgg=true) :
  an P (.build t parts) env h n (some q) []:=.of_comes fun C G st σ w a o ho hA hdst hst hn=>by
 obtain⟨u,hu,hdu⟩:=(hT t r ht).und
 rw[hd]at hdu
 obtain⟨gs,rfl,hgs⟩:=hdu
 obtain⟨z,hz,hzc⟩:=(hT t r ht).run_zero w
 have hinfo:=(hT t r ht).flds gs hu
 have henc:Rel σ w (st.X C.X0 σ) (.d r.zero) false z.cells.toList:=by rw[←hzc]; exact Enc.closed _ _ _ (hT t r ht).zero
 obtain⟨cs',hfill,h1,h2,h3⟩:=fo hT hst hA (pl:=fun k=>(gs.map fun f=>(f.offset,P.cellsOf f.type))[k]?) (fun k o t' r' ho hr'=>by
  obtain⟨g,hg,rfl,rfl,_⟩:=hgs k o t' ho
  obtain⟨i,zz,hi,hs,_⟩:=(hT g.type r' hr').info
  simp[hg,Program.cellsOf,hi,hs]) parts.toList (.d r.zero) q z.cells.toList hq rfl trivial henc
 refine .quiet (u :=.agg cs'.toArray) hst hdst ⟨rfl,rfl⟩ ?_ (by unfold RelV; rw[if_pos hag]; exact⟨cs',rfl,h1⟩) h3
 have hp:=rh (P:=P) hT hinfo w
 have hp2:(gs.mapM fun f=>do pure (f.offset,←sizeOf f.type):Sem (Array (Nat×Nat))).run P w=.ok (gs.map fun f=>(f.offset,P.cellsOf f.type)) w:=by
  rw[Array.mapM_eq_mapM_toList]
  simp only[Sem.run_map,hp,Result.andThen_ok]
  congr 1
  apply Array.ext'
  simp
 have hcs:z.cells.toList.toArray=z.cells:=by simp
 have hpt:(parts.map fun x=>(x.1,a.eval x.2)).toList=parts.toList.map fun x=>(x.1,a.eval x.2):=by simp
 rw[hcs,←hpt]at hfill
 have hb:(Instr.build t (parts.map fun x=>(x.1,a.eval x.2))).run P w=.ok (.agg cs'.toArray) w:=by
  simp only[Instr.build,Sem.run_bind,hz,Result.andThen_ok,run_underlying hu,hp2,hfill,Sem.run_pure]
 simp only[execOp,ho,Sem.run_bind]
 rw[show (parts.map fun (x:Nat×Operand)=>match x with | (i,x)=>(i,a.eval x))=parts.map fun x=>(x.1,a.eval x.2) from rfl,hb]
 rfl
theorem aV (hT:aq P T) {t e len:Nat} {r re:TyR} (ht:lk T t=some r) (hd:r.desc=.array len e) (he:lk T e=some re):an P (.build t #[]) env h n (some (.d r.zero)) []:=.of_comes fun C G st σ w a o ho hA hdst hst hn=>by
 obtain⟨u,hu,hdu⟩:=(hT t r ht).und
 rw[hd]at hdu
 cases hdu
 obtain⟨z,hz,hzc⟩:=(hT t r ht).run_zero w
 have hag:r.zero.isAgg=true:=by rw[←(hT t r ht).agg,hd]; rfl
 refine .quiet (u :=.agg z.cells) hst hdst ⟨rfl,rfl⟩ ?_ (by unfold RelV; rw[if_pos (show (AV.d r.zero).isAgg=true from hag)]; exact⟨z.cells.toList,by simp,by rw[←hzc]; exact Enc.closed _ _ _ (hT t r ht).zero⟩) trivial
 have hb:(Instr.build t #[]).run P w=.ok (.agg z.cells) w:=by
  simp only[Instr.build,Sem.run_bind,hz,Result.andThen_ok,run_underlying hu,(hT e re he).run_size,Instr.fill,Sem.run_pure]
 simp only[execOp,ho,Sem.run_bind]
 rw[show ((#[]:Array (Nat×Operand)).map fun (x:Nat×Operand)=>(x.1,a.eval x.2)) = #[] from by simp,hb]
 rfl
def EqOk (P:Program) (m t:Nat) (x y:D) (b:Bool):Prop :=
 ∀(σ:Place) (w:World) (X:Nat→Prop) (u v:Value) (dd:Nat),RelV σ w X (.d x) u→RelV σ w X (.d y) v→(Op.equalIn (dd+m) t u v).run P w=.ok b w
def EqF (P:Program) (m:Nat) (gs:List Field) (off:Nat) (x y:D) (b:Bool):Prop :=
 ∀(σ:Place) (w:World) (X:Nat→Prop) (A A' c c':List Value) (dd:Nat),A.length=off→A'.length=off→Enc w X x c→Enc w X y c'→(Op.eqFields (dd+m) (A++c).toArray (A'++c').toArray gs).run P w=.ok b w
theorem EqOk.cast {m t:Nat} {x y:D} {b b':Bool} (h:EqOk P m t x y b) (hb:b=b'):EqOk P m t x y b':=hb ▸ h
theorem w8 {t:Nat} {k k':IntKind} {a b:Int} (ht:P.underlying t=some (.int k')):EqOk P 1 t (.sc (.int k a)) (.sc (.int k b)) (decide (a=b)):=by
 intro σ w X u v dd hu hv
 rw[(RelV.sc.1 hu).1,(RelV.sc.1 hv).1,run_equalIn_int w dd t k k' a b ht,Bool.beq_eq_decide_eq]
theorem Ai (hT:aq P T) {m t e n s:Nat} {α:Type} [DecidableEq α] {enc:α→D} {re:TyR} {xs ys:List α} (ht:P.underlying t=some (.array n e)) (hre:lk T e=some re) (hs:∀x,bK T e (.d (enc x))=true) (hrs:re.size=s) (he:∀x y,EqOk P m e (enc x) (enc y) (decide (x=y))) :
  EqOk P (m+1) t (.vec n s enc xs) (.vec n s enc ys) (decide (xs=ys)):=by
 intro σ w X u v dd hu hv
 obtain⟨c,rfl,hx,f,hf,rfl⟩:=hu.agg rfl
 obtain⟨c',rfl,hy,f',hf',rfl⟩:=hv.agg rfl
 obtain⟨i0,z0,hi0,hs0,_⟩:=(hT e re hre).info
 have hce:P.cellsOf e=s:=by simp[Program.cellsOf,hi0,hs0,hrs]
 rw[show dd+(m+1)=(dd+m)+1 from rfl,run_equalIn_array w (dd+m) _ _ ht hi0,hce]
 have key:∀(k j:Nat),j+k=n→(Op.eqItems (dd+m) e s (cat f n).toArray (cat f' n).toArray (List.range' j k)).run P w=.ok (decide (xs.drop j=ys.drop j)) w:=by
  intro k
  induction k with
  | zero =>
   intro j hj
   have h1:xs.drop j=[]:=List.drop_eq_nil_of_le (by omega)
   have h2:ys.drop j=[]:=List.drop_eq_nil_of_le (by omega)
   simp[Op.eqItems,h1,h2]
  | succ k ih =>
   intro j hj
   have hjx:j<xs.length:=by omega
   have hjy:j<ys.length:=by omega
   obtain⟨A,C,hA,hAl⟩:=eM n (f:=f) (s:=s) (fun i hi=>(hf i (by omega)).2) j (by omega)
   obtain⟨A',C',hA',hAl'⟩:=eM n (f:=f') (s:=s) (fun i hi=>(hf' i (by omega)).2) j (by omega)
   obtain⟨u,hu,hur⟩:=jP (P:=P) (σ:=σ) (w:=w) (v :=.d (enc xs[j])) hT (hs _) (cs:=cat f n) (A:=A) (m:=f j) (C:=C) (off:=j*s) ⟨hA,hAl⟩ (X:=X) (hf j hjx).1
   obtain⟨v,hv,hvr⟩:=jP (P:=P) (σ:=σ) (w:=w) (v :=.d (enc ys[j])) hT (hs _) (cs:=cat f' n) (A:=A') (m:=f' j) (C:=C') (off:=j*s) ⟨hA',hAl'⟩ (X:=X) (hf' j hjy).1
   simp only[List.range'_succ,Op.eqItems,Sem.run_bind,hu,hv,he _ _ σ w X u v dd hur hvr,Result.andThen_ok]
   rw[List.drop_eq_getElem_cons hjx,List.drop_eq_getElem_cons hjy]
   by_cases hxy:xs[j]=ys[j]
   ·simp only[hxy,decide_true,Bool.not_true,Bool.false_eq_true,if_false,ih (j+1) (by omega),List.cons.injEq,true_and]
   ·rw[decide_eq_false hxy,decide_eq_false (fun e=>hxy (List.cons.inj e).1)]
    simp
 have:=key n 0 (by omega)
 rw[List.range_eq_range']
 simpa using this
theorem bD {t t':TypeId} {x y:Operand} {a b:D} {m:Nat} {c:Bool} (hx:ay env x=some (.d a)) (hy:ay env y=some (.d b)) (hag:a.isAgg=true) (hbg:b.isAgg=true) (hg:P.eqGuardType P.depth t=false) (hm:m≤10000) (he:EqOk P m t a b c) :
  an P (.binOp .eql t x y t') env h n (some (.bool c)) []:=.of_comes fun C G st σ w A o ho hA hdst hst hn=>by
 have h1:=(ao hst (hA.ev hx)).1
 have h2:=(ao hst (hA.ev hy)).1
 have h3:=he σ w _ _ _ (10000-m) h1 h2
 rw[show 10000-m+m=10000 by omega]at h3
 obtain⟨p,hp,_⟩:=h1.agg (show (AV.d a).isAgg=true from hag)
 obtain⟨q,hq,_⟩:=h2.agg (show (AV.d b).isAgg=true from hbg)
 rw[hp,hq]at h3
 refine .quiet (u :=.bool c) hst hdst ⟨rfl,rfl⟩ ?_ (RelV.sc.2 ⟨rfl,rfl⟩) trivial
 simp only[execOp,ho,hp,hq,Sem.run_bind,run_eqGuard_agg w .eql t x y p.toArray q.toArray hg,Result.andThen_ok,run_eql_struct,h3,Sem.run_pure]
theorem im {t t':TypeId} {x y:Operand} {a b:D} {m:Nat} {c:Bool} (hx:ay env x=some (.d a)) (hy:ay env y=some (.d b)) (hag:a.isAgg=true) (hbg:b.isAgg=true) (hg:P.eqGuardType P.depth t=false) (hm:m≤10000) (he:EqOk P m t a b c) :
  an P (.binOp .neq t x y t') env h n (some (.bool (!c))) []:=.of_comes fun C G st σ w A o ho hA hdst hst hn=>by
 have h1:=(ao hst (hA.ev hx)).1
 have h2:=(ao hst (hA.ev hy)).1
 have h3:=he σ w _ _ _ (10000-m) h1 h2
 rw[show 10000-m+m=10000 by omega]at h3
 obtain⟨p,hp,_⟩:=h1.agg (show (AV.d a).isAgg=true from hag)
 obtain⟨q,hq,_⟩:=h2.agg (show (AV.d b).isAgg=true from hbg)
 rw[hp,hq]at h3
 refine .quiet (u :=.bool (!c)) hst hdst ⟨rfl,rfl⟩ ?_ (RelV.sc.2 ⟨rfl,rfl⟩) trivial
 simp only[execOp,ho,hp,hq,Sem.run_bind,run_eqGuard_agg w .neq t x y p.toArray q.toArray hg,Result.andThen_ok,run_neq_struct,h3,Sem.run_pure]
end
end Go.Eng
namespace Go.Eng
open Go.RowKit Go.ChangeShapes Go.WideShapes Go.ChangeAt
def Opens (P:Program) (t s:Nat) {α:Type} (enc:α→D) (wf:α→Prop):Prop :=
 ∀(H:Type) (en:TypeId×Value→H) (w:World) (spare:Nat→Bool) (held:Bool) (fuel:Nat) (cs:List Value) (x:DataW H×List MemPlace),DataW.trod en P w 0 spare held fuel t cs=some x →
  ∃a:α,Enc w (fun _=>False) (enc a) cs∧cs.length=s∧wf a
def CI (P:Program) (gs:List Field) (off:Nat) {α:Type} (enc:α→D) (wf:α→Prop):Prop :=
 ∀(H:Type) (en:TypeId×Value→H) (w:World) (spare:Nat→Bool) (held:Bool) (fuel:Nat) (cs:List Value),
  (∀f∈gs,∃x,DataW.trod en P w 0 spare held fuel f.type ((cs.drop f.offset).take (P.cellsOf f.type))=some x) →
  ∃(a:α) (c r:List Value),cs.drop off=c++r∧Enc w (fun _=>False) (enc a) c∧wf a
section
variable {P : Program} {t s : Nat} {α β : Type} {enc : α → D} {wf : α → Prop}
def wC (W:World):Ctx:=⟨W.heap.size,W,fun _=>False,fun _=>False,64,fun _=>none,none⟩
def fH (W:World):List AV→List Value→Prop
 | [],vs=>vs=[]
 | d::ds,vs=>∃v us,vs=v::us∧(RelV (fun _=>none) W (fun _=>False) d v∧d.within fun _=>False)∧fH W ds us
theorem fH.len {W:World}:∀(ds:List AV) (vs:List Value),fH W ds vs→vs.length=ds.length
 | [],vs,h=>by obtain rfl:vs=[]:=h; rfl
 | d::ds,vs,h=>by obtain⟨v,us,rfl,_,h2⟩:=h; simp[fH.len ds us h2]
theorem fH.at {W:World}:∀(ds:List AV) (vs:List Value) (k:Nat),fH W ds vs→∀i v,lk (dD k ds) i=some v→∃j u,i=k+j∧vs[j]?=some u∧RelV (fun _=>none) W (fun _=>False) v u∧v.within fun _=>False
 | [],vs,k,_,i,v,h=>by simp[dD,lk]at h
 | d::ds,vs,k,ha,i,v,h=>by
  obtain⟨u,us,rfl,h1,h2⟩:=ha
  simp only[dD,aQ]at h
  split at h
  ·rename_i e
   subst e
   simp only[Option.some.injEq]at h
   subst h
   exact⟨0,u,rfl,rfl,h1⟩
  ·obtain⟨j,u',rfl,h3,h4⟩:=fH.at ds us (k+1) h2 i v h
   exact⟨j+1,u',by omega,by simpa using h3,h4⟩
theorem uD {f:FuncId} {avs:List AV} {rows:List (Nat×Row)} {W:World} {args:Array Value} {v0:Value} (h:FnIs P f avs [] (.d (.sc v0)) rows) (ha:fH W avs args.toList) (hgl:∀x∈nW,x.2 (W.heap[x.1]?)∧x.1<W.heap.size:=by intro x hx; cases hx):Calls P f args W fun e W'=>e=.returned v0∧Below W.heap.size W W':=by
  have hst:aH (wC W) (fun r=>r<64) (inSt avs []) (fun _=>none) W ⟨args,[]⟩:=
    { env:=fun i v hi=>by
        obtain⟨j,u,rfl,h1,h2,_⟩:=fH.at avs args.toList 0 ha i v hi
        refine⟨u,by simpa using h1,RelV.mono (G:=fun _=>False) (fun _ h=>h.elim) (fun _ _ h3 h4=>⟨.rfl' h3,fun hx=>?_⟩) (by assumption) h2⟩
        rcases hx with hx | ⟨r,row,c,h5,_⟩
        · exact hx
        · simp[inSt,bn,St.row,lk]at h5
      envG:=fun i v hi=>by
        obtain⟨j,u,rfl,h1,h2,h3⟩:=fH.at avs args.toList 0 ha i v hi
        exact AV.within.mono (fun _ h=>h.elim) v h3
      rows:=fun r row hr=>by simp[inSt,bn,St.row,lk]at hr
      rowsG:=fun r row hr=>by simp[inSt,bn,St.row,lk]at hr
      inj:=fun r r' row row' b c c' hr=>by simp[inSt,bn,St.row,lk]at hr
      high:=fun r row b c hr=>by simp[inSt,bn,St.row,lk]at hr
      size:=Nat.le_refl _
      below:=ea.refl _ _ _
      defers:=trivial
      sz:=by have:=fH.len avs args.toList ha; simpa[inSt]using this
      x0:=fun b hb=>hb.elim
      agree:=fun _ _=>rfl
      baseG:=fun r hr=>hr
      bs:=rfl
      rok:=fun _ h=>(by cases h)
      glob:=fun x hx=>⟨(hgl x hx).1,(hgl x hx).2,fun h=>h.elim⟩ }
  have hc:=h.2 (wC W) (fun _=>none) W args.toList rfl rfl rfl rfl rfl (by simpa using hst)
  simp only[Array.toArray_toList]at hc
  refine hc.mono ?_
  rintro e W' ⟨v,σ',rfl,h2⟩
  obtain⟨u,hu,hr⟩:=h2.env 0 _ rfl
  obtain⟨rfl,_⟩:=RelV.sc.1 hr
  simp only[List.getElem?_toArray,List.getElem?_cons_zero,Option.some.injEq]at hu
  subst hu
  have hb:=h2.below
  exact⟨rfl,⟨hb.os,hb.tape,hb.output,hb.size,fun k hk=>hb.block k hk (fun hf=>hf)⟩⟩
end
end Go.Eng
namespace Go.Eng
open Go.RowKit
theorem AV.ren_id:∀(v:AV),v.ren (rho [])=v:=by
 intro v
 induction v with
 | acons a r iha ihr=>simp only[AV.ren,iha,ihr]
 | fn f p q ihp ihq=>simp only[AV.ren,ihp,ihq]
 | tup q ih=>simp only[AV.ren,ih]
 | _=>rfl
def Cp (n:Nat):Env→Bool
 | []=>true
 | (_,v)::l=>bif v.lt n then Cp n l else false
def vL (n:Nat):Upds→Bool
 | []=>true
 | (r,some row)::l=>bif Nat.blt r n then (bif row.lt n then vL n l else false) else false
 | (_,none)::l=>vL n l
def CutK (d:Nat) (v:AV) (env0:Env) (h0:Upds) (N sz:Nat) (env:Env) (h:Upds) (n:Nat):Prop :=
 n=N∧Le [] ⟨env,h,n,sz,64⟩ ⟨(d,v)::env0,h0,N,sz,64⟩
section
variable {P : Program} {sz n : Nat} {Q : Exit → St → Prop} {env : Env} {h : Upds}
end
end Go.Eng
namespace Go.Eng
open Go.RowKit
section
variable {C : Ctx} {w w' : World} {G : Nat → Prop} {st : St} {σ : Place} {a : Act}
theorem St.row_two (st:St) (n r:Nat) (row:Option Row) (q:Nat):(st.upd [(n,row),(r,none)]).row q=if n=q then row else if r=q then none else st.row q:=by
 simp only[St.upd,St.row,List.cons_append,List.nil_append,aQ]
 split
 ·simp
 ·split
  ·simp
  ·rfl
theorem aH.swap (h:aH C G st σ w a) {n r:Nat} (hn:¬G n) {old:Row} (hr:st.row r=some old) (hg:w.grownBy w' ((σ r).map (·.1))) {b c:Nat} (hb:(∃c0,σ r=some (b,c0))∨w.heap.size≤b) (row:Row) (hw:row.within G)
  (hrow:∀(σ':Place) (X':Nat→Prop),(∀(x:AV) (m:Bool) (l:List Value),x.within G→Rel σ w (st.X C.X0 σ) x m l→Rel σ' w' X' x m l)→(∀(x:D) (l:List Value),Enc w (st.X C.X0 σ) x l→Enc w' X' x l) →
   σ' n=some (b,c)→bw σ' w' X' n row) :
  aH C (fun q=>G q∨q=n) (st.upd [(n,some row),(r,none)]) (fun q=>if q=n then some (b,c) else σ q) w' a:=by
 have hGr:=(h.rowsG r _ hr).1
 have hnr:n≠r:=fun e=>hn (e ▸ hGr)
 have hne:∀q,G q→q≠n:=fun q hq e=>hn (e ▸ hq)
 have hold:∀q row',st.row q=some row' → ∀b c',σ q=some (b,c')→b<w.heap.size:=fun q row' hq b c' hs=>h.lt hq hs
 have hsame:∀q row',st.row q=some row'→q≠r→∀b1 c1,σ q=some (b1,c1)→w'.heap[b1]?=w.heap[b1]?:=by
  intro q row' hq hqr b1 c1 hs
  refine hg.block b1 (hold _ _ hq _ _ hs) fun e=>?_
  cases hsr:σ r with
  | none=>rw[hsr]at e; cases e
  | some p =>
   rw[hsr]at e
   simp only[Option.map_some,Option.some.injEq]at e
   obtain⟨b2,c2⟩:=p
   simp only at e
   subst e
   exact hqr (h.inj _ _ _ _ _ _ _ hq hr hs hsr)
 have hX:∀q,(st.upd [(n,some row),(r,none)]).X C.X0 (fun q=>if q=n then some (b,c) else σ q) q→st.X C.X0 σ q∨w.heap.size≤q:=by
  rintro q (hx0 | ⟨r1,row1,c1,h1,h2⟩)
  ·exact .inl (.inl hx0)
  rw[St.row_two]at h1
  by_cases e:r1=n
  ·subst e
   simp only[if_true,Option.some.injEq,Prod.mk.injEq]at h2
   rw[←h2.1]
   rcases hb with ⟨c0,hb⟩ | hb
   ·exact .inl (.inr ⟨r,old,c0,hr,hb⟩)
   ·exact .inr hb
  ·rw[if_neg (Ne.symm e)]at h1
   simp only[if_neg e]at h2
   split at h1
   ·cases h1
   ·exact .inl (.inr ⟨r1,row1,c1,h1,h2⟩)
 have hσ:∀q,G q→((fun q=>if q=n then some (b,c) else σ q):Place) q=σ q:=fun q hq=>by simp[hne q hq]
 have hk:∀(a:Addr) (u:Value),w.cell? a=some u→¬st.X C.X0 σ a.block→Kp w w' a u∧¬(st.upd [(n,some row),(r,none)]).X C.X0 (fun q=>if q=n then some (b,c) else σ q) a.block:=by
  intro a u h1 h2
  have hlt:=World.block_lt_of_cell? w a h1
  refine⟨?_,fun hx=>?_⟩
  ·refine .of_block (hg.block _ hlt fun e=>?_) h1
   cases hsr:σ r with
   | none=>rw[hsr]at e; cases e
   | some p =>
    rw[hsr]at e
    simp only[Option.map_some,Option.some.injEq]at e
    exact h2 (.inr ⟨r,old,p.2,hr,by rw[hsr,e]⟩)
  ·rcases hX _ hx with hx | hx
   ·exact h2 hx
   ·omega
 refine h.core (fun r hr=>.inl hr) hσ hk rfl rfl rfl ?_ ?_ ?_ (Nat.le_trans h.size hg.size) ?_
 ·intro q row' hq
  rw[St.row_two]at hq
  split at hq
  ·rename_i e
   subst e
   simp only[Option.some.injEq]at hq
   subst hq
   refine .inr ⟨.inr rfl,?_,hrow _ _ (fun x m l hx=>Rel.mono hσ hk x m l hx) (fun x l=>Enc.mono hk x l) (by simp)⟩
   cases row with
   | box t x=>exact AV.within.mono (fun r hr=>.inl hr) x hw
   | ds=>trivial
   | lits t s k ex x=>exact AV.within.mono (fun r hr=>.inl hr) x hw
   | mo x=>exact AV.within.mono (fun r hr=>.inl hr) x hw
   | si=>trivial
   | mq=>trivial
   | lo=>trivial
   | mi x=>exact AV.within.mono (fun r hr=>.inl hr) x hw
  ·split at hq
   ·cases hq
   ·rename_i e1 e2
    exact .inl ⟨hq,fun b1 c1 hs=>hsame _ _ hq (Ne.symm e2) _ _ hs⟩
 ·intro r1 r2 row1 row2 b1 c1 c2 h1 h2 h3 h4
  rw[St.row_two]at h1 h2
  have key:∀q row1 c1,q≠n→(if n=q then some row else if r=q then none else st.row q)=some row1→σ q=some (b,c1)→False:=by
   intro q row1 c1 hq h1 h3
   rw[if_neg (Ne.symm hq)]at h1
   split at h1
   ·cases h1
   ·rename_i e
    rcases hb with ⟨c0,hb⟩ | hb
    ·exact e (h.inj _ _ _ _ _ _ _ hr h1 hb h3)
    ·have:=hold _ _ h1 _ _ h3; omega
  by_cases e1:r1=n <;> by_cases e2:r2=n
  ·rw[e1,e2]
  ·simp only[e1,if_true,Option.some.injEq,Prod.mk.injEq]at h3
   simp only[if_neg e2]at h4
   rw[←h3.1]at h4
   exact (key _ _ _ e2 h2 h4).elim
  ·simp only[e2,if_true,Option.some.injEq,Prod.mk.injEq]at h4
   simp only[if_neg e1]at h3
   rw[←h4.1]at h3
   exact (key _ _ _ e1 h1 h3).elim
  ·rw[if_neg (Ne.symm e1)]at h1
   rw[if_neg (Ne.symm e2)]at h2
   simp only[if_neg e1]at h3
   simp only[if_neg e2]at h4
   split at h1 <;> try (cases h1; done)
   split at h2 <;> try (cases h2; done)
   exact h.inj _ _ _ _ _ _ _ h1 h2 h3 h4
 ·intro r1 row1 b1 c1 h1 h2
  rw[St.row_two]at h1
  by_cases e:r1=n
  ·simp only[e,if_true,Option.some.injEq,Prod.mk.injEq]at h2
   rw[←h2.1]
   rcases hb with ⟨c0,hb⟩ | hb
   ·exact h.high _ _ _ _ hr hb
   ·have:=h.size
    exact .inl (by omega)
  ·rw[if_neg (Ne.symm e)]at h1
   simp only[if_neg e]at h2
   split at h1
   ·cases h1
   ·exact h.high _ _ _ _ h1 h2
 ·refine⟨hg.os,hg.tape,hg.output,hg.size,fun k hk' hm=>?_,fun k o ho hbk=>?_⟩
  rotate_left
  ·refine (hg.block k (Array.getElem?_eq_some_iff.1 ho).1 fun e=>?_).trans ho
   cases hsr:σ r with
   | none=>rw[hsr]at e; cases e
   | some p =>
    obtain⟨b2,c2⟩:=p
    rw[hsr]at e
    simp only[Option.map_some,Option.some.injEq]at e
    subst e
    obtain⟨o',hc,hnb⟩:=h.cells hr hsr
    rw[ho]at hc
    cases hc
    rw[hbk]at hnb
    cases hnb
  have hsz:=h.size
  refine hg.block k (by omega) fun e=>?_
  cases hsr:σ r with
  | none=>rw[hsr]at e; cases e
  | some p =>
   rw[hsr]at e
   simp only[Option.map_some,Option.some.injEq]at e
   rcases h.high r old p.1 p.2 hr hsr with h1 | h1
   ·omega
   ·exact hm (e ▸ h1)
end
theorem cR (w:World) (o:Obj) (row:Option Nat):w.grownBy (w.drew.alloc o) row:=⟨rfl,rfl,rfl,by simp,fun k hk _=>heap_alloc_old w.drew _ hk⟩
section
variable {P : Program} {T : Tab} {sz : Nat} {env : Env} {h : Upds} {n : Nat}
def qT {α:Type} (s:Nat) (enc:α→D) (ys:List α) (w:World) (X:Nat→Prop) (u:Value):Prop :=
 ∃(ad:Addr) (c:Nat) (f:Nat→List Value),u=.slice (some ad) ys.length c∧(∀i (h:i<ys.length),Enc w X (enc ys[i]) (f i)∧(f i).length=s)∧∀j v,(cat f ys.length)[j]?=some v→w.cell? (ad.add j)=some v
theorem jH {α:Type} {s:Nat} {enc:α→D} {w:World} {X:Nat→Prop} {xs ys:List α} {f g:Nat→List Value} (hf:∀i (h:i<xs.length),Enc w X (enc xs[i]) (f i)∧(f i).length=s) (hg:∀i (h:i<ys.length),Enc w X (enc ys[i]) (g i)∧(g i).length=s) :
  ∃F:Nat→List Value,(∀i (h:i<(xs++ys).length),Enc w X (enc (xs++ys)[i]) (F i)∧(F i).length=s)∧cat F (xs++ys).length=cat f xs.length++cat g ys.length:=by
 refine⟨fun i=>if i<xs.length then f i else g (i-xs.length),fun i hi=>?_,?_⟩
 ·by_cases hlt:i<xs.length
  ·simp only[if_pos hlt,List.getElem_append_left hlt]; exact hf i hlt
  ·simp only[if_neg hlt]
   rw[List.getElem_append_right (by omega)]
   exact hg _ (by simp at hi; omega)
 ·rw[List.length_append,fQ]
  congr 1
  ·exact di _ fun i hi=>by simp[hi]
  ·exact di _ fun i hi=>by simp[show ¬(xs.length+i<xs.length) by omega]
theorem iK (hT:aq P T) {t ty e r:Nat} {re:TyR} {s:Nat} {ex:Bool} {α:Type} {enc:α→D} {xs ys:List α} {x y:Operand} {v:AV} (ht:bh T t=some (.slice e)) (he:lk T e=some re) (hs:re.size=s) (hs0:0<s)
  (hx:ay env x=some (.own r 0 xs.length s none)) (hrow:bp h r=some (.ds e s ex enc xs)) (hy:ay env y=some v) (hys:0<ys.length) (hlen:xs.length+ys.length≤maxLen) (hbytes:(xs.length+ys.length)*re.bytes≤140737488355328)
  (hsrc:∀(C:Ctx) (G:Nat→Prop) (st:St) (σ:Place) (w:World) (a:Act),fh env h st→aH C G st σ w a→qT s enc ys w (st.X C.X0 σ) (a.eval y)) :
  an P (.call { callee :=.builtin .append,args := #[x,y],argTypes := #[t,t] }) env h n (some (.own n 0 (xs.length+ys.length) s none)) [(n,some (.ds e s false enc (xs++ys))),(r,none)]:=.of_comes fun C G st σ w a o ho hA hd hst hn=>by
 obtain⟨hx1,hx2⟩:=ao hst (hA.ev hx)
 obtain⟨ad,c1,g,hu,hg,hgc⟩:=hsrc C G st σ w a hA hst
 have hr:=hA.row _ _ hrow
 obtain⟨i,z,hi,hi1,hi2,hi3,hi4⟩:=(hT e re he).info
 obtain⟨ud,hud,hdd⟩:=aS hT ht
 cases hdd
 have hz:z.cells.size=s:=by
  have h1:=Enc.len _ _ (Enc.closed w (fun _=>False) _ (hT e re he).zero)
  rw[hi4]at h1
  simpa[(hT e re he).zsize,hs]using h1
 have hnn:¬G n:=hn n (Nat.le_refl _) (by omega)
 have hgl:(cat g ys.length).length=ys.length*s:=cf _ fun i hi=>(hg i hi).2
 have fin:∀(b c:Nat) (cur:Array Value) (w':World),(∃c0,σ r=some (b,c0))∨w.heap.size≤b→w.grownBy w' ((σ r).map (·.1))→w'.heap[b]?=some (.cells cur e (0,0))→cur.size=c*s→xs.length+ys.length≤c→c≤maxLen →
   (∃f:Nat→List Value,(∀i (h:i<xs.length),Enc w (st.X C.X0 σ) (enc xs[i]) (f i)∧(f i).length=s)∧cur.toList.take ((xs.length+ys.length)*s)=cat f xs.length++cat g ys.length) →
   (Builtin.append_ #[t,t] o.type #[a.eval x,a.eval y]).run P w=.ok (.slice (some ⟨b,0,none⟩) (xs.length+ys.length) c) w' →
   b5 P C G st n o a w (fun v' u'=>v'=some (.own n 0 (xs.length+ys.length) s none)∧u'=[(n,some (.ds e s false enc (xs++ys))),(r,none)]):=by
  rintro b c cur w' hb hgr hh hcs hle hcm ⟨f,hf,htk⟩ hrun
  obtain⟨F,hF,hFc⟩:=jH hf hg
  have hsw:=hst.swap hnn hr hgr (c:=c) hb (.ds e s false enc (xs++ys)) trivial (fun σ' X' hk1 hk2 hσn=>by
   refine .inr ⟨b,c,cur,hσn,(fun e=>nomatch e),hh,hcs,by simpa using hle,hcm,F,fun i hi=>⟨hk2 _ _ (hF i hi).1,(hF i hi).2⟩,?_⟩
   rw[List.length_append,htk,←hFc,List.length_append])
  have hval:RelV (fun q=>if q=n then some (b,c) else σ q) w' ((st.upd [(n,some (.ds e s false enc (xs++ys))),(r,none)]).X C.X0 (fun q=>if q=n then some (b,c) else σ q)) (.own n 0 (xs.length+ys.length) s none) (.slice (some ⟨b,0,none⟩) (xs.length+ys.length) c):=
   RelV.own.2 (.inr ⟨b,c,⟨b,0,none⟩,by simp,by simp,by simpa using hle,by simp,by simpa using hle,fun _=>by simp⟩)
  refine⟨_,_,.value (.slice (some ⟨b,0,none⟩) (xs.length+ys.length) c),_,w',_,fun q=>G q∨q=n,⟨rfl,rfl⟩,?_,.inl rfl,by rw[St.put_upd]; exact hsw.set hd hval (.inr rfl),fun r hr=>Or.inl hr,fun r hr=>Or.imp id (fun h=>⟨by omega,by omega⟩) hr⟩
  simp[execOp,ho,resolve,invoke,builtin,hrun]
 have h63:¬(9223372036854775807<xs.length+ys.length):=by simp only[maxLen]at hlen; omega
 rcases hst.rows r _ hr with ⟨hσ,hxs⟩ | ⟨b,c,cur,hσ,_,hh,hcs,hle,hcm,f,hf,htk⟩
 ·rcases RelV.own.1 hx1 with ⟨_,_,_,_,hv⟩ | ⟨b,c,_,hσ',_⟩
  ·subst hxs
   have hrun:=run_append_nil (P:=P) w t o.type e i z hud hi hi3 ad ys.length c1 (cat g ys.length) (by rw[hgl,hi1,hs]) hgc hys (by omega) (by rw[hi2]; simp at hbytes; omega)
   refine fin w.heap.size (grownCap w ys.length 0 e) ((cat g ys.length).toArray++Builtin.zeroCells z.cells (grownCap w ys.length 0 e-ys.length)) _ (.inr (Nat.le_refl _)) (cR w _ _) (heap_alloc_new w.drew _) ?_ ?_ (grownCap_le_maxLen w ys.length 0 e (by simpa using hlen)) ⟨g,fun i hi=>by simp at hi,?_⟩ (by rw[hv,hu,hrun]; simp)
   ·have hge:=grownCap_ge w ys.length 0 e
    simp only[Array.size_append,List.size_toArray,size_zeroCells,hz,hgl,←Nat.add_mul]
    congr 1; omega
   ·simpa using grownCap_ge w ys.length 0 e
   ·simp only[Array.toList_append,List.length_nil,Nat.zero_add,cat,List.nil_append]
    rw[←hgl]
    exact List.take_left
  ·rw[hσ]at hσ'; cases hσ'
 ·rcases RelV.own.1 hx1 with ⟨hσ',_⟩ | ⟨b',c',a',hσ',hv,_,_,hlec,had⟩
  ·rw[hσ]at hσ'; cases hσ'
  ·rw[hσ]at hσ'
   cases hσ'
   simp only[Option.getD_none,Nat.sub_zero]at hv hlec
   have hfl:(cat f xs.length).length=xs.length*s:=cf _ fun i hi=>(hf i hi).2
   by_cases hroom:xs.length+ys.length≤c
   ·have:a'=⟨b,0,none⟩:=by have:=had (by omega); simpa using this
    subst this
    have hrun:=run_append_room (P:=P) w t o.type e i hud hi b xs.length c cur hh ad ys.length c1 (cat g ys.length) (by rw[hgl,hi1,hs]) hgc (fun u hu=>by
     obtain⟨k,hk,hu⟩:=js _ hu
     exact Enc.one _ _ (hg k hk).1 u hu) hroom (by rw[hgl,hi1,hs,hcs,←Nat.add_mul]; exact Nat.mul_le_mul_right _ hroom)
    refine fin b c _ _ (.inl ⟨c,hσ⟩) ?_ (setRow_heap w b cur _ e _ hh) ?_ hroom hcm ⟨f,hf,?_⟩ (by rw[hv,hu,hrun])
    ·exact⟨rfl,rfl,rfl,by simp,fun k _ hk=>setRow_other w b k _ (fun e=>hk (by rw[hσ]; simp[e]))⟩
    ·have hm:=Nat.mul_le_mul_right s hroom
     rw[Nat.add_mul]at hm
     simp only[List.size_toArray,List.length_append,List.length_take,List.length_drop,Array.length_toList,hi1,hs,hgl,hcs]
     omega
    ·rw[hi1,hs,htk,List.append_assoc,←List.append_assoc]
     have:(xs.length+ys.length)*s=(cat f xs.length++cat g ys.length).length:=by rw[List.length_append,hfl,hgl,Nat.add_mul]
     rw[this]
     exact List.take_left
   ·have hrun:=run_append_grow (P:=P) w t o.type e i z hud hi hi3 a' xs.length c (cat f xs.length) (by rw[hfl,hi1,hs]) (fun j u hj=>by
     have hjl:j<xs.length*s:=by rw[←hfl]; exact (List.getElem?_eq_some_iff.1 hj).1
     have hc0:0<c:=by
      rcases Nat.eq_zero_or_pos c with rfl | h1
      ·have:xs.length=0:=by omega
       rw[this]at hjl; omega
      ·exact h1
     have:a'=⟨b,0,none⟩:=by have:=had hc0; simpa using this
     subst this
     rw[dr,cell_of_row w b _ cur e (0,0) hh]
     rw[←htk,List.getElem?_take,if_pos hjl]at hj
     rw[Nat.zero_add,←Array.getElem?_toList]
     exact hj) ad ys.length c1 (cat g ys.length) (by rw[hgl,hi1,hs]) hgc (by omega) (by omega) (growslice_fits (by omega) (by rw[hi2]; exact hbytes))
    refine fin w.heap.size _ _ _ (.inr (Nat.le_refl _)) (cR w _ _) (heap_alloc_new w.drew _) ?_ (grownCap_ge w _ c e) (grownCap_le_maxLen w _ c e hlen) ⟨f,hf,?_⟩ (by rw[hv,hu,hrun])
    ·have hge:=grownCap_ge w (xs.length+ys.length) c e
     simp only[Array.size_append,List.size_toArray,size_zeroCells,hz,hgl,hfl,←Nat.add_mul]
     congr 1; omega
    ·simp only[Array.toList_append]
     have:(xs.length+ys.length)*s=(cat f xs.length++cat g ys.length).length:=by rw[List.length_append,hfl,hgl,Nat.add_mul]
     rw[this]
     exact List.take_left
end
end Go.Eng
namespace Go.Eng
open Go.RowKit
def gD (z:D):Nat→AV
 | 0=>.anil
 | n+1=>.acons (.d z) (gD z n)
def kD (s e:Nat):Nat→Nat→List (Nat×Nat)
 | _,0=>[]
 | i,n+1=>(i*s,e)::kD s e (i+1) n
theorem nO {s e:Nat}:∀(n i k o t:Nat),(kD s e i n)[k]?=some (o,t)→o=(i+k)*s∧t=e∧k<n
 | 0,i,k,o,t,h=>by simp[kD]at h
 | n+1,i,0,o,t,h=>by
  simp only[kD,List.getElem?_cons_zero,Option.some.injEq,Prod.mk.injEq]at h
  exact⟨by rw[←h.1]; rfl,h.2.symm,by omega⟩
 | n+1,i,k+1,o,t,h=>by
  obtain⟨h1,h2,h3⟩:=nO n (i+1) k o t (by simpa[kD]using h)
  exact⟨by rw[h1]; congr 1; omega,h2,by omega⟩
theorem nB {σ:Place} {w:World} {X:Nat→Prop} {z:D} {L:List Value} (h:Enc w X z L):∀n,Rel σ w X (gD z n) false (List.replicate n L).flatten
 | 0=>rfl
 | n+1=>⟨L,(List.replicate n L).flatten,by simp[List.replicate_succ],h,nB h n⟩
theorem mc {z:D}:∀n,(gD z n).flat=true
 | 0=>rfl
 | n+1=>by simp only[gD,AV.flat,cond_true]; exact mc n
theorem jM {z:D} {G:Nat→Prop}:∀n,(gD z n).within G
 | 0=>trivial
 | n+1=>⟨trivial,jM n⟩
theorem jF (L:List Value) (hL:0<L.length) (n:Nat):((Array.range (n*L.length)).map (fun i=>L.toArray[i % L.toArray.size]!)).toList=(List.replicate n L).flatten:=by
 induction n with
 | zero=>simp
 | succ n ih =>
  have h1:(List.replicate (n+1) L).flatten=(List.replicate n L).flatten++L:=by
   rw[List.replicate_succ']; simp
  rw[h1,←ih]
  simp only[Array.toList_map,Array.toList_range]
  rw[Nat.add_mul,Nat.one_mul,List.range_add,List.map_append]
  congr 1
  apply List.ext_getElem
  ·simp
  ·intro i h2 h3
   have hi:i<L.length:=by simpa using h2
   simp only[List.getElem_map,List.getElem_range,List.size_toArray]
   rw[Nat.mul_comm,Nat.mul_add_mod,Nat.mod_eq_of_lt hi]
   simp[hi]
section
variable {P : Program} {T : Tab} {sz : Nat} {env : Env} {h : Upds} {n : Nat}
theorem aC (hT:aq P T) {t e len:Nat} {re:TyR} {parts:Array (Nat×Operand)} {s:Nat} {q:AV} (ht:bh T t=some (.slice e)) (he:lk T e=some re) (hs:re.size=s) (hs0:Nat.blt 0 s=true) (hn0:Nat.ble 1 len=true) (hlen:Nat.ble (len*s) 16777216=true)
  (hq:iC T (kD s e 0 len) (ay env) parts.toList (gD re.zero len)=some q) (hqs:Nat.beq q.size (len*s)=true) :
  an P (.buildSlice t len parts) env h n (some (.own n 0 len s none)) [(n,some (.lits e s len true q))]:=.of_comes fun C G st σ w a o ho hA hdst hst hn=>by
 obtain⟨ud,hud,hdd⟩:=aS hT ht
 cases hdd
 have hs0:=Nat.le_of_ble_eq_true hs0
 have hn0:=Nat.le_of_ble_eq_true hn0
 have hlen:=Nat.le_of_ble_eq_true hlen
 have hqs:=Nat.eq_of_beq_eq_true hqs
 obtain⟨z,hz,hzc⟩:=(hT e re he).run_zero w
 have hzl:z.cells.toList.length=s:=by
  have h1:=Enc.len _ _ (Enc.closed w (fun _=>False) _ (hT e re he).zero)
  rw[hzc,(hT e re he).zsize,hs]at h1
  exact h1
 have henc:Enc w (st.X C.X0 σ) re.zero z.cells.toList:=by rw[←hzc]; exact Enc.closed _ _ _ (hT e re he).zero
 obtain⟨cs',hfill,h1,h2,h3⟩:=fo hT hst hA (pl:=fun i=>some (i*s,s)) (fun k o t' r' ho hr'=>by
  obtain⟨h4,h5,_⟩:=nO len 0 k o t' ho
  subst h5
  rw[he]at hr'
  cases hr'
  rw[h4,hs,Nat.zero_add]) parts.toList (gD re.zero len) q _ hq (mc len) (jM len) (nB henc len)
 have hcl:cs'.length=len*s:=by rw[Rel.len _ _ h2 h1,hqs]
 have hnn:¬G n:=hn n (Nat.le_refl _) (by omega)
 obtain⟨hst',hσn⟩:=hst.new hnn cs'.toArray e len (.lits e s len true q) h3 (fun σ' w' X' hk1 hk2 hσn hh=>by
  refine⟨h2,.inr ⟨w.heap.size,len,cs'.toArray,cs',hσn,fun _=>rfl,hh,by simp[hcl],Nat.le_refl _,?_,hcl,hk1 _ _ _ h3 h1,by simp[←hcl]⟩⟩
  have:len≤len*s:=Nat.le_mul_of_pos_right _ hs0
  simp only[maxLen]; omega)
 refine⟨_,_,.value (.slice (some ⟨w.heap.size,0,none⟩) len len),_,_,_,fun r=>G r∨r=n,⟨rfl,rfl⟩,?_,.inl rfl,by rw[St.put_upd]; exact hst'.set hdst (u :=.slice (some ⟨w.heap.size,0,none⟩) len len) (RelV.own.2 (.inr ⟨w.heap.size,len,⟨w.heap.size,0,none⟩,hσn,by simp,by simp,by simp,by simp,fun _=>by simp⟩)) (.inr rfl),
  fun r hr=>Or.inl hr,fun r hr=>Or.imp id (fun h=>⟨by omega,by omega⟩) hr⟩
 have hpt:(parts.map fun x=>(x.1,a.eval x.2)).toList=parts.toList.map fun x=>(x.1,a.eval x.2):=by simp
 have hb:(Instr.buildSlice t len (parts.map fun x=>(x.1,a.eval x.2))).run P w=.ok (.slice (some ⟨w.heap.size,0,none⟩) len len) (w.alloc (.cells cs'.toArray e)):=by
  have hbig:¬(len*s>2 ^ 24):=by omega
  have hne:¬(len*s=0):=by
   have:0<len*s:=Nat.mul_pos (by omega) hs0
   omega
  have hinit:(Array.range (len*s)).map (fun i=>z.cells[i % z.cells.size]!)=(List.replicate len z.cells.toList).flatten.toArray:=by
   have:=jF z.cells.toList (by omega) len
   rw[hzl]at this
   apply Array.ext'
   simpa using this
  simp only[Instr.buildSlice,Sem.run_bind,run_underlying hud,Result.andThen_ok,(hT e re he).run_size,hs,if_neg hbig,if_neg hne,Sem.run_pure,hz,hinit]
  rw[hpt,hfill]
  simp[newRow]
 simp only[execOp,ho,Sem.run_bind]
 rw[show (parts.map fun (x:Nat×Operand)=>match x with | (i,x)=>(i,a.eval x))=parts.map fun x=>(x.1,a.eval x.2) from rfl,hb]
 rfl
end
end Go.Eng
namespace Go.Eng
open Go.RowKit
section
variable {P : Program} {T : Tab} {sz : Nat} {env : Env} {h : Upds} {n : Nat}
theorem aR (hT:aq P T) {t e r r2:Nat} {re:TyR} {s:Nat} {ex ex2:Bool} {cap2:Option Nat} {α:Type} {enc:α→D} {xs:List α} {x y:Operand} {d:D} (el:α) (ht:bh T t=some (.slice e)) (he:lk T e=some re) (hs:Nat.beq re.size s=true) (hs0:Nat.blt 0 s=true)
  (hx:ay env x=some (.own r 0 xs.length s none)) (hrow:bp h r=some (.ds e s ex enc xs)) (hy:ay env y=some (.own r2 0 1 s cap2)) (hrow2:bp h r2=some (.lits e s 1 ex2 (.acons (.d d) .anil))) (hd:d=enc el)
  (hlen:xs.length+1≤1048576) (hbytes:Nat.ble re.bytes 134217728=true) :
  an P (.call { callee :=.builtin .append,args := #[x,y],argTypes := #[t,t] }) env h n (some (.own n 0 (xs.length+1) s none)) [(n,some (.ds e s false enc (xs++[el]))),(r,none)]:=by
 have hs0:=Nat.le_of_ble_eq_true hs0
 have hb:=Nat.le_of_ble_eq_true hbytes
 refine iK hT (ty:=0) (ys:=[el]) (ex:=ex) ht he (Nat.eq_of_beq_eq_true hs) hs0 hx hrow hy (by simp) (by simp only[maxLen,List.length_cons,List.length_nil]; omega) ?_ ?_
 ·have:(xs.length+[el].length)*re.bytes≤1048576*134217728:=Nat.mul_le_mul (by simpa using hlen) hb
  omega
 ·intro C G st σ w a hA hst
  obtain⟨hy1,_⟩:=ao hst (hA.ev hy)
  have hr2:=hst.rows r2 _ (hA.row _ _ hrow2)
  rcases RelV.own.1 hy1 with ⟨_,_,h0,_⟩ | ⟨b,c,ad,hb,hv,hle,_,_,had⟩
  ·omega
  ·have:ad=⟨b,0,none⟩:=by have:=had (by omega); simpa using this
   subst this
   rcases hr2 with ⟨_,⟨hn,_⟩ | ⟨b',c',cur,cs,hb',_,hh,hcs,_,_,hcl,hrel,htk⟩⟩
   ·rw[hb]at hn; cases hn
   ·rw[hb]at hb'
    cases hb'
    obtain⟨c1,c2,rfl,h1,h2⟩:=hrel
    obtain rfl:c2=[]:=h2
    rw[List.append_nil]at hcl htk
    have h1:Enc w (st.X C.X0 σ) d c1:=h1
    refine⟨⟨b,0,none⟩,_,fun _=>c1,hv,fun i hi=>?_,fun j u hj=>?_⟩
    ·have:i=0:=by simp at hi; exact hi
     subst this
     exact⟨by simpa[←hd]using h1,by simpa using hcl⟩
    ·simp only[List.length_cons,List.length_nil,cat,List.nil_append]at hj
     have hjl:=(List.getElem?_eq_some_iff.1 hj).1
     rw[dr,cell_of_row w b _ cur e (0,0) hh,Nat.zero_add,←Array.getElem?_toList]
     rw[←htk,List.getElem?_take,if_pos (by omega)]at hj
     exact hj
theorem nu (hT:aq P T) {t e r:Nat} {re:TyR} {s:Nat} {ex:Bool} {α:Type} {enc:α→D} {xs ys:List α} {x y:Operand} (ht:bh T t=some (.slice e)) (he:lk T e=some re) (hs:Nat.beq re.size s=true) (hs0:Nat.blt 0 s=true)
  (hx:ay env x=some (.own r 0 xs.length s none)) (hrow:bp h r=some (.ds e s ex enc xs)) (hy:ay env y=some (.d (.arr s enc ys))) (hys:0<ys.length)
  (hlen:xs.length+ys.length≤1048576) (hbytes:Nat.ble re.bytes 134217728=true) :
  an P (.call { callee :=.builtin .append,args := #[x,y],argTypes := #[t,t] }) env h n (some (.own n 0 (xs.length+ys.length) s none)) [(n,some (.ds e s false enc (xs++ys))),(r,none)]:=by
 have hs0:=Nat.le_of_ble_eq_true hs0
 have hb:=Nat.le_of_ble_eq_true hbytes
 refine iK hT (ty:=0) (ex:=ex) ht he (Nat.eq_of_beq_eq_true hs) hs0 hx hrow hy hys (by simp only[maxLen]; omega) ?_ ?_
 ·have:(xs.length+ys.length)*re.bytes≤1048576*134217728:=Nat.mul_le_mul hlen hb
  omega
 ·intro C G st σ w a hA hst
  obtain⟨hy1,_⟩:=ao hst (hA.ev hy)
  rcases RelV.arr.1 hy1 with ⟨rfl,_⟩ | ⟨ad,c,hv,_,_,f,hf⟩
  ·simp at hys
  ·refine⟨ad,c,f,hv,fun i hi=>⟨(hf i hi).1,(hf i hi).2.1⟩,fun j u hj=>?_⟩
   have hjl:=(List.getElem?_eq_some_iff.1 hj).1
   rw[cf _ fun i hi=>(hf i hi).2.1]at hjl
   have hi:j/s<ys.length:=Nat.div_lt_of_lt_mul (by rw[Nat.mul_comm]; exact hjl)
   have hm:j % s<s:=Nat.mod_lt _ hs0
   have hj2:j/s*s+j % s=j:=by rw[Nat.mul_comm]; exact Nat.div_add_mod j s
   have:=dW ys.length (fun i hi=>(hf i hi).2.1) (j/s) (j % s) hi hm
   rw[hj2,hj]at this
   have:=((hf _ hi).2.2 (j % s) u this.symm).1
   rwa [hj2]at this
theorem kZ (L:List Value):∀N,cat (fun _=>L) N=(List.replicate N L).flatten
 | 0=>rfl
 | N+1=>by rw[cat,kZ L N,List.replicate_succ']; simp
theorem de (hT:aq P T) {t e:Nat} {re:TyR} {s:Nat} {α:Type} {enc:α→D} {x y:Operand} {k k':IntKind} {N:Nat} (z:α) (ht:bh T t=some (.slice e)) (he:lk T e=some re) (hs:Nat.beq re.size s=true) (hs0:Nat.blt 0 s=true) (hz:re.zero=enc z)
  (hx:ay env x=some (.int k N)) (hy:ay env y=some (.int k' N)) (hlen:N≤1048576) (hbytes:Nat.ble re.bytes 134217728=true) :
  an P (.makeSlice t x y) env h n (some (.own n 0 N s none)) [(n,some (.ds e s true enc (List.replicate N z)))]:=.of_comes fun C G st σ w a o ho hA hdst hst hn=>by
 have hs0:=Nat.le_of_ble_eq_true hs0
 have hs:=Nat.eq_of_beq_eq_true hs
 have hb:=Nat.le_of_ble_eq_true hbytes
 obtain⟨ud,hud,hdd⟩:=aS hT ht
 cases hdd
 obtain⟨i,zv,hi,hi1,hi2,hi3,hi4⟩:=(hT e re he).info
 obtain⟨hx1,_⟩:=RelV.sc.1 (ao hst (hA.ev hx)).1
 obtain⟨hy1,_⟩:=RelV.sc.1 (ao hst (hA.ev hy)).1
 have hzl:zv.cells.toList.length=s:=by
  have h1:=Enc.len _ _ (Enc.closed w (fun _=>False) _ (hT e re he).zero)
  rw[hi4,(hT e re he).zsize,hs]at h1
  exact h1
 have henc:Enc w (st.X C.X0 σ) (enc z) zv.cells.toList:=by rw[←hz,←hi4]; exact Enc.closed _ _ _ (hT e re he).zero
 have hnn:¬G n:=hn n (Nat.le_refl _) (by omega)
 have hmade:(madeCells zv.cells (N*s)).toList=cat (fun _=>zv.cells.toList) N:=by
  have:=jF zv.cells.toList (by omega) N
  rw[hzl]at this
  rw[kZ,←this]
  simp[madeCells]
 have hcl:(cat (fun _=>zv.cells.toList) N).length=N*s:=cf _ fun _ _=>hzl
 have hsz:(madeCells zv.cells (N*s)).size=N*s:=by rw[←Array.length_toList,hmade,hcl]
 obtain⟨hst',hσn⟩:=hst.new hnn (madeCells zv.cells (N*s)) e N (.ds e s true enc (List.replicate N z)) trivial (fun σ' w' X' hk1 hk2 hσn hh=>by
  refine .inr ⟨w.heap.size,N,madeCells zv.cells (N*s),hσn,fun _=>by simp,hh,hsz,by simp,by simp only[maxLen]; omega,fun _=>zv.cells.toList,fun i hi=>⟨by simpa using hk2 _ _ henc,hzl⟩,?_⟩
  rw[hmade,List.length_replicate,←hcl,List.take_length])
 have hbb:i.bytes*N≤134217728*1048576:=Nat.mul_le_mul (by omega) hlen
 have hrun:=run_make (P:=P) w t e i zv hud hi hi3 k k' N N (by omega) (Int.le_refl _) (by
  have:((i.bytes*N:Nat):Int)≤281474976710656:=by omega
  rwa [Int.natCast_mul]at this) (by omega)
 simp only[Int.toNat_natCast,hi1,hs]at hrun
 refine⟨_,_,.value (.slice (some ⟨w.heap.size,0,none⟩) N N),_,_,_,fun r=>G r∨r=n,⟨rfl,rfl⟩,?_,.inl rfl,by rw[St.put_upd]; exact hst'.set hdst (u :=.slice (some ⟨w.heap.size,0,none⟩) N N) (RelV.own.2 (.inr ⟨w.heap.size,N,⟨w.heap.size,0,none⟩,hσn,by simp,by simp,by simp,by simp,fun _=>by simp⟩)) (.inr rfl),
  fun r hr=>Or.inl hr,fun r hr=>Or.imp id (fun h=>⟨by omega,by omega⟩) hr⟩
 simp only[execOp,ho,hx1,hy1,Sem.run_bind,hrun,Result.andThen_ok,Sem.run_pure]
end
end Go.Eng
namespace Go.Eng
open Go.RowKit
section
variable {P : Program} {T : Tab} {sz : Nat} {env : Env} {h : Upds} {n : Nat}
theorem iz (hT:aq P T) {t t' e r:Nat} {re:TyR} {s:Nat} {ex:Bool} {te:TypeId} {α:Type} {enc:α→D} {xs ys:List α} {x y:Operand} (ht:bh T t=some (.slice e)) (he:lk T e=some re) (hs:Nat.beq re.size s=true) (hs0:Nat.blt 0 s=true)
  (hx:ay env x=some (.own r 0 xs.length s none)) (hrow:bp h r=some (.ds te s ex enc xs)) (hy:ay env y=some (.d (.arr s enc ys))) {zs:List α} (hz:ys.take xs.length++xs.drop ys.length=zs) {m:Nat} (hm:min ys.length xs.length=m) :
  an P (.call { callee :=.builtin .copy,args := #[x,y],argTypes := #[t,t'] }) env h n (some (.int .i64 m)) [(r,some (.ds te s ex enc zs))]:=.of_comes fun C G st σ w a o ho hA hd hst hn=>by
 subst hz
 subst hm
 have hs0:=Nat.le_of_ble_eq_true hs0
 have hs:=Nat.eq_of_beq_eq_true hs
 obtain⟨ud,hud,hdd⟩:=aS hT ht
 cases hdd
 obtain⟨hx1,hx2⟩:=ao hst (hA.ev hx)
 obtain⟨hy1,_⟩:=ao hst (hA.ev hy)
 have hr:=hA.row _ _ hrow
 have hsame:ys.length=0∨xs.length=0→ys.take xs.length++xs.drop ys.length=xs:=by
  rintro (h0 | h0)
  ·rw[List.eq_nil_of_length_eq_zero h0]; simp
  ·rw[List.eq_nil_of_length_eq_zero h0]; simp
 have hquiet:(ys.length=0∨xs.length=0)→(Builtin.copy_ #[t,t'] o.type #[a.eval x,a.eval y]).run P w=.ok (goInt (min ys.length xs.length:Nat)) w →
   b5 P C G st n o a w (fun v' u'=>v'=some (.int .i64 (min ys.length xs.length:Nat))∧u'=[(r,some (.ds te s ex enc (ys.take xs.length++xs.drop ys.length)))]):=by
  intro h0 hrun
  rw[hsame h0]
  have hst2:aH C G (st.upd [(r,some (.ds te s ex enc xs))]) σ w a:=by
   refine hst.congr (fun _=>rfl) (fun q=>?_) rfl rfl
   simp only[St.upd,List.cons_append,List.nil_append,aQ]
   split
   ·rename_i e0
    subst e0
    have hr':=hr
    simp only[St.row]at hr'
    cases hl:lk st.heap r with
    | none=>rw[hl]at hr'; cases hr'
    | some q=>rw[hl]at hr'; simp only[Option.bind_some,id]at hr'; rw[hr']
   ·rfl
  refine⟨_,_,.value (goInt (min ys.length xs.length:Nat)),_,w,σ,G,⟨rfl,rfl⟩,?_,.inl rfl,by rw[St.put_upd]; exact hst2.set hd (u:=goInt (min ys.length xs.length:Nat)) (RelV.sc.2 ⟨rfl,rfl⟩) trivial,fun _ h=>h,fun _ h=>.inl h⟩
  simp[execOp,ho,resolve,invoke,builtin,hrun]
 obtain⟨sx,hsx⟩:∃b c,a.eval x=.slice b xs.length c:=by
  rcases RelV.own.1 hx1 with ⟨_,_,h0,_,hv⟩ | ⟨b,c,ad,_,hv,_⟩
  ·exact⟨_,_,by rw[hv,h0]⟩
  ·exact⟨_,_,hv⟩
 obtain⟨cx,hv0⟩:=hsx
 have hzero:min ys.length xs.length=0→(Builtin.copy_ #[t,t'] o.type #[a.eval x,a.eval y]).run P w=.ok (goInt (min ys.length xs.length:Nat)) w:=by
  intro h0
  have hmin:Nat.min ys.length xs.length=0:=h0
  rcases RelV.arr.1 hy1 with ⟨rfl,hv⟩ | ⟨ad,c,hv,_⟩
  ·cases sx <;> simp[Builtin.copy_,hv0,hv,run_underlying hud,Builtin.lenOf,(hT e re he).run_size,Builtin.firstCells,storeCells,goInt]
  ·have hf:=run_firstCells_some (P:=P) w s 0 ad ys.length c [] (by simp) (by simp)
   cases sx <;> simp[Builtin.copy_,hv0,hv,run_underlying hud,Builtin.lenOf,(hT e re he).run_size,hs,hmin,h0,hf,storeCells,goInt]
 by_cases h0:min ys.length xs.length=0
 ·exact hquiet (by omega) (hzero h0)
 ·rcases RelV.arr.1 hy1 with ⟨rfl,_⟩ | ⟨ad,cy,hvy,_,_,f,hf⟩
  ·simp at h0
  rcases hst.rows r _ hr with ⟨_,rfl⟩ | ⟨b,c,cur,hσ,hex,hh,hcs,hle,hcm,g,hg,htk⟩
  ·simp at h0
  rcases RelV.own.1 hx1 with ⟨_,_,hl0,_⟩ | ⟨b',c',a',hσ',hv,_,_,hlec,had⟩
  ·omega
  rw[hσ]at hσ'
  cases hσ'
  have:a'=⟨b,0,none⟩:=by have:=had (by omega); simpa using this
  subst this
  have hfl:(cat f (min ys.length xs.length)).length=min ys.length xs.length*s:=cf _ fun i hi=>(hf i (by omega)).2.1
  have hgl:(cat g xs.length).length=xs.length*s:=cf _ fun i hi=>(hg i hi).2
  have hsrc:∀j u,(cat f (min ys.length xs.length))[j]?=some u→w.cell? (ad.add j)=some u:=fun j u hj=>by
   have hjl:=(List.getElem?_eq_some_iff.1 hj).1
   rw[hfl]at hjl
   have hi:j/s<min ys.length xs.length:=Nat.div_lt_of_lt_mul (by rw[Nat.mul_comm]; exact hjl)
   have hm:j % s<s:=Nat.mod_lt _ hs0
   have hj2:j/s*s+j % s=j:=by rw[Nat.mul_comm]; exact Nat.div_add_mod j s
   have:=dW _ (fun i hi=>(hf i (by omega)).2.1) (j/s) (j % s) hi hm
   rw[hj2,hj]at this
   have:=((hf _ (by omega)).2.2 (j % s) u this.symm).1
   rwa [hj2]at this
  have hone:∀u∈cat f (min ys.length xs.length),u.oneCell'=true:=fun u hu=>by
   obtain⟨k,hk,hu⟩:=js _ hu
   exact Enc.one _ _ (hf k (by omega)).1 u hu
  have hmul:min ys.length xs.length*s≤xs.length*s:=Nat.mul_le_mul_right _ (Nat.min_le_right _ _)
  have hmulc:xs.length*s≤c*s:=Nat.mul_le_mul_right _ hle
  have hf1:=run_firstCells_some (P:=P) w s (min ys.length xs.length) ad ys.length cy _ hfl hsrc
  have hst1:=run_storeCells_at P b 0 te (cat f (min ys.length xs.length)) 0 cur w hh (by rw[hfl,hcs]; omega) hone
  simp only[Nat.add_zero,Nat.zero_add,List.take_zero,List.nil_append]at hst1
  have hrun:(Builtin.copy_ #[t,t'] o.type #[a.eval x,a.eval y]).run P w=.ok (goInt (min ys.length xs.length:Nat)) (w.setRow b (cat f (min ys.length xs.length)++cur.toList.drop (cat f (min ys.length xs.length)).length).toArray):=by
   have hmin:Nat.min ys.length xs.length=min ys.length xs.length:=rfl
   simp[Builtin.copy_,hv,hvy,run_underlying hud,Builtin.lenOf,(hT e re he).run_size,hs,hmin,hf1,hst1,goInt]
  have hw:=hst.write (new:=(cat f (min ys.length xs.length)++cur.toList.drop (cat f (min ys.length xs.length)).length).toArray) (row :=.ds te s ex enc (ys.take xs.length++xs.drop ys.length)) hr hσ hh trivial (fun w' hk1 hk2 hh'=>by
   have hll:(ys.take xs.length++xs.drop ys.length).length=xs.length:=by simp; omega
   refine .inr ⟨b,c,_,hσ,fun e=>by rw[hll]; exact hex e,hh',?_,by rw[hll]; exact hle,hcm,fun i=>if i<min ys.length xs.length then f i else g i,fun i hi=>?_,?_⟩
   ·simp only[List.size_toArray,List.length_append,List.length_drop,Array.length_toList,hfl,hcs]; omega
   ·rw[hll]at hi
    by_cases hlt:i<min ys.length xs.length
    ·simp only[if_pos hlt]
     have:(ys.take xs.length++xs.drop ys.length)[i]'(by rw[hll]; exact hi)=ys[i]'(by omega):=by
      rw[List.getElem_append_left (by simp; omega)]; simp
     rw[this]
     exact⟨hk2 _ _ (hf i (by omega)).1,(hf i (by omega)).2.1⟩
    ·simp only[if_neg hlt]
     have:(ys.take xs.length++xs.drop ys.length)[i]'(by rw[hll]; exact hi)=xs[i]:=by
      rw[List.getElem_append_right (by simp; omega)]
      simp only[List.length_take,List.getElem_drop]
      congr 1; omega
     rw[this]
     exact⟨hk2 _ _ (hg i hi).1,(hg i hi).2⟩
   ·rw[hll]
    have hsplit:xs.length=min ys.length xs.length+(xs.length-min ys.length xs.length):=by omega
    have e1:cat (fun i=>if i<min ys.length xs.length then f i else g i) (min ys.length xs.length)=cat f (min ys.length xs.length):=di _ fun i hi=>by simp only[if_pos hi]
    have e2:cat (fun i=>(fun i=>if i<min ys.length xs.length then f i else g i) (min ys.length xs.length+i)) (xs.length-min ys.length xs.length)=cat (fun i=>g (min ys.length xs.length+i)) (xs.length-min ys.length xs.length):=di _ fun i _=>by simp only[if_neg (show ¬(min ys.length xs.length+i<min ys.length xs.length) by omega)]
    have e3:cat g xs.length=cat g (min ys.length xs.length)++cat (fun i=>g (min ys.length xs.length+i)) (xs.length-min ys.length xs.length):=by rw[←fQ,←hsplit]
    have e4:(cat g (min ys.length xs.length)).length=min ys.length xs.length*s:=cf _ fun i hi=>(hg i (by omega)).2
    have e5:cat (fun i=>g (min ys.length xs.length+i)) (xs.length-min ys.length xs.length)=(cur.toList.take (xs.length*s)).drop (min ys.length xs.length*s):=by
     rw[htk,e3,←e4,List.drop_left]
    rw[show cat (fun i=>if i<min ys.length xs.length then f i else g i) xs.length=cat (fun i=>if i<min ys.length xs.length then f i else g i) (min ys.length xs.length+(xs.length-min ys.length xs.length)) from by rw[←hsplit]]
    rw[fQ,e1,e2,e5]
    simp only[hfl]
    rw[List.take_append,hfl,List.take_of_length_le (by rw[hfl]; exact hmul),←List.drop_take])
  refine⟨_,_,.value (goInt (min ys.length xs.length:Nat)),_,_,σ,G,⟨rfl,rfl⟩,?_,.inl rfl,by rw[St.put_upd]; exact hw.set hd (u:=goInt (min ys.length xs.length:Nat)) (RelV.sc.2 ⟨rfl,rfl⟩) trivial,fun _ h=>h,fun _ h=>.inl h⟩
  simp[execOp,ho,resolve,invoke,builtin,hrun]
theorem u9 (hT:aq P T) {t e r:Nat} {s:Nat} {te:TypeId} {α:Type} {enc:α→D} {xs:List α} {x:Operand} {len:Nat} (ht:bh T t=some (.slice e)) (hx:ay env x=some (.own r 0 len s none)) (hrow:bp h r=some (.ds te s true enc xs)) :
  an P (.call { callee :=.builtin .cap,args := #[x],argTypes := #[t] }) env h n (some (.int .i64 xs.length)) []:=.of_comes fun C G st σ w a o ho hA hd hst hn=>by
 obtain⟨ud,hud,hdd⟩:=aS hT ht
 cases hdd
 obtain⟨hx1,_⟩:=ao hst (hA.ev hx)
 have hr:=hst.rows r _ (hA.row _ _ hrow)
 have hv:∃b l,a.eval x=.slice b l xs.length:=by
  rcases RelV.own.1 hx1 with ⟨hσ,_,_,_,hv⟩ | ⟨b,c,ad,hσ,hv,_⟩
  ·rcases hr with ⟨_,rfl⟩ | ⟨b,c,cur,hσ',_⟩
   ·exact⟨_,_,hv⟩
   ·rw[hσ]at hσ'; cases hσ'
  ·rcases hr with ⟨hσ',_⟩ | ⟨b',c',cur,hσ',hex,_⟩
   ·rw[hσ]at hσ'; cases hσ'
   ·rw[hσ]at hσ'
    cases hσ'
    have hc:=hex rfl
    subst hc
    exact⟨_,_,by rw[hv]; rfl⟩
 obtain⟨b,l,hv⟩:=hv
 refine .quiet (u:=goInt xs.length) hst hd ⟨rfl,rfl⟩ ?_ (RelV.sc.2 ⟨rfl,rfl⟩) trivial
 simp[execOp,ho,resolve,invoke,builtin,Builtin.cap_,hv,run_underlying hud,goInt]
end
end Go.Eng
namespace Go.Eng
open Go.RowKit
section
variable {P : Program} {T : Tab} {sz : Nat} {env : Env} {h : Upds} {n : Nat}
theorem ak {f:Operand} {args:Array Operand} {ts:Array TypeId} {g:FuncId} {bs9 avs:List AV} {res:AV} (hfn:FnIs P g avs [] res []) (hf:ay env f=some (.fn (.func g) .anil .anil)) (hl:evL (ay env) args.toList=some bs9)
  (ha:cw (bp h) (rho []) bs9 avs) (hm:cE bs9 avs=true∨cG res []) (hr:∀ρ,res.ren ρ=res) :
  an P (.call { callee :=.value f,args:=args,argTypes:=ts }) env h n (some res) []:=by
 have:=an.call (n:=n) (ts:=ts) (h0:=[]) (rows:=[]) (res:=res) [] hfn hf hl rfl rfl (by simpa[b9]using ha) trivial rfl rfl (by simpa[b9]using hm)
 rw[hr]at this
 exact this
theorem cG.sc (v:Value):cG (.d (.sc v)) []:=fun _ _ _ _=>⟨fun _ h=>h,fun r row h=>by simp[lk]at h⟩
theorem qH {f:Operand} {args:Array Operand} {ts:Array TypeId} {g:FuncId} {bs9 avs:List AV} {res v:AV} {rows:List (Nat×Row)} {u:Upds} (hfn:FnIs P g avs [] res rows) (hf:ay env f=some (.fn (.func g) .anil .anil)) (hl:evL (ay env) args.toList=some bs9)
  (ha:cw (bp h) (rho []) bs9 avs) (hm:cE bs9 avs=true∨cG res rows) (hv:res.ren (eH [] n)=v) (hu:cI [] n [] rows=u) :
  an P (.call { callee :=.value f,args:=args,argTypes:=ts }) env h n (some v) u:=by
 have:=an.call (n:=n) (ts:=ts) (h0:=[]) (rows:=rows) (res:=res) [] hfn hf hl rfl rfl (by simpa[b9]using ha) trivial rfl rfl (by simpa[b9]using hm)
 rw[hv,hu]at this
 exact this
theorem hJ {look:Nat→Option Row} {ρ:Nat→Option Nat} {x y:D} {bs9 avs:List AV} (hx:y.isAgg=x.isAgg) (_:True) (hle:DLe x y) (h:cw look ρ bs9 avs):cw look ρ (.d x::bs9) (.d y::avs):=
 ⟨.d y,avs,rfl,⟨rfl,rfl⟩,⟨hx,hle⟩,h⟩
theorem aj {look:Nat→Option Row} {ρ:Nat→Option Nat} {x:D} {bs9 avs:List AV} (h:cw look ρ bs9 avs):cw look ρ (.d x::bs9) (.d x::avs):=hJ rfl trivial (.refl x) h
theorem ab {look:Nat→Option Row} {ρ:Nat→Option Nat}:cw look ρ [] []:=rfl
theorem jt {look:Nat→Option Row} {ρ:Nat→Option Nat} {α:Type} {s r:Nat} {te:TypeId} {ex:Bool} {cap:Option Nat} {enc:α→D} {xs:List α} {bs9 avs:List AV} (hr:look r=some (.ds te s ex enc xs)) (h:cw look ρ bs9 avs) :
  cw look ρ (.own r 0 xs.length s cap::bs9) (.d (.arr s enc xs)::avs):=
 ⟨_,avs,rfl,⟨rfl,rfl⟩,⟨rfl,by simp only[ArgD,hr]; exact⟨trivial,by simp,xs,by simp,.refl _⟩⟩,h⟩
theorem k7 {look:Nat→Option Row} {ρ:Nat→Option Nat} {k:Fn} {bs9 avs:List AV} (h:cw look ρ bs9 avs):cw look ρ (.fn k .anil .anil::bs9) (.fn k .anil .anil::avs):=
 ⟨_,avs,rfl,⟨rfl,rfl⟩,AVLe.refl _,h⟩
variable {all l : List Oper} {acc : List bW} {K : Env → Upds → Nat → Prop}
end
end Go.Eng
namespace Go.Eng
open Go.RowKit
section
variable {P : Program} {T : Tab} {sz : Nat} {env : Env} {h : Upds} {n : Nat}
theorem uI (hT:aq P T) {t:TypeId} {x i:Operand} {s:ByteArray} {k:IntKind} {m:Int} {b:UInt8} {v:Int} (ht:bh T t=some .string) (hx:ay env x=some (.d (.sc (.string s)))) (hi:ay env i=some (.int k m)) (h0:0≤m) (hb:s[m.toNat]?=some b) (hv:(b.toNat:Int)=v) :
  an P (.index t x i) env h n (some (.int .u8 v)) []:=.of_opD hT fun K hK=>by
 subst hv
 simp only[opD,ht,hx,hi]
 exact⟨h0,b,hb,hK⟩
end
end Go.Eng
namespace Go.Eng
open Go.RowKit
def Aq (P:Program) (gf:FuncId) (us:List Value) (R:World→Prop) {α:Type} (enc:α→Value) (Next:List α→α→Prop) (Done:List α→Prop):Prop :=
 ∀(l:Nat) (J Jx:List α→World→Prop) (N:Nat) (w:World),(∀pre W,J pre W→R W∧pre.length≤N) →
  (∀pre x W,J pre W→Next pre x→YieldAt Fence.wide 0 P l #[enc x] W fun e W'=>(e=.returned (.bool true)∧J (pre++[x]) W')∨(e=.returned (.bool false)∧Jx (pre++[x]) W')) →
  J [] w→Calls P gf (#[.func (.yield l) #[] #[]]++us.toArray) w fun e W'=>(∃v,e=.returned v)∧((∃pre,Done pre∧J pre W')∨∃pre,Jx pre W')
def Ct (caps:AV) (rd:List (Nat×Row)) (us:List Value) (W:World):Prop:=∃σ X,Rel σ W X caps true us∧∀r row,lk rd r=some row→bw σ W X r row
def CK (P:Program) (gf:FuncId) (caps:AV) (rd:List (Nat×Row)) {α:Type} (enc:α→Value) (Next:List α→α→Prop) (Done:List α→Prop):Prop :=
 (∃ fn, P.funcs[gf]? = some fn ∧ (fn.name == "runtime.NumGoroutine") = false ∧ fn.body.isNone = false) ∧ ∀ us, Aq P gf us (Ct caps rd us) enc Next Done
def CH (Q:Exit→St→Prop) (l:cp) (n sz:Nat) (h0:List (Nat×Row)) (env:Env) (h h':Upds) (Inv':Prop) (e:Exit) (st:St):Prop:=match e with
 | .normal=>∃rows l1 l2,Le l1 st ⟨[],bn rows,72,sz,64⟩∧Inv'∧Le l2 ⟨env,cI l n h0 rows++h,n+8,sz,64⟩ ⟨env,h',n,sz,64⟩
 | .exit i=>∃rows l1,Le l1 st ⟨[],bn rows,72,sz,64⟩∧Q (.exit i) ⟨env,cI l n h0 rows++h,n+8,sz,64⟩
 | .ret=>∃rows l1,Le l1 st ⟨[],bn rows,72,sz,64⟩∧Q .ret ⟨env,cI l n h0 rows++h,n+8,sz,64⟩
 | _=>False
section
variable {P : Program} {C : Ctx} {G : Nat → Prop} {st : St} {σ : Place} {w : World} {a : Act}
theorem aH.allocBook (h:aH C G st σ w a) (o:Obj):aH C G st σ (w.alloc o) a:=by
 have hold:∀k,k<w.heap.size→(w.alloc o).heap[k]?=w.heap[k]?:=fun k hk=>Below.heap_alloc _ _ _ hk
 exact h.core (fun _ h=>h) (fun _ _=>rfl) (fun ad u h1 h2=>⟨.of_block (Below.heap_alloc _ _ _ (World.block_lt_of_cell? w ad h1)) h1,h2⟩) rfl rfl rfl
  (fun r row h1=>.inl ⟨h1,fun b c hs=>hold b (h.lt h1 hs)⟩) h.inj h.high (by simp; have:=h.size; omega)
  (Below.toM ((Below.refl C.B w).alloc h.size _) fun k x hx _=>(hold k (Array.getElem?_eq_some_iff.1 hx).1).trans hx)
theorem aH.spread (h:aH C G st σ w a) {env':Env} {sz':Nat} {a':Act} (he:∀i v,lk env' i=some v→(∃u,a'.tmps[i]?=some u∧RelV σ w (st.X C.X0 σ) v u)∧v.within G) (hs:a'.tmps.size=sz') (hd:iP C w a'.defers) :
    aH C G { st with env:=env',sz:=sz' } σ w a' :=
  { h with
    env:=fun i v hi=>(he i v hi).1
    envG:=fun i v hi=>(he i v hi).2
    sz:=hs
    defers:=hd }
end
section
variable {P : Program} {T : Tab} {sz n : Nat} {Q : Exit → St → Prop} {env : Env} {h : Upds}
end
section
variable {Q : Exit → St → Prop} {l : cp} {n sz : Nat} {h0 : List (Nat × Row)} {env : Env} {h h' : Upds} {Inv' : Prop} {st : St}
end
end Go.Eng
namespace Go.Eng
open Go.RowKit
theorem bC {look:Nat→Option Row} {ρ:Nat→Option Nat} {r k:Nat} {p:List Step} {bs9 avs:List AV} (hr:ρ r=some k) (h64:Nat.blt r 64=true) (h:cw look ρ bs9 avs):cw look ρ (.ptr k p::bs9) (.ptr r p::avs):=
 ⟨_,avs,rfl,⟨rfl,h64⟩,AVLe.of_eq (by simp only[AV.ren,hr]),h⟩
theorem tI {look:Nat→Option Row} {ρ:Nat→Option Nat} {f:Fn} {r k:Nat} {p:List Step} {bs9 avs:List AV} (hr:ρ r=some k) (h64:Nat.blt r 64=true) (h:cw look ρ bs9 avs) :
  cw look ρ (.fn f .anil (.acons (.ptr k p) .anil)::bs9) (.fn f .anil (.acons (.ptr r p) .anil)::avs):=
 ⟨_,avs,rfl,⟨rfl,by simp[AV.lt,h64]⟩,AVLe.of_eq (by simp only[AV.ren,hr]),h⟩
def D.plain:D→Prop
 | .sc _=>True
 | .nil=>True
 | .cons a r=>a.plain∧r.plain
 | .vec _ _ enc _=>∀x,(enc x).plain
 | .arr .. => False
 | .pt _=>False
 | .arx .. => False
 | .re .. => False
 | .jk .. => False
def AV.plain:AV→Prop
 | .d x=>x.plain
 | .anil=>True
 | .acons a r=>a.plain∧r.plain
 | .own .. => True
 | .ptr .. => True
 | .asl .. => True
 | .mapr .. => True
 | .tup q=>q.plain
 | _=>False
def Row.plain:Row→Prop
 | .box _ a=>a.plain
 | .ds _ _ _ enc _=>∀x,(enc x).plain
 | .lits _ _ _ _ a=>a.plain
 | .mo a=>a.plain
 | .si .. => True
 | .mq _=>True
 | .lo _=>True
 | .mi a _ _ _=>a.plain
section
variable {w : World} {σ : Place} {X X' : Nat → Prop}
end
section
variable {P : Program} {T : Tab} {env : Env} {h : Upds} {n : Nat}
theorem bJ {f:Operand} {args:Array Operand} {ts:Array TypeId} {g:FuncId} {caps:AV} {bs9 avs:List AV} {h0 rows:List (Nat×Row)} {res v:AV} {u:Upds} (l:cp)
  (hfn:FnIs P g avs h0 res rows) (hf:ay env f=some (.fn (.func g) .anil caps)) (hl:evL (ay env) args.toList=some bs9) (hc2:caps.chain=true)
  (ha:cw (bp h) (rho l) (bs9++b9 caps) avs) (hr:RowsIn (bp h) l h0) (hi:gn (rho l) (bZ h0)=true) (hk:jG l h0=true)
  (hm:cE (bs9++b9 caps) avs=true∨h0=[]∧cG res rows) (hv:res.ren (eH l n)=v) (hu:cI l n h0 rows=u) :
  an P (.call { callee :=.value f,args:=args,argTypes:=ts }) env h n (some v) u:=by
 have:=an.call (n:=n) (ts:=ts) (h0:=h0) (rows:=rows) (res:=res) l hfn hf hl rfl hc2 ha hr hi hk hm
 rw[hv,hu]at this
 exact this
end
end Go.Eng
namespace Go.Eng
open Go.RowKit
def Ce (z:D):Nat→D
 | 0=>.nil
 | n+1=>.cons z (Ce z n)
section
variable {P : Program} {T : Tab} {sz : Nat} {env : Env} {h : Upds} {n : Nat}
theorem uH (hT:aq P T) {t l e:Nat} {re:TyR} {x i:Operand} {d z:D} {k:IntKind} {m:Int} (ht:bh T t=some (.array l e)) (he:lk T e=some re) (hx:ay env x=some (.d d)) (hi:ay env i=some (.int k m)) (hag:d.isAgg=true) (h0:0≤m) (h1:m<l)
  (hz:Sub d [.idx m.toNat re.size] z) (hs:bK T e (.d z)=true):an P (.index t x i) env h n (some (.d z)) []:=.of_opD hT fun K hK=>by
 simp only[opD,ht,hx,hi,he,hag]
 exact⟨h0,h1,z,hz,by rw[hs]; exact hK⟩
end
end Go.Eng
namespace Go.Eng
open Go.RowKit
def Ak {α:Type} (enc:α→D):List α→AV
 | []=>.anil
 | x::xs=>.acons (.d (enc x)) (Ak enc xs)
end Go.Eng
namespace Go.Eng
open Go.RowKit
section
variable {P : Program} {T : Tab} {sz : Nat} {env : Env} {h : Upds} {n : Nat}
theorem gg (hT:aq P T) {t e:Nat} {re:TyR} {x i:Operand} {α:Type} {s:Nat} {enc:α→D} {xs:List α} {k:IntKind} {m:Int} (ht:bh T t=some (.slice e)) (he:lk T e=some re)
  (hx:ay env x=some (.d (.arr s enc xs))) (hi:ay env i=some (.int k m)) (h0:0≤m) (h1:m≤xs.length):an P (.slice t x none (some i) none) env h n (some (.d (.arr s enc (xs.take m.toNat)))) []:=.of_comes fun C G st σ w a o ho hA hdst hst hn=>by
 obtain⟨ud,hud,hdd⟩:=aS hT ht
 cases hdd
 obtain⟨hx1,_⟩:=ao hst (hA.ev hx)
 obtain⟨hi1,_⟩:=RelV.sc.1 (ao hst (hA.ev hi)).1
 have hsz:=(hT e re he).run_size (P:=P)
 have hlen:(xs.take m.toNat).length=m.toNat:=by rw[List.length_take]; omega
 rcases RelV.arr.1 hx1 with ⟨rfl,hv⟩ | ⟨ad,c,hv,hc1,hc2,f,hf⟩
 ·have hm0:m=0:=by simp at h1; omega
  subst hm0
  refine .quiet (u :=.slice none 0 0) hst hdst ⟨rfl,rfl⟩ ?_ (RelV.arr.2 (.inl ⟨rfl,rfl⟩)) trivial
  simp[execOp,ho,Instr.sliceAt,Instr.slice,hv,hi1,run_underlying hud,Instr.sliceBounds,Instr.sliceBound,asIntOf,hsz,Sem.run_bind,Sem.run_pure,Result.andThen_ok]
 ·refine .quiet (u :=.slice (some ad) m.toNat c) hst hdst ⟨rfl,rfl⟩ ?_ (RelV.arr.2 (.inr ⟨ad,c,by rw[hlen],by rw[hlen]; omega,hc2,f,fun j hj=>?_⟩)) trivial
  ·have hle:m≤(c:Int):=by omega
   simp[execOp,ho,Instr.sliceAt,Instr.slice,hv,hi1,run_underlying hud,Instr.sliceBounds,Instr.sliceBound,asIntOf,hsz,Sem.run_bind,Sem.run_pure,Result.andThen_ok,h0,hle,Addr.add_zero']
  ·have hj2:j<xs.length:=by rw[hlen]at hj; omega
   obtain⟨g1,g2⟩:=hf j hj2
   rw[List.getElem_take]
   exact⟨g1,g2⟩
end
end Go.Eng
namespace Go.Eng
open Go.RowKit
section
variable {P : Program} {T : Tab} {env : Env} {h : Upds} {n : Nat}
theorem tE (hT:aq P T) {t e:Nat} {x:Operand} (ht:bh T t=some (.slice e)) (hx:ay env x=some (.d (.sc (.slice none 0 0)))) :
  an P (.call { callee :=.builtin .cap,args := #[x],argTypes := #[t] }) env h n (some (.int .i64 (0:Nat))) []:=.of_comes fun C G st σ w a o ho hA hd hst hn=>by
 obtain⟨ud,hud,hdd⟩:=aS hT ht
 cases hdd
 obtain⟨hv,_⟩:=RelV.sc.1 (ao hst (hA.ev hx)).1
 refine .quiet (u:=goInt (0:Nat)) hst hd ⟨rfl,rfl⟩ ?_ (RelV.sc.2 ⟨rfl,rfl⟩) trivial
 simp[execOp,ho,resolve,invoke,builtin,Builtin.cap_,hv,run_underlying hud,goInt]
end
section
variable {P : Program} {T : Tab} {env : Env} {h : Upds} {n : Nat}
end
end Go.Eng
namespace Go.Eng
open Go.RowKit
section
variable {P : Program} {sz : Nat} {env : Env} {h : Upds} {n : Nat} {all l : List Oper} {acc : List bW} {K : Env → Upds → Nat → Prop}
theorem xd (ks rs:List Nat) {d:Tmp} {op:Op} {ty:TypeId} {pos:String} {af:Array Edge} {v:AV} (hd:Nat.blt d sz=true)
  (hs:an P op (only ks env) (only rs h) n (some v) [])
  (h1:RegD P all sz l (n+8) ((d,v)::env) h (⟨⟨some d,op,ty,pos,af,none⟩,ks,rs,some v,[]⟩::acc) K):RegD P all sz (⟨some d,op,ty,pos,af,none⟩::l) n env h acc K :=
 jn _ _ hd (.plain hs) rfl rfl h1
theorem fD (ks rs:List Nat) {d:Tmp} {op:Op} {ty:TypeId} {pos:String} {af:Array Edge} {v:AV} {x:Nat×Option Row} (hd:Nat.blt d sz=true)
  (hs:an P op (only ks env) (only rs h) n (some v) [x])
  (h1:RegD P all sz l (n+8) ((d,v)::env) (x::h) (⟨⟨some d,op,ty,pos,af,none⟩,ks,rs,some v,[x]⟩::acc) K):RegD P all sz (⟨some d,op,ty,pos,af,none⟩::l) n env h acc K :=
 jn _ _ hd (.plain hs) rfl rfl h1
theorem bI (ks rs:List Nat) {op:Op} {ty:TypeId} {pos:String} {af:Array Edge} {x:Nat×Option Row}
  (hs:an P op (only ks env) (only rs h) n none [x])
  (h1:RegD P all sz l (n+8) env (x::h) (⟨⟨none,op,ty,pos,af,none⟩,ks,rs,none,[x]⟩::acc) K):RegD P all sz (⟨none,op,ty,pos,af,none⟩::l) n env h acc K :=
 jn _ _ rfl (.plain hs) rfl rfl h1
theorem ae (ks rs:List Nat) {d:Tmp} {op:Op} {ty:TypeId} {pos:String} {af:Array Edge} {j g:Nat} {want b:Bool} {v:AV} (hj:((all[j]?).bind (·.dst))=some g) (hb:lk (only ks env) g=some (.bool b)) (hw:b=want) (hd:Nat.blt d sz=true)
  (hs:an P op (only ks env) (only rs h) n (some v) [])
  (h1:RegD P all sz l (n+8) ((d,v)::env) h (⟨⟨some d,op,ty,pos,af,some (j,want)⟩,ks,rs,some v,[]⟩::acc) K):RegD P all sz (⟨some d,op,ty,pos,af,some (j,want)⟩::l) n env h acc K :=
 jn _ _ hd (.on hj hb hw hs) rfl rfl h1
theorem ai (ks:List Nat) {d:Tmp} {op:Op} {ty:TypeId} {pos:String} {af:Array Edge} {j g:Nat} {want b:Bool} (hj:((all[j]?).bind (·.dst))=some g) (hb:lk (only ks env) g=some (.bool b)) (hw:b = !want) (hd:Nat.blt d sz=true)
  (h1:RegD P all sz l (n+8) ((d,.undef)::env) h (⟨⟨some d,op,ty,pos,af,some (j,want)⟩,ks,[],none,[]⟩::acc) K):RegD P all sz (⟨some d,op,ty,pos,af,some (j,want)⟩::l) n env h acc K :=
 jn _ _ hd (.off hj hb hw) rfl rfl h1
end
end Go.Eng
namespace Go.Eng
open Go.RowKit
def dm:List Nat→Nat
 | []=>0
 | i::l=>Nat.lor (Nat.pow 2 i) (dm l)
def bitB (m i:Nat):Bool:=Nat.beq (Nat.land (Nat.shiftRight m i) 1) 1
def ss (n:Nat) (f:Nat→Bool):Bool:=match n with
 | 0=>f 0
 | k+1=>f (k+1)
def pZ (mr:List Nat) (k:Nat):List Edge→Nat
 | []=>0
 | e::es=>bif fE e then Nat.lor (Nat.pow 2 e.on) (Nat.lor (mr[k-1-e.on]?.getD 0) (pZ mr k es)) else pZ mr k es
def jD (m:Nat) (g:bW):List bW→Nat→Bool
 | [],_=>true
 | _::_,0=>false
 | f::fs,k+1=>bif bitB m k then jD m g fs k else (bif eP f g then jD m g fs k else false)
def tq:List bW→Nat→List Nat→List bW→Bool
 | [],_,_,_=>true
 | g::gs,k,mr,sr=>bif dh k g.op.after.toList then
   ss (pZ mr k g.op.after.toList) fun m=>bif jD m g sr k then ss k.succ fun k'=>tq gs k' (m::mr) (g::sr) else false
  else false
theorem uN (n:Nat) (f:Nat→Bool):ss n f=f n:=by cases n <;> rfl
theorem nz (a b:List Nat):dm (a++b)=Nat.lor (dm a) (dm b):=by
 induction a with
 | nil=>exact (Nat.zero_or _).symm
 | cons i l ih =>
  show Nat.lor (Nat.pow 2 i) (dm (l++b))=Nat.lor (Nat.lor (Nat.pow 2 i) (dm l)) (dm b)
  rw[ih]
  exact (Nat.or_assoc _ _ _).symm
theorem yQ (m i:Nat):bitB m i=m.testBit i:=by
 rw[Nat.testBit_eq_decide_div_mod_eq]
 have h1:Nat.shiftRight m i=m/2 ^ i:=Nat.shiftRight_eq_div_pow m i
 have h2:Nat.land (m/2 ^ i) 1=m/2 ^ i % 2:=Nat.and_one_is_mod _
 rw[bitB,h1,h2]
 generalize m/2 ^ i % 2=x
 cases h:Nat.beq x 1
 ·exact (decide_eq_false (Nat.ne_of_beq_eq_false h)).symm
 ·exact (decide_eq_true (Nat.eq_of_beq_eq_true h)).symm
theorem xw (p:List Nat) (i:Nat):bitB (dm p) i=memB i p:=by
 rw[yQ]
 induction p with
 | nil=>exact Nat.zero_testBit i
 | cons e l ih =>
  show (2 ^ e ||| dm l).testBit i=(Nat.beq i e||memB i l)
  rw[Nat.testBit_or,ih,Nat.testBit_two_pow]
  congr 1
  cases h:Nat.beq i e
  ·exact decide_eq_false fun h'=>Nat.ne_of_beq_eq_false h h'.symm
  ·exact decide_eq_true (Nat.eq_of_beq_eq_true h).symm
theorem mB {ps:List (List Nat)}:∀(es:List Edge),dh ps.length es=true→pZ (ps.map dm).reverse ps.length es=dm (dO ps es)
 | [],_=>rfl
 | e::es,h=>by
  unfold dh at h
  unfold pZ dO
  cases hb:fE e with
  | false =>
   rw[hb]at h
   exact mB es h
  | true =>
   rw[hb]at h
   simp only[cond_true]at h ⊢
   cases hlt:Nat.blt e.on ps.length with
   | false=>rw[hlt]at h; cases h
   | true =>
    rw[hlt]at h
    simp only[cond_true]at h
    have hl:e.on<ps.length:=Nat.le_of_ble_eq_true hlt
    rw[mB es h]
    show _=Nat.lor (Nat.pow 2 e.on) (dm (ps[e.on]?.getD []++dO ps es))
    rw[nz]
    have hr:(ps.map dm).reverse[ps.length-1-e.on]?.getD 0=dm (ps[e.on]?.getD []):=by
     rw[List.getElem?_reverse (by simp; omega),List.length_map,show ps.length-1-(ps.length-1-e.on)=e.on by omega,List.getElem?_map]
     simp[hl]
    rw[hr]
theorem nL {p:List Nat} {g:bW}:∀(fs:List bW) (k:Nat),(∀i f,fs[i]?=some f→memB (k+i) p=true∨eP f g=true)→il p g k fs=true
 | [],_,_=>rfl
 | f::fs,k,h=>by
  have h0:=h 0 f rfl
  have h1:=nL fs (k+1) fun i f' hf=>by
   have:=h (i+1) f' (by simpa using hf)
   rwa [show k+1+i=k+(i+1) by omega]
  unfold il
  rw[h1]
  rcases h0 with h0 | h0
  ·rw[show memB k p=true from h0]; rfl
  ·rw[h0]; cases memB k p <;> rfl
theorem mG {p:List Nat} {g:bW}:∀(sr:List bW),jD (dm p) g sr sr.length=true→∀i f,sr.reverse[i]?=some f→memB i p=true∨eP f g=true
 | [],_=>fun i f h=>by simp at h
 | e::fs,h=>fun i f hf=>by
  simp only[List.length_cons,jD,xw]at h
  have hh:(memB fs.length p=true∨eP e g=true)∧jD (dm p) g fs fs.length=true:=by
   cases hm:memB fs.length p with
   | true=>rw[hm]at h; exact⟨.inl rfl,h⟩
   | false =>
    rw[hm]at h
    cases ha:eP e g with
    | true=>rw[ha]at h; exact⟨.inr rfl,h⟩
    | false=>rw[ha]at h; cases h
  rw[List.reverse_cons]at hf
  by_cases hi:i<fs.length
  ·rw[List.getElem?_append_left (by simpa using hi)]at hf
   exact mG fs hh.2 i f hf
  ·rw[List.getElem?_append_right (by simp; omega),List.length_reverse]at hf
   have h0:i-fs.length=0:=by
    cases hd:i-fs.length with
    | zero=>rfl
    | succ k=>rw[hd]at hf; simp at hf
   rw[h0]at hf
   cases hf
   rw[show i=fs.length by omega]
   exact hh.1
theorem lI:∀(gs:List bW) (ps:List (List Nat)) (seen:List bW),ps.length=seen.length→tq gs ps.length (ps.map dm).reverse seen.reverse=true→nh ps seen gs=true
 | [],_,_,_,_=>rfl
 | g::gs,ps,seen,hl,h=>by
  unfold tq at h
  unfold nh
  cases he:dh ps.length g.op.after.toList with
  | false=>rw[he]at h; cases h
  | true =>
   rw[he]at h
   simp only[cond_true,uN,mB _ he]at h ⊢
   cases hp:jD (dm (dO ps g.op.after.toList)) g seen.reverse ps.length with
   | false=>rw[hp]at h; cases h
   | true =>
    rw[hp]at h
    simp only[cond_true]at h
    rw[hl,←List.length_reverse]at hp
    have h1:=mG _ hp
    rw[List.reverse_reverse]at h1
    rw[nL seen 0 fun i f hf=>by rw[Nat.zero_add]; exact h1 i f hf]
    simp only[cond_true]
    refine lI gs _ _ (by simp[hl]) ?_
    simpa using h
section
variable {P : Program} {sz : Nat} {env : Env} {h : Upds} {n : Nat} {all : List Oper} {acc : List bW} {Q : Exit → St → Prop}
theorem aB (hd:tq acc.reverse 0 [] []=true) (hk:Q .normal ⟨env,h,n,sz,64⟩):RegD P all sz [] n env h acc (RegK Q sz):=xe (lI acc.reverse [] [] rfl hd) hk
end
section
variable {P : Program} {sz : Nat} {env : Env} {h : Upds} {n : Nat} {all l : List Oper} {acc : List bW} {K : Env → Upds → Nat → Prop}
theorem jm (ks rs:List Nat) {d:Tmp} {op:Op} {ty:TypeId} {pos:String} {af:Array Edge} {v:AV} {x y:Nat×Option Row} (hd:Nat.blt d sz=true)
  (hs:an P op (only ks env) (only rs h) n (some v) [x,y])
  (h1:RegD P all sz l (n+8) ((d,v)::env) (x::y::h) (⟨⟨some d,op,ty,pos,af,none⟩,ks,rs,some v,[x,y]⟩::acc) K):RegD P all sz (⟨some d,op,ty,pos,af,none⟩::l) n env h acc K :=
 jn _ _ hd (.plain hs) rfl rfl h1
end
end Go.Eng
namespace Go.Eng
open Go.RowKit
section
variable {P : Program} {sz : Nat} {env : Env} {h : Upds} {n : Nat} {Q : Exit → St → Prop} {st : St}
universe u
def MidQ {α:Type u} (mk:α→St) (Inv:α→Prop) (Q:Exit→St→Prop) (e:Exit) (st:St):Prop:=match e with
 | .normal=>∃a l,Inv a∧Le l st (mk a)
 | e=>Q e st
variable {α : Type u} {mk : α → St} {Inv : α → Prop}
end
end Go.Eng
namespace Go.Eng
open Go.RowKit
section
variable {P : Program} {T : Tab} {env : Env} {h : Upds} {n : Nat}
theorem an.val_le {op:Op} {x y:D} {u:Upds} (hs:an P op env h n (some (.d x)) u) (hle:DLe x y) (hag:x.isAgg=y.isAgg):an P op env h n (some (.d y)) u:=by
 intro C G st σ w a o ho hA hd hst hn hbs next Q hnext
 refine hs C G st σ w a o ho hA hd hst hn hbs next Q fun z w' σ' G' g1 g2 g3=>hnext z w' σ' G' ?_ g2 g3
 refine⟨?_,?_,g1.rows,g1.rowsG,g1.inj,g1.high,g1.size,g1.below,g1.defers,g1.sz,g1.x0,g1.agree,g1.baseG,g1.bs,g1.rok,g1.glob⟩
 ·intro i v hv
  cases hdst:o.dst with
  | none =>
   rw[hdst]at hv
   have:=g1.env i v (by rw[hdst]; exact hv)
   rw[hdst]at this
   exact this
  | some d =>
   rw[hdst]at hv
   simp only[St.put,Option.getD_some,aQ]at hv
   split at hv
   ·rename_i e
    subst e
    cases hv
    obtain⟨q,hq1,hq2⟩:=g1.env d (.d x) (by rw[hdst]; simp[St.put,aQ])
    rw[hdst]at hq1 hq2
    refine⟨q,hq1,?_⟩
    unfold RelV at hq2 ⊢
    by_cases hy:y.isAgg=true
    ·rw[if_pos (show (AV.d x).isAgg=true from hag.trans hy)]at hq2
     rw[if_pos (show (AV.d y).isAgg=true from hy)]
     obtain⟨cs,hcs,he⟩:=hq2
     exact⟨cs,hcs,hle _ _ _ he⟩
    ·rw[if_neg (show ¬(AV.d x).isAgg=true from fun e=>hy (hag.symm.trans e))]at hq2
     rw[if_neg (show ¬(AV.d y).isAgg=true from hy)]
     exact hle _ _ _ hq2
   ·rename_i e
    have:=g1.env i v (by rw[hdst]; simp only[St.put,Option.getD_some,aQ]; rw[if_neg e]; exact hv)
    rw[hdst]at this
    exact this
 ·intro i v hv
  cases hdst:o.dst with
  | none=>rw[hdst]at hv; exact g1.envG i v (by rw[hdst]; exact hv)
  | some d =>
   rw[hdst]at hv
   simp only[St.put,Option.getD_some,aQ]at hv
   split at hv
   ·cases hv; trivial
   ·rename_i e
    exact g1.envG i v (by rw[hdst]; simp only[St.put,Option.getD_some,aQ]; rw[if_neg e]; exact hv)
end
end Go.Eng
namespace Go.Eng
open Go.RowKit
section
variable {C : Ctx} {w w' : World} {G : Nat → Prop} {st : St} {σ : Place} {a : Act}
theorem aH.freshBy (h:aH C G st σ w a) {n:Nat} (hn:¬G n) (hg:w.grownBy w' none) {b c:Nat} (hb:w.heap.size≤b) (row:Row) (hw:row.within G)
  (hrow:∀(σ':Place) (X':Nat→Prop),(∀(x:AV) (m:Bool) (l:List Value),x.within G→Rel σ w (st.X C.X0 σ) x m l→Rel σ' w' X' x m l)→(∀(x:D) (l:List Value),Enc w (st.X C.X0 σ) x l→Enc w' X' x l) →
   σ' n=some (b,c)→bw σ' w' X' n row) :
  aH C (fun q=>G q∨q=n) (st.upd [(n,some row)]) (fun q=>if q=n then some (b,c) else σ q) w' a:=by
 have hne:∀q,G q→q≠n:=fun q hq e=>hn (e ▸ hq)
 have hold:∀q row',st.row q=some row' → ∀b c',σ q=some (b,c')→b<w.heap.size:=fun q row' hq b c' hs=>h.lt hq hs
 have hno:∀k:Nat,(some k:Option Nat)≠none:=fun k e=>by cases e
 have hX:∀q,(st.upd [(n,some row)]).X C.X0 (fun q=>if q=n then some (b,c) else σ q) q→st.X C.X0 σ q∨w.heap.size≤q:=by
  rintro q (hx0 | ⟨r1,row1,c1,h1,h2⟩)
  ·exact .inl (.inl hx0)
  rw[St.row_one]at h1
  by_cases e:r1=n
  ·subst e
   simp only[if_true,Option.some.injEq,Prod.mk.injEq]at h2
   rw[←h2.1]
   exact .inr hb
  ·rw[if_neg (Ne.symm e)]at h1
   simp only[if_neg e]at h2
   exact .inl (.inr ⟨r1,row1,c1,h1,h2⟩)
 have hσ:∀q,G q→((fun q=>if q=n then some (b,c) else σ q):Place) q=σ q:=fun q hq=>by simp[hne q hq]
 have hk:∀(a:Addr) (u:Value),w.cell? a=some u→¬st.X C.X0 σ a.block→Kp w w' a u∧¬(st.upd [(n,some row)]).X C.X0 (fun q=>if q=n then some (b,c) else σ q) a.block:=by
  intro a u h1 h2
  have hlt:=World.block_lt_of_cell? w a h1
  refine⟨?_,fun hx=>?_⟩
  ·exact .of_block (hg.block _ hlt (hno _)) h1
  ·rcases hX _ hx with hx | hx
   ·exact h2 hx
   ·omega
 refine h.core (fun r hr=>.inl hr) hσ hk rfl rfl rfl ?_ ?_ ?_ (Nat.le_trans h.size hg.size) ?_
 ·intro q row' hq
  rw[St.row_one]at hq
  split at hq
  ·rename_i e
   subst e
   simp only[Option.some.injEq]at hq
   subst hq
   refine .inr ⟨.inr rfl,?_,hrow _ _ (fun x m l hx=>Rel.mono hσ hk x m l hx) (fun x l=>Enc.mono hk x l) (by simp)⟩
   cases row with
   | box t x=>exact AV.within.mono (fun r hr=>.inl hr) x hw
   | ds=>trivial
   | lits t s k ex x=>exact AV.within.mono (fun r hr=>.inl hr) x hw
   | mo x=>exact AV.within.mono (fun r hr=>.inl hr) x hw
   | si=>trivial
   | mq=>trivial
   | lo=>trivial
   | mi x=>exact AV.within.mono (fun r hr=>.inl hr) x hw
  ·exact .inl ⟨hq,fun b1 c1 hs=>hg.block _ (hold _ _ hq _ _ hs) (hno _)⟩
 ·intro r1 r2 row1 row2 b1 c1 c2 h1 h2 h3 h4
  rw[St.row_one]at h1 h2
  have key:∀q row1 c1,q≠n→(if n=q then some row else st.row q)=some row1→σ q=some (b,c1)→False:=by
   intro q row1 c1 hq h1 h3
   rw[if_neg (Ne.symm hq)]at h1
   have:=hold _ _ h1 _ _ h3; omega
  by_cases e1:r1=n <;> by_cases e2:r2=n
  ·rw[e1,e2]
  ·simp only[e1,if_true,Option.some.injEq,Prod.mk.injEq]at h3
   simp only[if_neg e2]at h4
   rw[←h3.1]at h4
   exact (key _ _ _ e2 h2 h4).elim
  ·simp only[e2,if_true,Option.some.injEq,Prod.mk.injEq]at h4
   simp only[if_neg e1]at h3
   rw[←h4.1]at h3
   exact (key _ _ _ e1 h1 h3).elim
  ·rw[if_neg (Ne.symm e1)]at h1
   rw[if_neg (Ne.symm e2)]at h2
   simp only[if_neg e1]at h3
   simp only[if_neg e2]at h4
   exact h.inj _ _ _ _ _ _ _ h1 h2 h3 h4
 ·intro r1 row1 b1 c1 h1 h2
  rw[St.row_one]at h1
  by_cases e:r1=n
  ·simp only[e,if_true,Option.some.injEq,Prod.mk.injEq]at h2
   rw[←h2.1]
   have:=h.size
   exact .inl (by omega)
  ·rw[if_neg (Ne.symm e)]at h1
   simp only[if_neg e]at h2
   exact h.high _ _ _ _ h1 h2
 ·have hsz:=h.size
  exact⟨hg.os,hg.tape,hg.output,hg.size,fun k hk' hm=>hg.block k (by omega) (hno _),fun k o ho hbk=>(hg.block k (Array.getElem?_eq_some_iff.1 ho).1 (hno _)).trans ho⟩
end
section
variable {P : Program} {T : Tab} {sz : Nat} {env : Env} {h : Upds} {n : Nat}
def Cu {α:Type} (s:Nat) (enc:α→D) (xs:List α) (more:Nat) (w:World) (X:Nat→Prop) (u:Value):Prop :=
 ∃(ax:Option Addr) (c:Nat) (f:Nat→List Value),u=.slice ax xs.length c∧c<xs.length+more∧(ax=none→xs=[]∧c=0)∧(∀i (h:i<xs.length),Enc w X (enc xs[i]) (f i)∧(f i).length=s) ∧
  ∀ad,ax=some ad→∀j v,(cat f xs.length)[j]?=some v→w.cell? (ad.add j)=some v
theorem pd (hT:aq P T) {t e:Nat} {re:TyR} {s:Nat} {α:Type} {enc:α→D} {xs ys:List α} {x y:Operand} (ht:bh T t=some (.slice e)) (he:lk T e=some re) (hs:re.size=s)
  (hys:0<ys.length) (hlen:xs.length+ys.length≤maxLen) (hbytes:(xs.length+ys.length)*re.bytes≤140737488355328)
  (hold:∀(C:Ctx) (G:Nat→Prop) (st:St) (σ:Place) (w:World) (a:Act),fh env h st→aH C G st σ w a→Cu s enc xs ys.length w (st.X C.X0 σ) (a.eval x))
  (hsrc:∀(C:Ctx) (G:Nat→Prop) (st:St) (σ:Place) (w:World) (a:Act),fh env h st→aH C G st σ w a→qT s enc ys w (st.X C.X0 σ) (a.eval y)) :
  an P (.call { callee :=.builtin .append,args := #[x,y],argTypes := #[t,t] }) env h n (some (.own n 0 (xs.length+ys.length) s none)) [(n,some (.ds e s false enc (xs++ys)))]:=.of_comes fun C G st σ w a o ho hA hd hst hn=>by
 obtain⟨ax,c0,f,hax,hc0,hnone,hf,hfc⟩:=hold C G st σ w a hA hst
 obtain⟨ad,c1,g,hu,hg,hgc⟩:=hsrc C G st σ w a hA hst
 obtain⟨i,z,hi,hi1,hi2,hi3,hi4⟩:=(hT e re he).info
 obtain⟨ud,hud,hdd⟩:=aS hT ht
 cases hdd
 have hz:z.cells.size=s:=by
  have h1:=Enc.len _ _ (Enc.closed w (fun _=>False) _ (hT e re he).zero)
  rw[hi4]at h1
  simpa[(hT e re he).zsize,hs]using h1
 have hnn:¬G n:=hn n (Nat.le_refl _) (by omega)
 have hgl:(cat g ys.length).length=ys.length*s:=cf _ fun i hi=>(hg i hi).2
 have hfl:(cat f xs.length).length=xs.length*s:=cf _ fun i hi=>(hf i hi).2
 have fin:∀(c:Nat) (cur:Array Value) (w':World),w.grownBy w' none→w'.heap[w.heap.size]?=some (.cells cur e (0,0))→cur.size=c*s→xs.length+ys.length≤c→c≤maxLen →
   cur.toList.take ((xs.length+ys.length)*s)=cat f xs.length++cat g ys.length →
   (Builtin.append_ #[t,t] o.type #[a.eval x,a.eval y]).run P w=.ok (.slice (some ⟨w.heap.size,0,none⟩) (xs.length+ys.length) c) w' →
   b5 P C G st n o a w (fun v' u'=>v'=some (.own n 0 (xs.length+ys.length) s none)∧u'=[(n,some (.ds e s false enc (xs++ys)))]):=by
  rintro c cur w' hgr hh hcs hle hcm htk hrun
  obtain⟨F,hF,hFc⟩:=jH hf hg
  have hsw:=hst.freshBy hnn hgr (b:=w.heap.size) (c:=c) (Nat.le_refl _) (.ds e s false enc (xs++ys)) trivial (fun σ' X' hk1 hk2 hσn=>by
   exact .inr ⟨w.heap.size,c,cur,hσn,(fun e=>nomatch e),hh,hcs,by simpa using hle,hcm,F,fun i hi=>⟨hk2 _ _ (hF i hi).1,(hF i hi).2⟩,by rw[hFc,List.length_append]; exact htk⟩)
  have hval:RelV (fun q=>if q=n then some (w.heap.size,c) else σ q) w' ((st.upd [(n,some (.ds e s false enc (xs++ys)))]).X C.X0 (fun q=>if q=n then some (w.heap.size,c) else σ q)) (.own n 0 (xs.length+ys.length) s none) (.slice (some ⟨w.heap.size,0,none⟩) (xs.length+ys.length) c):=
   RelV.own.2 (.inr ⟨w.heap.size,c,⟨w.heap.size,0,none⟩,by simp,by simp,by simpa using hle,by simp,by simpa using hle,fun _=>by simp⟩)
  refine⟨_,_,.value (.slice (some ⟨w.heap.size,0,none⟩) (xs.length+ys.length) c),_,w',_,fun q=>G q∨q=n,⟨rfl,rfl⟩,?_,.inl rfl,by rw[St.put_upd]; exact hsw.set hd hval (.inr rfl),fun r hr=>Or.inl hr,fun r hr=>Or.imp id (fun h=>⟨by omega,by omega⟩) hr⟩
  simp[execOp,ho,resolve,invoke,builtin,hrun]
 cases ax with
 | none =>
  obtain⟨rfl,rfl⟩:=hnone rfl
  simp only[List.length_nil,Nat.zero_add]at hlen hbytes fin hax
  have hrun:=run_append_nil (P:=P) w t o.type e i z hud hi hi3 ad ys.length c1 (cat g ys.length) (by rw[hgl,hi1,hs]) hgc hys (by simp only[maxLen]at hlen; omega) (by rw[hi2]; exact Nat.le_trans hbytes (by decide))
  simp only[List.length_nil,Nat.zero_add]
  refine fin (grownCap w ys.length 0 e) ((cat g ys.length).toArray++Builtin.zeroCells z.cells (grownCap w ys.length 0 e-ys.length)) _ (cR w _ _) (heap_alloc_new w.drew _) ?_ ?_ (grownCap_le_maxLen w ys.length 0 e hlen) ?_ (by rw[hax,hu,hrun])
  ·have hge:=grownCap_ge w ys.length 0 e
   simp only[Array.size_append,List.size_toArray,size_zeroCells,hz,hgl,←Nat.add_mul]
   congr 1; omega
  ·exact grownCap_ge w ys.length 0 e
  ·simp only[Array.toList_append,cat,List.nil_append]
   rw[←hgl]
   exact List.take_left
 | some a' =>
  have hrun:=run_append_grow (P:=P) w t o.type e i z hud hi hi3 a' xs.length c0 (cat f xs.length) (by rw[hfl,hi1,hs]) (hfc a' rfl) ad ys.length c1 (cat g ys.length) (by rw[hgl,hi1,hs]) hgc hc0 (by simp only[maxLen]at hlen; omega) (growslice_fits hc0 (by rw[hi2]; exact hbytes))
  refine fin _ _ _ (cR w _ _) (heap_alloc_new w.drew _) ?_ (grownCap_ge w _ c0 e) (grownCap_le_maxLen w _ c0 e hlen) ?_ (by rw[hax,hu,hrun])
  ·have hge:=grownCap_ge w (xs.length+ys.length) c0 e
   simp only[Array.size_append,List.size_toArray,List.length_append,size_zeroCells,hz,hgl,hfl,←Nat.add_mul]
   congr 1; omega
  ·simp only[Array.toList_append]
   have:(xs.length+ys.length)*s=(cat f xs.length++cat g ys.length).length:=by rw[List.length_append,hfl,hgl,Nat.add_mul]
   rw[this]
   exact List.take_left
theorem pf (hT:aq P T) {t e:Nat} {re:TyR} {s:Nat} {α:Type} {enc:α→D} {ys:List α} {x y:Operand} {v:AV} (ht:bh T t=some (.slice e)) (he:lk T e=some re) (hs:re.size=s)
  (hx:ay env x=some v) (hv:v=.empty∨v=.d (.sc (.slice none 0 0))) (hys:0<ys.length) (hlen:ys.length≤maxLen) (hbytes:ys.length*re.bytes≤140737488355328)
  (hsrc:∀(C:Ctx) (G:Nat→Prop) (st:St) (σ:Place) (w:World) (a:Act),fh env h st→aH C G st σ w a→qT s enc ys w (st.X C.X0 σ) (a.eval y)) :
  an P (.call { callee :=.builtin .append,args := #[x,y],argTypes := #[t,t] }) env h n (some (.own n 0 ys.length s none)) [(n,some (.ds e s false enc ys))]:=by
 have:=pd (n:=n) hT (xs:=[]) ht he hs hys (by simpa using hlen) (by simpa using hbytes) (x:=x) (fun C G st σ w a hA hst=>by
  obtain⟨hx1,hx2⟩:=ao hst (hA.ev hx)
  rcases hv with rfl | rfl
  ·unfold RelV at hx1
   rw[if_neg (by simp[AV.isAgg])]at hx1
   obtain⟨ax,hax⟩:=hx1
   exact⟨ax,0,fun _=>[],by simpa using hax,by simpa using hys,fun _=>⟨rfl,rfl⟩,fun i hi=>by simp at hi,fun _ _ j v hj=>by simp[cat]at hj⟩
  ·obtain⟨hx3,_⟩:=RelV.sc.1 hx1
   exact⟨none,0,fun _=>[],hx3,by simpa using hys,fun _=>⟨rfl,rfl⟩,fun i hi=>by simp at hi,fun _ _ j v hj=>by simp[cat]at hj⟩) hsrc
 simpa using this
end
end Go.Eng
namespace Go.Eng
open Go.RowKit
section
variable {P : Program} {T : Tab} {sz : Nat} {env : Env} {h : Upds} {n : Nat}
theorem gy (hT:aq P T) {t e:Nat} {re:TyR} {s:Nat} {α:Type} {enc:α→D} {ys:List α} {x y:Operand} (ht:bh T t=some (.slice e)) (he:lk T e=some re) (hs:Nat.beq re.size s=true) (hs0:Nat.blt 0 s=true)
  {v:AV} (hx:ay env x=some v) (hv:v=.empty∨v=.d (.sc (.slice none 0 0))) (hy:ay env y=some (.d (.arr s enc ys))) (hys:0<ys.length) (hlen:ys.length≤1048576) (hbytes:Nat.ble re.bytes 134217728=true) :
  an P (.call { callee :=.builtin .append,args := #[x,y],argTypes := #[t,t] }) env h n (some (.own n 0 ys.length s none)) [(n,some (.ds e s false enc ys))]:=by
 have hs0:=Nat.le_of_ble_eq_true hs0
 have hb:=Nat.le_of_ble_eq_true hbytes
 refine pf hT ht he (Nat.eq_of_beq_eq_true hs) hx hv hys (by simp only[maxLen]; omega) ?_ ?_
 ·have:ys.length*re.bytes≤1048576*134217728:=Nat.mul_le_mul hlen hb
  omega
 ·intro C G st σ w a hA hst
  obtain⟨hy1,_⟩:=ao hst (hA.ev hy)
  rcases RelV.arr.1 hy1 with ⟨rfl,_⟩ | ⟨ad,c,hv,_,_,f,hf⟩
  ·simp at hys
  ·refine⟨ad,c,f,hv,fun i hi=>⟨(hf i hi).1,(hf i hi).2.1⟩,fun j u hj=>?_⟩
   have hjl:=(List.getElem?_eq_some_iff.1 hj).1
   rw[cf _ fun i hi=>(hf i hi).2.1]at hjl
   have hi:j/s<ys.length:=Nat.div_lt_of_lt_mul (by rw[Nat.mul_comm]; exact hjl)
   have hm:j % s<s:=Nat.mod_lt _ hs0
   have hj2:j/s*s+j % s=j:=by rw[Nat.mul_comm]; exact Nat.div_add_mod j s
   have:=dW ys.length (fun i hi=>(hf i hi).2.1) (j/s) (j % s) hi hm
   rw[hj2,hj]at this
   have:=((hf _ hi).2.2 (j % s) u this.symm).1
   rwa [hj2]at this
end
end Go.Eng
namespace Go.Eng
open Go.RowKit
def Frz (r:Nat) (row:Row) (a a':AV):Prop :=
 a'.isAgg=a.isAgg∧(a.flat=true→a'.flat=true)∧(∀G:Nat→Prop,a.within G→a'.within G) ∧
  ∀(σ:Place) (w:World) (X X':Nat→Prop),(∀b,X' b→X b)→(∀b c,σ r=some (b,c)→¬X' b)→bw σ w X r row→∀cs,Rel σ w X a false cs→Rel σ w X' a' false cs
def FrzR (r:Nat) (row x x':Row):Prop :=
 (∀G:Nat→Prop,x.within G→x'.within G) ∧
  ∀(σ:Place) (w:World) (X X':Nat→Prop) (q:Nat),(∀b,X' b→X b)→(∀b c,σ r=some (b,c)→¬X' b)→bw σ w X r row→bw σ w X q x→bw σ w X' q x'
section
variable {r : Nat} {row : Row}
theorem Frz.refl (a:AV):Frz r row a a :=
 ⟨rfl,fun h=>h,fun _ h=>h,fun _ _ _ _ hx _ _ cs h=>Rel.mono (G:=fun _=>True) (fun _ _=>rfl) (fun _ _ h1 h2=>⟨.rfl' h1,fun h=>h2 (hx _ h)⟩) a false cs a.within_all h⟩
theorem Frz.own {te s:Nat} {ex:Bool} {α:Type} {enc:α→D} {xs:List α} {len:Nat} {cap:Option Nat} (hl:len=xs.length):Frz r (.ds te s ex enc xs) (.own r 0 len s cap) (.d (.arr s enc xs)):=by
 subst hl
 refine⟨rfl,fun _=>rfl,fun _ _=>trivial,fun σ w X X' hx hn hr cs h=>?_⟩
 rcases h with ⟨h0,_,hl,_,rfl⟩ | ⟨b,c,ad,hb,rfl,hle1,hle2,hle3,had⟩
 ·exact .inl ⟨List.eq_nil_of_length_eq_zero hl,rfl⟩
 ·rcases hr with ⟨h0,rfl⟩ | ⟨b',c',cur,hb',_,hh,hsz,hlen,hmax,f,hf,htake⟩
  ·rw[hb]at h0; cases h0
  ·rw[hb]at hb'
   cases hb'
   refine .inr ⟨ad,cap.getD (c-0),rfl,hle3,by omega,f,fun i hi=>?_⟩
   obtain⟨h1,h2⟩:=hf i hi
   have hoff:ad=⟨b,0*s,none⟩:=had (by omega)
   subst hoff
   refine⟨Enc.sub hx _ _ h1,h2,fun j u hj=>⟨?_,hn b c hb⟩⟩
   rw[dr,cell_of_row w b _ cur te (0,0) hh]
   have hjs:j<s:=by rw[←h2]; exact (List.getElem?_eq_some_iff.1 hj).1
   have hcg:=dW (f:=f) (s:=s) xs.length (fun i hi=>(hf i hi).2) i j hi hjs
   rw[←htake,hj,List.getElem?_take]at hcg
   have hlt2:i*s+j<xs.length*s:=by
    have:(i+1)*s≤xs.length*s:=Nat.mul_le_mul_right s hi
    rw[Nat.add_mul]at this; omega
   rw[if_pos hlt2]at hcg
   rw[←Array.getElem?_toList,Nat.zero_mul,Nat.zero_add]
   exact hcg
theorem FrzR.refl (x:Row):FrzR r row x x :=
 ⟨fun _ h=>h,fun _ _ _ _ _ hx _ _ h=>bw.mono (G:=fun _=>True) (fun _ _=>rfl) (fun _ _ h1 h2=>⟨.rfl' h1,fun h=>h2 (hx _ h)⟩) (Nat.le_refl _) trivial x.within_all (fun _ _ _=>rfl) h⟩
end
theorem aH.freeze {C:Ctx} {G:Nat→Prop} {st st':St} {σ:Place} {w:World} {a:Act} (h:aH C G st σ w a) (r:Nat) (row:Row) (hrow:st.row r=some row)
  (hE:∀i v',lk st'.env i=some v' → ∃v,lk st.env i=some v∧Frz r row v v') (hH:∀q x',st'.row q=some x'→q≠r∧∃x,st.row q=some x∧FrzR r row x x')
  (hsz:st'.sz=st.sz) (hbs:st'.bs=st.bs):aH C G st' σ w a:=by
 have hx:∀b,st'.X C.X0 σ b→st.X C.X0 σ b:=by
  rintro b (hb | ⟨q,x',c,h1,h2⟩)
  ·exact .inl hb
  ·obtain⟨_,x,h3,_⟩:=hH q x' h1
   exact .inr ⟨q,x,c,h3,h2⟩
 have hn:∀b c,σ r=some (b,c)→¬st'.X C.X0 σ b:=by
  rintro b c hb (hx0 | ⟨q,x',c',h1,h2⟩)
  ·obtain⟨h3,h4⟩:=h.x0 _ hx0
   rcases h.high _ _ _ _ hrow hb with h5 | h5
   ·omega
   ·exact h4 h5
  ·obtain⟨hq,x,h3,_⟩:=hH q x' h1
   exact hq (h.inj _ _ _ _ _ _ _ h3 hrow h2 hb)
 have hr:=h.rows r row hrow
 refine⟨?_,?_,?_,?_,?_,?_,h.size,h.below,h.defers,by rw[hsz]; exact h.sz,h.x0,h.agree,h.baseG,by rw[hbs]; exact h.bs,h.rok,h.glob⟩
 ·intro i v' hv'
  obtain⟨v,hv,hf⟩:=hE i v' hv'
  obtain⟨u,hu1,hu2⟩:=h.env i v hv
  refine⟨u,hu1,?_⟩
  unfold RelV at hu2 ⊢
  rw[hf.1]
  split at hu2 <;> rename_i hag
  ·obtain⟨c,rfl,hc⟩:=hu2
   rw[if_pos hag]
   exact⟨c,rfl,hf.2.2.2 σ w _ _ hx hn hr _ hc⟩
  ·rw[if_neg hag]
   exact hf.2.2.2 σ w _ _ hx hn hr _ hu2
 ·intro i v' hv'
  obtain⟨v,hv,hf⟩:=hE i v' hv'
  exact hf.2.2.1 G (h.envG i v hv)
 ·intro q x' hq
  obtain⟨_,x,h1,hf⟩:=hH q x' hq
  exact hf.2 σ w _ _ q hx hn hr (h.rows q x h1)
 ·intro q x' hq
  obtain⟨_,x,h1,hf⟩:=hH q x' hq
  exact⟨(h.rowsG q x h1).1,hf.1 G (h.rowsG q x h1).2⟩
 ·intro q q' x x' b c c' h1 h2 h3 h4
  obtain⟨_,y,g1,_⟩:=hH q x h1
  obtain⟨_,y',g2,_⟩:=hH q' x' h2
  exact h.inj _ _ _ _ _ _ _ g1 g2 h3 h4
 ·intro q x b c h1 h2
  obtain⟨_,y,g1,_⟩:=hH q x h1
  exact h.high _ _ _ _ g1 h2
def iO (r:Nat) (row:Row) (env:Env):Env→Prop
 | []=>True
 | (k,v')::l=>(∃v,lk env k=some v∧Frz r row v v')∧iO r row env l
def dX (r:Nat) (row:Row) (h:Upds):Upds→Prop
 | []=>True
 | (q,some x')::l=>(Nat.beq q r=false∧∃x,bp h q=some x∧FrzR r row x x')∧dX r row h l
 | (_,none)::l=>dX r row h l
theorem iO.out {r:Nat} {row:Row} {env:Env}:∀(l:Env),iO r row env l→∀i v',lk l i=some v' → ∃v,lk env i=some v∧Frz r row v v'
 | [],_,i,v',h=>by simp[lk]at h
 | (k,x)::l,⟨h1,h2⟩,i,v',h=>by
  rw[aQ]at h
  split at h
  ·rename_i e
   subst e
   cases h
   exact h1
  ·exact iO.out l h2 i v' h
theorem dX.out {r:Nat} {row:Row} {hh:Upds}:∀(l:Upds),dX r row hh l→∀q x',bp l q=some x'→q≠r∧∃x,bp hh q=some x∧FrzR r row x x'
 | [],_,q,x',h=>by simp[bp,lk]at h
 | (k,some x)::l,⟨⟨h1,h2⟩,h3⟩,q,x',h=>by
  unfold bp at h
  rw[aQ]at h
  by_cases e:k=q
  ·subst e
   rw[if_pos rfl]at h
   cases h
   exact⟨Nat.ne_of_beq_eq_false h1,h2⟩
  ·rw[if_neg e]at h
   exact dX.out l h3 q x' h
 | (k,none)::l,h3,q,x',h=>by
  unfold bp at h
  rw[aQ]at h
  by_cases e:k=q
  ·rw[if_pos e]at h
   cases h
  ·rw[if_neg e]at h
   exact dX.out l h3 q x' h
section
variable {P : Program} {sz : Nat} {env : Env} {h : Upds} {n : Nat} {Q : Exit → St → Prop}
theorem fZ {c:Code} {env':Env} {h':Upds} (r:Nat) (row:Row) (hrow:bp h r=some row) (hE:iO r row env env') (hH:dX r row h h') (hw:WC P sz c Q env' h' n):WC P sz c Q env h n:=by
 intro C σ w a hst
 refine hw C σ w a (hst.freeze (st':=⟨env',h',n,sz,64⟩) r row (by rw[←cg]; exact hrow) (iO.out env' hE) (fun q x' hq=>?_) rfl rfl)
 rw[←cg]at hq
 obtain⟨h1,x,h2,h3⟩:=dX.out h' hH q x' hq
 exact⟨h1,x,by rw[←cg]; exact h2,h3⟩
end
end Go.Eng
namespace Go.Eng
open Go.RowKit
section
variable {P : Program} {T : Tab} {sz : Nat} {env : Env} {h : Upds} {n : Nat}
theorem fS (hT:aq P T) {t e:Nat} {re:TyR} (ht:bh T t=some (.slice e)) (he:lk T e=some re):an P (.buildSlice t 0 #[]) env h n (some .empty) []:=.of_comes fun C G st σ w a o ho hA hdst hst hn=>by
 obtain⟨ud,hud,hdd⟩:=aS hT ht
 cases hdd
 have hal:=hst.allocBook (.cells #[] e (0,0))
 refine⟨_,_,.value (.slice (some ⟨w.heap.size,0,none⟩) 0 0),.slice (some ⟨w.heap.size,0,none⟩) 0 0,w.alloc (.cells #[] e),σ,G,⟨rfl,rfl⟩,?_,.inl rfl,hal.set hdst (by unfold RelV; rw[if_neg (by simp[AV.isAgg])]; exact⟨_,rfl⟩) trivial,fun _ h=>h,fun _ h=>.inl h⟩
 have h0:Array.map (fun _=>(default:Value)) (Array.range 0) = #[]:=Array.ext' (by simp)
 simp[execOp,ho,Instr.buildSlice,run_underlying hud,(hT e re he).run_size,Instr.fill,newRow,Sem.run_bind,Result.andThen_ok,h0]
theorem lq {t e:Nat} {w:World} (hud:P.underlying t=some (.slice e)) (ad:Addr) (l c l' c':Nat):(binOp .eql t (.slice (some ad) l c) (.slice none l' c')).run P w=.ok (.bool false) w:=by
 have h1:(Op.equalIn 10000 t (.slice (some ad) l c) (.slice none l' c')).run P w=.ok false w:=by
  rw[show (10000:Nat)=9999+1 from rfl,Op.equalIn]
  simp only[Sem.run_bind,run_underlying hud,Result.andThen_ok,Sem.run_pure]
 show (do let b ←Op.equalIn 10000 t _ _; pure (Value.bool b):Sem Value).run P w=_
 simp only[Sem.run_bind,h1,Result.andThen_ok,Sem.run_pure]
theorem tj (hT:aq P T) {t t' e:Nat} {x y:Operand} {α:Type} {s l c:Nat} {enc:α→D} {xs:List α} (ht:bh T t=some (.slice e)) (hx:ay env x=some (.d (.arr s enc xs))) (hy:ay env y=some (.d (.sc (.slice none l c)))) (hp:0<xs.length) :
  an P (.binOp .eql t x y t') env h n (some (.bool false)) []:=.of_comes fun C G st σ w a o ho hA hdst hst hn=>by
 obtain⟨ud,hud,hdd⟩:=aS hT ht
 cases hdd
 obtain⟨hx1,_⟩:=ao hst (hA.ev hx)
 obtain⟨hy1,_⟩:=RelV.sc.1 (ao hst (hA.ev hy)).1
 rcases RelV.arr.1 hx1 with ⟨rfl,_⟩ | ⟨ad,c,hv,_,_,f,hf⟩
 ·simp at hp
 ·refine .quiet (u :=.bool false) hst hdst ⟨rfl,rfl⟩ ?_ (RelV.sc.2 ⟨rfl,rfl⟩) trivial
  have hg:∀l1 c1 l2 c2,(eqGuard .eql t x y (.slice (some ad) l1 c1) (.slice none l2 c2)).run P w=.ok () w:=fun _ _ _ _=>rfl
  simp only[execOp,ho,hv,hy1,Sem.run_bind,hg,Result.andThen_ok,lq hud,Sem.run_pure]
end
end Go.Eng
namespace Go.Eng
open Go.RowKit
section
variable {P : Program} {T : Tab} {sz : Nat} {env : Env} {h : Upds} {n : Nat}
theorem iV (hT:aq P T) {t e L r:Nat} {re:TyR} {x:Operand} {p:List Step} (ht:bh T t=some (.array L e)) (he:lk T e=some re) (hx:ay env x=some (.ptr r p)) :
  an P (.slice t x none none none) env h n (some (.asl r p L L)) []:=.of_comes fun C G st σ w a o ho hA hdst hst hn=>by
 obtain⟨ud,hud,hdd⟩:=aS hT ht
 cases hdd
 obtain⟨hx1,hx2⟩:=ao hst (hA.ev hx)
 obtain⟨b,c,hb,hv⟩:=RelV.ptr.1 hx1
 have hsz:=(hT e re he).run_size (P:=P)
 refine .quiet (u :=.slice (some ⟨b,aW p,none⟩) L L) hst hdst ⟨rfl,rfl⟩ ?_ (RelV.asl.2 ⟨b,c,hb,rfl⟩) hx2
 simp[execOp,ho,Instr.sliceAt,Instr.sureAddr,hv,run_underlying hud,Instr.sliceBounds,hsz,Sem.run_bind,Sem.run_pure,Result.andThen_ok,Addr.add_zero']
end
end Go.Eng
namespace Go.Eng
open Go.RowKit
section
variable {P : Program} {T : Tab} {sz : Nat} {env : Env} {h : Upds} {n : Nat}
end
end Go.Eng
namespace Go.Eng
open Go.RowKit
section
variable {P : Program} {T : Tab} {sz : Nat} {env : Env} {h : Upds} {n : Nat}
end
end Go.Eng
set_option linter.unusedSimpArgs false
namespace Go.Eng
open Go.RowKit
section
variable {P : Program} {T : Tab} {sz : Nat} {env : Env} {h : Upds} {n : Nat}
theorem oB (hT:aq P T) {t e r len m:Nat} {re:TyR} {x j:Operand} {s:Nat} {k':IntKind} (ht:bh T t=some (.slice e)) (he:lk T e=some re)
  (hx:ay env x=some (.own r 0 len s none)) (hj:ay env j=some (.int k' m)) (hm:m≤len):an P (.slice t x none (some j) none) env h n (some (.own r 0 m s none)) []:=.of_comes fun C G st σ w a o ho hA hdst hst hn=>by
 obtain⟨ud,hud,hdd⟩:=aS hT ht
 cases hdd
 obtain⟨hx1,hx2⟩:=ao hst (hA.ev hx)
 obtain⟨hj1,_⟩:=RelV.sc.1 (ao hst (hA.ev hj)).1
 have hsz:=(hT e re he).run_size (P:=P)
 rcases RelV.own.1 hx1 with ⟨hσ,h1,h2,h3,hv⟩ | ⟨b,c,ad,hσ,hv,h1,h2,h3,h4⟩
 ·subst h2
  obtain rfl:m=0:=by omega
  refine .quiet (u :=.slice none 0 0) hst hdst ⟨rfl,rfl⟩ ?_ (RelV.own.2 (.inl ⟨hσ,rfl,rfl,rfl,rfl⟩)) hx2
  simp[execOp,ho,Instr.sliceAt,Instr.slice,hv,hj1,run_underlying hud,Instr.sliceBounds,Instr.sliceBound,asIntOf,hsz,Sem.run_bind,Sem.run_pure,Result.andThen_ok]
 ·simp only[Option.getD_none,Nat.sub_zero,Nat.zero_add]at hv h1 h2 h3
  refine .quiet (u :=.slice (some ad) m c) hst hdst ⟨rfl,rfl⟩ ?_ (RelV.own.2 (.inr ⟨b,c,ad,hσ,by simp,by (first | omega | (simp <;> omega)),by (first | omega | (simp <;> omega)),by (first | omega | (simp <;> omega)),h4⟩)) hx2
  have hle:¬c<m:=by omega
  simp[execOp,ho,Instr.sliceAt,Instr.slice,hv,hj1,run_underlying hud,Instr.sliceBounds,Instr.sliceBound,asIntOf,hsz,Sem.run_bind,Sem.run_pure,Result.andThen_ok,hle,Addr.add_zero']
end
section
variable {P : Program} {sz : Nat} {env : Env} {h : Upds} {n : Nat} {all l : List Oper} {K : Env → Upds → Nat → Prop}
theorem bT {env':Env} {h':Upds} (r:Nat) (row:Row) (hrow:bp h r=some row) (hE:iO r row env env') (hH:dX r row h h') (h1:RegS P all sz l n env' h' K):RegS P all sz l n env h K:=by
 intro C σ w a hst Q hQ
 refine h1 C σ w a (hst.freeze (st':=⟨env',h',n,sz,64⟩) r row (by rw[←cg]; exact hrow) (iO.out env' hE) (fun q x' hq=>?_) rfl rfl) Q hQ
 rw[←cg]at hq
 obtain⟨h1,x,h2,h3⟩:=dX.out h' hH q x' hq
 exact⟨h1,x,by rw[←cg]; exact h2,h3⟩
end
end Go.Eng
set_option linter.unusedSimpArgs false
namespace Go.Eng
open Go.RowKit
abbrev nilp:Value :=.pointer none
theorem RelV.pt {σ:Place} {w:World} {x:D} {u:Value} {X:Nat→Prop}:RelV σ w X (.d (.pt x)) u↔RelV σ w X (.iptr x) u:=by
 unfold RelV
 simp only[AV.isAgg,D.isAgg,Rel,Enc]
 exact Iff.rfl
section
variable {P : Program} {T : Tab} {sz : Nat} {env : Env} {h : Upds} {n : Nat}
theorem bL (hT:aq P T) {s f off t:Nat} {fs:List (Nat×Nat)} {x:Operand} {d z:D} (hs:bh T s=some (.struct fs)) (hx:ay env x=some (.d (.pt d))) (hf:fs[f]?=some (off,t)) (hz:d.chainAt f off=some z) :
  an P (.fieldAddr s x f) env h n (some (.iptr z)) []:=.of_comes fun C G st σ w a o ho hA hd hst hn=>by
 obtain⟨h1,_⟩:=ao hst (hA.ev hx)
 obtain⟨ad,m,hu,hm,hst'⟩:=RelV.iptr.1 (RelV.pt.1 h1)
 obtain⟨A,m',C,⟨rfl,hA'⟩,hm',_⟩:=D.chainAt_cells f off d z m hz hm
 refine .quiet (u :=.pointer (some (ad.add off))) hst hd ⟨rfl,rfl⟩ ?_ (RelV.iptr.2 ⟨ad.add off,m',rfl,hm',fun j u hj=>?_⟩) trivial
 ·simp only[execOp,ho,hu,Sem.run_bind,ig hT hs hf,Result.andThen_ok]
  rfl
 ·have:=hst' (off+j) u (by
   rw[List.append_assoc,List.getElem?_append_right (by omega),List.getElem?_append_left (by have:=(List.getElem?_eq_some_iff.1 hj).1; omega),←hj]
   congr 1; omega)
  rw[eQ]
  exact⟨this.1,by rw[Addr.add_block]; exact this.2⟩
theorem ln {t e:Nat} {w:World} (hud:P.underlying t=some (.pointer e)) (x:Option Addr):(binOp .eql t (.pointer x) nilp).run P w=.ok (.bool x.isNone) w:=by
 have h1:(Op.equalIn 10000 t (.pointer x) nilp).run P w=.ok x.isNone w:=by
  rw[show (10000:Nat)=9999+1 from rfl,Op.equalIn]
  cases x <;> simp only[Sem.run_bind,run_underlying hud,Result.andThen_ok,Sem.run_pure] <;> rfl
 show (do let b ←Op.equalIn 10000 t _ _; pure (Value.bool b):Sem Value).run P w=_
 simp only[Sem.run_bind,h1,Result.andThen_ok,Sem.run_pure]
theorem eqG {op:BinOp} {t:Nat} {x y:Operand} {w:World} (p q:Option Addr):(eqGuard op t x y (.pointer p) (.pointer q)).run P w=.ok () w:=by cases op <;> rfl
theorem Ah {t t' e:Nat} {x y:Operand} (hud:P.underlying t=some (.pointer e)) (hx:ay env x=some (.d (.sc nilp))) (hy:ay env y=some (.d (.sc nilp))) :
  an P (.binOp .eql t x y t') env h n (some (.bool true)) []:=.of_comes fun C G st σ w a o ho hA hdst hst hn=>by
 obtain⟨hv,_⟩:=RelV.sc.1 (ao hst (hA.ev hx)).1
 obtain⟨hy1,_⟩:=RelV.sc.1 (ao hst (hA.ev hy)).1
 refine .quiet (u :=.bool true) hst hdst ⟨rfl,rfl⟩ ?_ (RelV.sc.2 ⟨rfl,rfl⟩) trivial
 simp only[execOp,ho,hv,hy1,Sem.run_bind,eqG,Result.andThen_ok,ln hud,Sem.run_pure,Option.isNone]
end
section
variable {r : Nat} {row : Row}
theorem Frz.ptr {t:TypeId} {x:D}:Frz r (.box t (.d x)) (.ptr r []) (.d (.pt x)):=by
 refine⟨rfl,fun _=>rfl,fun _ _=>trivial,fun σ w X X' hx hn hr cs h=>?_⟩
 obtain⟨-, b,cur,hb,hh,hd⟩:=hr
 obtain⟨b',c',hb',rfl⟩:=h
 rw[hb]at hb'
 cases hb'
 refine⟨⟨b,aW [],none⟩,cur.toList,rfl,Enc.sub hx _ _ hd,fun j u hj=>⟨?_,hn b 1 hb⟩⟩
 rw[dr,cell_of_row w b _ cur t (0,0) hh,←Array.getElem?_toList]
 rw[show aW []+j=j from Nat.zero_add _]
 exact hj
theorem Frz.le {a x y:AV} (h1:Frz r row a x) (hag:y.isAgg=x.isAgg) (hf:x.flat=true→y.flat=true) (hw:∀G:Nat→Prop,x.within G→y.within G) (hle:∀(σ:Place) (w:World) (X:Nat→Prop) (cs:List Value),Rel σ w X x false cs→Rel σ w X y false cs):Frz r row a y :=
 ⟨hag.trans h1.1,fun h=>hf (h1.2.1 h),fun G g=>hw G (h1.2.2.1 G g),fun σ w X X' hx hn hr cs h=>hle _ _ _ _ (h1.2.2.2 σ w X X' hx hn hr cs h)⟩
end
end Go.Eng
set_option linter.unusedSimpArgs false
namespace Go.Eng
open Go.RowKit
theorem RelV.arx {σ:Place} {w:World} {α:Type} {s:Nat} {enc:α→D} {xs:List α} {u:Value} {X:Nat→Prop}:RelV σ w X (.d (.arx s enc xs)) u↔(xs=[] ∧ ∃a,u=.slice a 0 0) ∨
   ∃a,u=.slice (some a) xs.length xs.length∧xs.length≤maxLen ∧
    ∃f:Nat→List Value,∀i (h:i<xs.length),Enc w X (enc xs[i]) (f i)∧(f i).length=s ∧
     ∀j u,(f i)[j]?=some u→w.cell? (a.add (i*s+j))=some u∧¬X a.block:=by
 unfold RelV
 simp only[AV.isAgg,D.isAgg,Rel,Enc]
 simp
theorem DLe.arx_arr {α:Type} {s:Nat} {enc:α→D} {xs:List α}:DLe (.arx s enc xs) (.arr s enc xs):=by
 rintro w X cs (⟨rfl,a,rfl⟩ | ⟨a,rfl,h1,f,hf⟩)
 ·cases a with
  | none=>exact .inl ⟨rfl,rfl⟩
  | some a=>exact .inr ⟨a,0,rfl,Nat.le_refl _,Nat.zero_le _,fun _=>[],fun i h=>absurd h (Nat.not_lt_zero _)⟩
 ·exact .inr ⟨a,_,rfl,Nat.le_refl _,h1,f,hf⟩
theorem AVLe.empty_arx {α:Type} (s:Nat) (enc:α→D):AVLe .empty (.d (.arx s enc [])):=fun σ w X v h=>by
 unfold RelV at h
 rw[if_neg (by simp[AV.isAgg])]at h
 obtain⟨a,ha⟩:=h
 exact RelV.arx.2 (.inl ⟨rfl,a,by simpa using ha⟩)
theorem AVLe.empty_arr {α:Type} (s:Nat) (enc:α→D):AVLe .empty (.d (.arr s enc [])):=fun σ w X v h=>by
 have h2:=RelV.arx.1 (AVLe.empty_arx s enc σ w X v h)
 rcases h2 with ⟨_,a,rfl⟩ | ⟨a,rfl,_,f,hf⟩
 ·cases a with
  | none=>exact RelV.arr.2 (.inl ⟨rfl,rfl⟩)
  | some a=>exact RelV.arr.2 (.inr ⟨a,0,rfl,Nat.le_refl _,Nat.zero_le _,fun _=>[],fun i h=>absurd h (Nat.not_lt_zero _)⟩)
 ·exact RelV.arr.2 (.inr ⟨a,0,rfl,Nat.le_refl _,Nat.zero_le _,fun _=>[],fun i h=>absurd h (Nat.not_lt_zero _)⟩)
theorem AVLe.nil_empty:AVLe (.d (.sc nil_)) .empty:=fun σ w X v h=>by
 obtain⟨rfl,_⟩:=RelV.sc.1 h
 unfold RelV
 rw[if_neg (by simp[AV.isAgg])]
 exact⟨none,rfl⟩
section
variable {P : Program} {T : Tab} {sz : Nat} {env : Env} {h : Upds} {n : Nat}
theorem bt (hT:aq P T) {x:Operand} {t e:TypeId} {α:Type} {s:Nat} {enc:α→D} {xs:List α} (hx:ay env x=some (.d (.arx s enc xs))) (ht:bh T t=some (.slice e)) :
  an P (.call { callee :=.builtin .len,args := #[x],argTypes := #[t] }) env h n (some (.int .i64 xs.length)) []:=.len rfl hx fun C st σ w a ty hr=>by
 obtain⟨u,hu,hdu⟩:=aS hT ht
 cases hdu
 rcases RelV.arx.1 hr with ⟨rfl,ad,hv⟩ | ⟨ad,hv,_⟩ <;> simp[Builtin.len_,hv,run_underlying hu]
theorem fR (hT:aq P T) {x:Operand} {t e:TypeId} {α:Type} {s:Nat} {enc:α→D} {xs:List α} (ht:bh T t=some (.slice e)) (hx:ay env x=some (.d (.arx s enc xs))) :
  an P (.call { callee :=.builtin .cap,args := #[x],argTypes := #[t] }) env h n (some (.int .i64 xs.length)) []:=.of_comes fun C G st σ w a o ho hA hd hst hn=>by
 obtain⟨ud,hud,hdd⟩:=aS hT ht
 cases hdd
 obtain⟨hx1,_⟩:=ao hst (hA.ev hx)
 have hv:∃b l,a.eval x=.slice b l xs.length:=by
  rcases RelV.arx.1 hx1 with ⟨rfl,ad,hv⟩ | ⟨ad,hv,_⟩ <;> exact⟨_,_,hv⟩
 obtain⟨b,l,hv⟩:=hv
 refine .quiet (u:=goInt xs.length) hst hd ⟨rfl,rfl⟩ ?_ (RelV.sc.2 ⟨rfl,rfl⟩) trivial
 simp[execOp,ho,resolve,invoke,builtin,Builtin.cap_,hv,run_underlying hud,goInt]
theorem aK (hT:aq P T) {t e:TypeId} {x i:Operand} {re:TyR} {α:Type} {s:Nat} {enc:α→D} {xs:List α} {k:IntKind} {m:Int} {el:α} (ht:bh T t=some (.slice e)) (he:lk T e=some re) (hs:Nat.beq re.size s=true)
  (hx:ay env x=some (.d (.arx s enc xs))) (hi:ay env i=some (.int k m)) (h0:0≤m) (hel:xs[m.toNat]?=some el):an P (.indexAddr t x i) env h n (some (.iptr (enc el))) []:=.of_comes fun C G st σ w a o ho hA hd hst hn=>by
 obtain⟨hx1,hx2⟩:=ao hst (hA.ev hx)
 obtain⟨hi1,_⟩:=RelV.sc.1 (ao hst (hA.ev hi)).1
 obtain⟨hlt,hee⟩:=List.getElem?_eq_some_iff.1 hel
 rcases RelV.arx.1 hx1 with ⟨rfl,_⟩ | ⟨ad,hu,_,f,hf⟩
 ·simp at hlt
 ·obtain⟨h2,h3,h4⟩:=hf _ hlt
  rw[hee]at h2
  refine .quiet (u :=.pointer (some (ad.add (m.toNat*s)))) hst hd ⟨rfl,rfl⟩ ?_ (RelV.iptr.2 ⟨_,f m.toNat,rfl,h2,fun j v hj=>?_⟩) trivial
  ·simp only[execOp,ho,hu,hi1,Sem.run_bind,dx hT ht he h0 (show m<(xs.length:Int) by omega),Result.andThen_ok,Sem.run_pure,Nat.eq_of_beq_eq_true hs]
  ·rw[eQ,Addr.add_block]; exact h4 j v hj
def lj (l:List Int):ByteArray:=l.foldl (fun r n=>r.push (UInt8.ofNat n.toNat)) ByteArray.empty
theorem qI {w:World} {X:Nat→Prop} {xs:List Int} {a:Addr} {f:Nat→List Value} (hf:∀i (h:i<xs.length),Enc w X (bE xs[i]) (f i)∧(f i).length=1∧∀j u,(f i)[j]?=some u→w.cell? (a.add (i*1+j))=some u∧¬X a.block) :
  (loadCells a xs.length).run P w=.ok (xs.map (Value.int .u8)).toArray w:=by
 have h:=run_loadCells_list (P:=P) w a (xs.map (Value.int .u8)) (fun j v hv=>?_)
 ·simpa using h
 ·rw[List.getElem?_map,Option.map_eq_some_iff]at hv
  obtain⟨y,hy,rfl⟩:=hv
  obtain⟨hj,hy⟩:=List.getElem?_eq_some_iff.1 hy
  obtain⟨h1,_,h3⟩:=hf j hj
  obtain⟨h1,_⟩:=h1
  rw[hy]at h1
  have:=(h3 0 (.int .u8 y) (by rw[h1]; rfl)).1
  simpa using this
theorem eL (hT:aq P T) {t t' e:TypeId} {x:Operand} {xs:List Int} (ht:bh T t=some (.slice e)) (he:bh T e=some (.int .u8)) (ht':bh T t'=some .string) (hx:ay env x=some (.d (.arr 1 bE xs))) :
  an P (.convert t t' x) env h n (some (.d (.sc (.string (lj xs))))) []:=.of_comes fun C G st σ w a o ho hA hd hst hn=>by
 obtain⟨u1,hu1,hd1⟩:=aS hT ht
 obtain⟨u2,hu2,hd2⟩:=aS hT he
 obtain⟨u3,hu3,hd3⟩:=aS hT ht'
 cases hd1; cases hd2; cases hd3
 obtain⟨hx1,_⟩:=ao hst (hA.ev hx)
 refine .quiet (u :=.string (lj xs)) hst hd ⟨rfl,rfl⟩ ?_ (RelV.sc.2 ⟨rfl,rfl⟩) trivial
 rcases RelV.arr.1 hx1 with ⟨rfl,hv⟩ | ⟨ad,c,hv,hc1,hc2,f,hf⟩
 ·simp only[execOp,ho,hv,Sem.run_bind,run_convert_bytes_string w t t' e _ _ _ hu1 hu2 hu3,Conv.bytesToString,Sem.run_pure,Result.andThen_ok]
  rfl
 ·simp only[execOp,ho,hv,Sem.run_bind,run_convert_bytes_string w t t' e _ _ _ hu1 hu2 hu3,run_bytesToString w ad _ _ xs (qI hf),Sem.run_pure,Result.andThen_ok]
  rfl
end
theorem FnIs.split_arr {P:Program} {f:FuncId} {α:Type} {s:Nat} {enc:α→D} {avs:List AV} {h0:List (Nat×Row)} {res:AV} {rows:List (Nat×Row)}
  (h1:FnIs P f (.d (.sc nil_)::avs) h0 res rows) (h2:∀c:Addr×Nat,FnIs P f (.d (.sc (.slice (some c.1) 0 c.2))::avs) h0 res rows):FnIs P f (.d (.arr s enc ([]:List α))::avs) h0 res rows:=by
 refine⟨h1.1,fun C σ w vs hbs hB hw0 hσ0 hro hst=>?_⟩
 obtain⟨u,hu1,hu2⟩:=hst.env 0 _ rfl
 have key:∀v:Value,v.oneCell'=true→u=v→aH C (fun r=>r<64) (inSt (.d (.sc v)::avs) h0) σ w ⟨vs.toArray,[]⟩:=fun v hv e=>by
  refine⟨fun i y hy=>?_,fun i y hy=>?_,hst.rows,hst.rowsG,hst.inj,hst.high,hst.size,hst.below,hst.defers,hst.sz,hst.x0,hst.agree,hst.baseG,hst.bs,hst.rok,hst.glob⟩
  ·simp only[inSt,dD,aQ]at hy
   split at hy
   ·rename_i e2
    subst e2
    cases hy
    exact⟨u,hu1,RelV.sc.2 ⟨e,hv⟩⟩
   ·rename_i e2
    exact hst.env i y (by simp only[inSt,dD,aQ]; rw[if_neg e2]; exact hy)
  ·simp only[inSt,dD,aQ]at hy
   split at hy
   ·cases hy; trivial
   ·rename_i e2
    exact hst.envG i y (by simp only[inSt,dD,aQ]; rw[if_neg e2]; exact hy)
 rcases RelV.arr.1 hu2 with ⟨_,rfl⟩ | ⟨a,c,rfl,hc,hm,f,hf⟩
 ·exact h1.2 C σ w vs hbs hB hw0 hσ0 hro (key _ rfl rfl)
 ·exact (h2 (a,c)).2 C σ w vs hbs hB hw0 hσ0 hro (key _ rfl rfl)
section
variable {r : Nat} {row : Row}
end
end Go.Eng
set_option linter.unusedSimpArgs false
namespace Go.Eng
open Go.RowKit
section
variable {P : Program} {T : Tab} {sz : Nat} {env : Env} {h : Upds} {n : Nat}
end
end Go.Eng
set_option linter.unusedSimpArgs false
namespace Go.Eng
open Go.RowKit
section
variable {P : Program} {T : Tab} {sz : Nat} {env : Env} {h : Upds} {n : Nat}
theorem nt (hT:aq P T) {t e:Nat} {re:TyR} {x y:Operand} {a:Addr} {c:Nat} (ht:bh T t=some (.slice e)) (he:lk T e=some re)
  (hx:ay env x=some .empty) (hy:ay env y=some (.d (.sc (.slice (some a) 0 c)))) :
  an P (.call { callee :=.builtin .append,args := #[x,y],argTypes := #[t,t] }) env h n (some .empty) []:=.of_comes fun C G st σ w ac o ho hA hd hst hn=>by
 obtain⟨ud,hud,hdd⟩:=aS hT ht
 cases hdd
 obtain⟨hx1,_⟩:=ao hst (hA.ev hx)
 obtain⟨hy1,_⟩:=RelV.sc.1 (ao hst (hA.ev hy)).1
 have hsz:=(hT e re he).run_size (P:=P)
 have hv:∃b,ac.eval x=.slice b 0 0:=by
  unfold RelV at hx1
  rw[if_neg (by simp[AV.isAgg])]at hx1
  obtain⟨ad,hv⟩:=hx1
  exact⟨ad,by simpa using hv⟩
 obtain⟨b,hv⟩:=hv
 have h0:(loadCells a 0).run P w=.ok #[] w:=by simpa using run_loadCells_list (P:=P) w a [] (by simp)
 refine .quiet (u :=.slice b 0 0) hst hd ⟨rfl,rfl⟩ ?_ (by unfold RelV; rw[if_neg (by simp[AV.isAgg])]; exact⟨b,rfl⟩) trivial
 cases b <;> simp[execOp,ho,resolve,invoke,builtin,Builtin.append_,hv,hy1,run_underlying hud,hsz,Builtin.lenOf,Builtin.firstCells,h0,storeCells,Sem.run_bind,Sem.run_pure,Result.andThen_ok]
theorem qA (hT:aq P T) {t t' e:Nat} {x y:Operand} {a:Addr} {c l2 c2:Nat} (ht:bh T t=some (.slice e)) (hx:ay env x=some (.d (.sc (.slice (some a) 0 c)))) (hy:ay env y=some (.d (.sc (.slice none l2 c2)))) :
  an P (.binOp .eql t x y t') env h n (some (.bool false)) []:=.of_comes fun C G st σ w ac o ho hA hdst hst hn=>by
 obtain⟨ud,hud,hdd⟩:=aS hT ht
 cases hdd
 obtain⟨hv,_⟩:=RelV.sc.1 (ao hst (hA.ev hx)).1
 obtain⟨hy1,_⟩:=RelV.sc.1 (ao hst (hA.ev hy)).1
 refine .quiet (u :=.bool false) hst hdst ⟨rfl,rfl⟩ ?_ (RelV.sc.2 ⟨rfl,rfl⟩) trivial
 have hg:∀l1 c1 l2 c2,(eqGuard .eql t x y (.slice (some a) l1 c1) (.slice none l2 c2)).run P w=.ok () w:=fun _ _ _ _=>rfl
 simp only[execOp,ho,hv,hy1,Sem.run_bind,hg,Result.andThen_ok,lq hud,Sem.run_pure]
theorem rl {t e:Nat} {w:World} (hud:P.underlying t=some (.slice e)) (l c l' c':Nat):(binOp .eql t (.slice none l c) (.slice none l' c')).run P w=.ok (.bool true) w:=by
 have h1:(Op.equalIn 10000 t (.slice none l c) (.slice none l' c')).run P w=.ok true w:=by
  rw[show (10000:Nat)=9999+1 from rfl,Op.equalIn]
  simp only[Sem.run_bind,run_underlying hud,Result.andThen_ok,Sem.run_pure,Option.isNone]
 show (do let b ←Op.equalIn 10000 t _ _; pure (Value.bool b):Sem Value).run P w=_
 simp only[Sem.run_bind,h1,Result.andThen_ok,Sem.run_pure]
theorem wZ (hT:aq P T) {t t' e:Nat} {x y:Operand} {l c l2 c2:Nat} (ht:bh T t=some (.slice e)) (hx:ay env x=some (.d (.sc (.slice none l c)))) (hy:ay env y=some (.d (.sc (.slice none l2 c2)))) :
  an P (.binOp .eql t x y t') env h n (some (.bool true)) []:=.of_comes fun C G st σ w ac o ho hA hdst hst hn=>by
 obtain⟨ud,hud,hdd⟩:=aS hT ht
 cases hdd
 obtain⟨hv,_⟩:=RelV.sc.1 (ao hst (hA.ev hx)).1
 obtain⟨hy1,_⟩:=RelV.sc.1 (ao hst (hA.ev hy)).1
 refine .quiet (u :=.bool true) hst hdst ⟨rfl,rfl⟩ ?_ (RelV.sc.2 ⟨rfl,rfl⟩) trivial
 have hg:∀l1 c1 l2 c2,(eqGuard .eql t x y (.slice none l1 c1) (.slice none l2 c2)).run P w=.ok () w:=fun _ _ _ _=>rfl
 simp only[execOp,ho,hv,hy1,Sem.run_bind,hg,Result.andThen_ok,rl hud,Sem.run_pure]
end
theorem AVLe.acons1 {a b r:AV} (h:AVLe a b) (hag:b.isAgg=a.isAgg):∀(σ:Place) (w:World) (X:Nat→Prop) vs,Rel σ w X (.acons a r) true vs→Rel σ w X (.acons b r) true vs:=by
 rintro σ w X vs ⟨v,us,rfl,h1,h2⟩
 refine⟨v,us,rfl,?_,h2⟩
 have:=h σ w X v (by unfold RelV; exact h1)
 unfold RelV at this
 exact this
theorem AVLe.tup1 {a b r:AV} (h:AVLe a b) (hag:b.isAgg=a.isAgg):AVLe (.tup (.acons a r)) (.tup (.acons b r)):=by
 intro σ w X u hu
 unfold RelV at hu ⊢
 rw[if_neg (by simp[AV.isAgg])]at hu ⊢
 obtain⟨vs,h1,h2⟩:=hu
 exact⟨vs,h1,AVLe.acons1 h hag σ w X vs h2⟩
end Go.Eng
set_option linter.unusedSimpArgs false
namespace Go.Eng
open Go.RowKit
section
variable {P : Program} {T : Tab} {sz : Nat} {env : Env} {h : Upds} {n : Nat}
end
section
variable {r : Nat} {row : Row}
theorem Frz.lits1 {t s:Nat} {ex:Bool} {d:D} {α:Type} {enc:α→D} (x:α) {cap:Option Nat} (hd:d=enc x) (hs:d.size=s):Frz r (.lits t s 1 ex (.acons (.d d) .anil)) (.own r 0 1 s cap) (.d (.arr s enc [x])):=by
 subst hd
 refine⟨rfl,fun _=>rfl,fun _ _=>trivial,fun σ w X X' hx hn hr cs h=>?_⟩
 rcases h with ⟨h0,_,hl,_,rfl⟩ | ⟨b,c,ad,hb,rfl,hle1,hle2,hle3,had⟩
 ·cases hl
 ·rcases hr with ⟨_,⟨h0,h1⟩ | ⟨b',c',cur,cs',hb',_,hh,hsz,hlen,hmax,hcl,hrel,htake⟩⟩
  ·cases h1
  ·rw[hb]at hb'
   cases hb'
   obtain⟨c1,c2,rfl,hc1,rfl⟩:=hrel
   refine .inr ⟨ad,cap.getD (c-0),rfl,hle3,by omega,fun _=>c1,fun i hi=>?_⟩
   have hi0:i=0:=by simpa using hi
   subst hi0
   have hl1:c1.length=s:=by have:=hcl; simpa using this
   have hoff:ad=⟨b,0*s,none⟩:=had (by omega)
   subst hoff
   refine⟨Enc.sub hx _ _ hc1,hl1,fun j u hj=>⟨?_,hn b c hb⟩⟩
   rw[dr,cell_of_row w b _ cur t (0,0) hh]
   have hjs:j<s:=by rw[←hl1]; exact (List.getElem?_eq_some_iff.1 hj).1
   have:=congrArg (fun l=>l[j]?) htake
   simp only[List.getElem?_take,Nat.one_mul,if_pos hjs,List.append_nil]at this
   rw[hj]at this
   simpa using this
end
end Go.Eng
set_option linter.unusedSimpArgs false
namespace Go.Eng
open Go.RowKit
variable {P : Program} {f : FuncId} {avs avs' : List AV} {h0 h0' : List (Nat × Row)} {res : AV} {rows : List (Nat × Row)}
def dP:List AV→List AV→Prop
 | [],[]=>True
 | a::bs9,b::bs=>(AVLe a b∧∀G:Nat→Prop,a.within G→b.within G)∧dP bs9 bs
 | _,_=>False
theorem dP.len:∀ {bs9 bs:List AV},dP bs9 bs→bs.length=bs9.length
 | [],[],_=>rfl
 | _::_,_::_,h=>by simp[dP.len h.2]
 | [],_::_,h=>h.elim
 | _::_,[],h=>h.elim
theorem dP.out:∀ {bs9 bs:List AV} (k:Nat),dP bs9 bs→∀i v',lk (dD k bs) i=some v' → ∃v,lk (dD k bs9) i=some v∧AVLe v v' ∧ ∀G:Nat→Prop,v.within G→v'.within G
 | [],[],k,_,i,v',h=>by simp[dD,lk]at h
 | a::bs9,b::bs,k,h,i,v',hv=>by
  simp only[dD,aQ]at hv ⊢
  split at hv
  ·rename_i e
   cases hv
   exact⟨a,by rw[if_pos e],h.1⟩
  ·rename_i e
   obtain⟨v,h1,h2⟩:=dP.out (k+1) h.2 i v' hv
   exact⟨v,by rw[if_neg e]; exact h1,h2⟩
 | [],_::_,_,h,_,_,_=>h.elim
 | _::_,[],_,h,_,_,_=>h.elim
theorem FnIs.args_le (ha:dP avs avs') (h:FnIs P f avs' h0 res rows):FnIs P f avs h0 res rows:=by
 refine⟨h.1,fun C σ w vs hbs hB hw0 hσ0 hro hst=>h.2 C σ w vs hbs hB hw0 hσ0 hro ?_⟩
 refine⟨fun i y hy=>?_,fun i y hy=>?_,hst.rows,hst.rowsG,hst.inj,hst.high,hst.size,hst.below,hst.defers,hst.sz.trans ha.len.symm,hst.x0,hst.agree,hst.baseG,hst.bs,hst.rok,hst.glob⟩
 ·obtain⟨v,h1,h2,_⟩:=dP.out 0 ha i y hy
  obtain⟨u,hu1,hu2⟩:=hst.env i v h1
  exact⟨u,hu1,h2 _ _ _ _ hu2⟩
 ·obtain⟨v,h1,_,h3⟩:=dP.out 0 ha i y hy
  exact h3 _ (hst.envG i v h1)
end Go.Eng
set_option linter.unusedSimpArgs false
namespace Go.Eng
open Go.RowKit
section
variable {P : Program} {T : Tab} {sz : Nat} {env : Env} {h : Upds} {n : Nat}
theorem sN {a b:ByteArray}:a.data.toList=b.data.toList↔a=b:=by
 constructor
 ·intro h
  cases a; cases b
  simp only[ByteArray.mk.injEq]
  exact Array.ext' h
 ·rintro rfl; rfl
theorem tG (a b:ByteArray):(a.toList==b.toList)=decide (a=b):=by
 rw[ByteArray.toList_eq,ByteArray.toList_eq,Bool.eq_iff_iff,beq_iff_eq,decide_eq_true_iff]
 exact sN
theorem sO (a b:ByteArray):(a==b)=decide (a=b):=by
 have h1:(a==b)=(a.data==b.data):=rfl
 rw[h1,Bool.eq_iff_iff,beq_iff_eq,decide_eq_true_iff]
 cases a; cases b
 simp
theorem uS {t:Nat} {a b:ByteArray} (ht:P.underlying t=some .string):EqOk P 1 t (.sc (.string a)) (.sc (.string b)) (decide (a=b)):=by
 intro σ w X u v dd hu hv
 obtain⟨rfl,_⟩:=RelV.sc.1 hu
 obtain⟨rfl,_⟩:=RelV.sc.1 hv
 rw[show dd+1=dd+1 from rfl,Op.equalIn]
 simp only[Sem.run_bind,run_underlying ht,Result.andThen_ok,Sem.run_pure,sO]
theorem w9 {op:BinOp} {t:Nat} {x y:Operand} {w:World} (p q:ByteArray):(eqGuard op t x y (.string p) (.string q)).run P w=.ok () w:=by cases op <;> rfl
theorem th (hT:aq P T) {t t':Nat} {x y:Operand} {a b:ByteArray} (ht:bh T t=some .string) (hx:ay env x=some (.d (.sc (.string a)))) (hy:ay env y=some (.d (.sc (.string b)))) :
  an P (.binOp .eql t x y t') env h n (some (.bool (decide (a=b)))) []:=.of_comes fun C G st σ w ac o ho hA hdst hst hn=>by
 obtain⟨ud,hud,hdd⟩:=aS hT ht
 cases hdd
 have h1:=(ao hst (hA.ev hx)).1
 have h2:=(ao hst (hA.ev hy)).1
 obtain⟨hv,_⟩:=RelV.sc.1 h1
 obtain⟨hy1,_⟩:=RelV.sc.1 h2
 refine .quiet (u :=.bool (decide (a=b))) hst hdst ⟨rfl,rfl⟩ ?_ (RelV.sc.2 ⟨rfl,rfl⟩) trivial
 have h3:(binOp .eql t (.string a) (.string b)).run P w=.ok (.bool (decide (a=b))) w:=by
  rw[binOp_string_eql,tG]
  rfl
 simp only[execOp,ho,hv,hy1,Sem.run_bind,w9,Result.andThen_ok,h3,Sem.run_pure]
theorem oQ (hT:aq P T) {t t':Nat} {x y:Operand} {a b:ByteArray} (ht:bh T t=some .string) (hx:ay env x=some (.d (.sc (.string a)))) (hy:ay env y=some (.d (.sc (.string b)))) :
  an P (.binOp .neq t x y t') env h n (some (.bool (!decide (a=b)))) []:=.of_comes fun C G st σ w ac o ho hA hdst hst hn=>by
 obtain⟨ud,hud,hdd⟩:=aS hT ht
 cases hdd
 have h1:=(ao hst (hA.ev hx)).1
 have h2:=(ao hst (hA.ev hy)).1
 obtain⟨hv,_⟩:=RelV.sc.1 h1
 obtain⟨hy1,_⟩:=RelV.sc.1 h2
 refine .quiet (u :=.bool (!decide (a=b))) hst hdst ⟨rfl,rfl⟩ ?_ (RelV.sc.2 ⟨rfl,rfl⟩) trivial
 have h3:(binOp .neq t (.string a) (.string b)).run P w=.ok (.bool (!decide (a=b))) w:=by
  rw[binOp_string_neq,tG]
  rfl
 simp only[execOp,ho,hv,hy1,Sem.run_bind,w9,Result.andThen_ok,h3,Sem.run_pure]
end
end Go.Eng
set_option linter.unusedSimpArgs false
namespace Go.Eng
open Go.RowKit
section
variable {P : Program} {T : Tab} {sz : Nat} {env : Env} {h : Upds} {n : Nat}
theorem gG {t t':Nat} {x y:Operand} {k k':IntKind} {a s:Nat} {m:Nat} (hx:ay env x=some (.int k a)) (hy:ay env y=some (.int k' s)) (hs:s≤k.bits) (hm:a/2 ^ s=m) :
  an P (.binOp .shr t x y t') env h n (some (.int k m)) []:=.of_comes fun C G st σ w ac o ho hA hdst hst hn=>by
 obtain⟨hv,_⟩:=RelV.sc.1 (ao hst (hA.ev hx)).1
 obtain⟨hy1,_⟩:=RelV.sc.1 (ao hst (hA.ev hy)).1
 refine .quiet (u :=.int k m) hst hdst ⟨rfl,rfl⟩ ?_ (RelV.sc.2 ⟨rfl,rfl⟩) trivial
 have hg:(eqGuard .shr t x y (.int k a) (.int k' s)).run P w=.ok () w:=rfl
 have h1:(a:Int).fdiv (2 ^ (min (s:Int).toNat k.bits))=m:=by
  rw[show (s:Int).toNat=s from rfl,Nat.min_eq_left hs,Int.fdiv_eq_ediv_of_nonneg _ (Int.le_of_lt (Int.pow_pos (by decide)))]
  rw[←hm]
  norm_cast
 have h2:(binOp .shr t (.int k a) (.int k' s)).run P w=.ok (.int k m) w:=by
  show (Op.shift .shr k a k' s).run P w=_
  simp only[Op.shift,h1,if_neg (show ¬(s:Int)<0 by omega)]
  rfl
 simp only[execOp,ho,hv,hy1,Sem.run_bind,hg,Result.andThen_ok,h2,Sem.run_pure]
end
section
variable {r : Nat} {row : Row}
theorem Frz.lits2 {t s:Nat} {ex:Bool} {d e:D} {α:Type} {enc:α→D} (x y:α) {cap:Option Nat} (hd:d=enc x) (he:e=enc y) (hs:d.size=s) (hs2:e.size=s):Frz r (.lits t s 2 ex (.acons (.d d) (.acons (.d e) .anil))) (.own r 0 2 s cap) (.d (.arr s enc [x,y])):=by
 subst hd he
 refine⟨rfl,fun _=>rfl,fun _ _=>trivial,fun σ w X X' hx hn hr cs h=>?_⟩
 rcases h with ⟨h0,_,hl,_,rfl⟩ | ⟨b,c,ad,hb,rfl,hle1,hle2,hle3,had⟩
 ·cases hl
 ·rcases hr with ⟨_,⟨h0,h1⟩ | ⟨b',c',cur,cs',hb',_,hh,hsz,hlen,hmax,hcl,hrel,htake⟩⟩
  ·cases h1
  ·rw[hb]at hb'
   cases hb'
   obtain⟨c1,c2,rfl,hc1,c3,c4,rfl,hc3,rfl⟩:=hrel
   have l1:c1.length=s:=by rw[←hs]; exact Enc.len _ _ hc1
   have l3:c3.length=s:=by rw[←hs2]; exact Enc.len _ _ hc3
   have hoff:ad=⟨b,0*s,none⟩:=had (by omega)
   subst hoff
   have key:∀(k:Nat) (u:Value),(c1++c3)[k]?=some u→w.cell? ((⟨b,0*s,none⟩:Addr).add k)=some u:=fun k u hk=>by
    rw[dr,cell_of_row w b _ cur t (0,0) hh]
    have hkl:=(List.getElem?_eq_some_iff.1 hk).1
    rw[List.length_append,l1,l3]at hkl
    have:=congrArg (fun l=>l[k]?) htake
    simp only[List.getElem?_take,List.append_nil]at this
    rw[if_pos (by omega),hk]at this
    simpa using this
   refine .inr ⟨⟨b,0*s,none⟩,cap.getD (c-0),rfl,hle3,by omega,fun i=>if i=0 then c1 else c3,fun i hi=>?_⟩
   have hi2:i=0∨i=1:=by have:i<2:=hi; omega
   rcases hi2 with rfl | rfl
   ·refine⟨Enc.sub hx _ _ hc1,l1,fun j u hj=>⟨?_,hn b c hb⟩⟩
    have hj:c1[j]?=some u:=hj
    have:=key j u (by rw[List.getElem?_append_left (List.getElem?_eq_some_iff.1 hj).1]; exact hj)
    simpa using this
   ·refine⟨Enc.sub hx _ _ hc3,l3,fun j u hj=>⟨?_,hn b c hb⟩⟩
    have hj:c3[j]?=some u:=hj
    have:=key (s+j) u (by rw[List.getElem?_append_right (by omega),l1,Nat.add_sub_cancel_left]; exact hj)
    simpa using this
end
end Go.Eng
set_option linter.unusedSimpArgs false
namespace Go.Eng
open Go.RowKit
section
variable {P : Program} {T : Tab} {sz : Nat} {env : Env} {h : Upds} {n : Nat}
end
end Go.Eng
namespace Go.Eng
open Go.RowKit
section
variable {P : Program} {T : Tab}
def tL (P:Program) (m t:Nat) (x:D):Prop :=
 ∀(σ:Place) (w:World) (X:Nat→Prop) (u:Value) (em:Bool) (dd:Nat),RelV σ w X (.d x) u→(Instr.checkKey em (dd+m) t u).run P w=.ok () w
theorem yf {t:Nat} {k k':IntKind} {a:Int} (ht:P.underlying t=some (.int k')):tL P 1 t (.sc (.int k a)):=by
 intro σ w X u em dd hu
 obtain⟨rfl,_⟩:=RelV.sc.1 hu
 rw[Instr.checkKey]
 simp only[Sem.run_bind,run_underlying ht,Result.andThen_ok,Sem.run_pure]
theorem sn {t:Nat} {a:ByteArray} (ht:P.underlying t=some .string):tL P 1 t (.sc (.string a)):=by
 intro σ w X u em dd hu
 obtain⟨rfl,_⟩:=RelV.sc.1 hu
 rw[Instr.checkKey]
 simp only[Sem.run_bind,run_underlying ht,Result.andThen_ok,Sem.run_pure]
def KeyF (P:Program) (m:Nat) (gs:List Field) (off:Nat) (x:D):Prop :=
 ∀(σ:Place) (w:World) (X:Nat→Prop) (A c:List Value) (em:Bool) (dd:Nat),A.length=off→Enc w X x c →
  ∀ f ∈ gs, f.name ≠ "_" ∧ ∃ a, (part f.type (A ++ c).toArray f.offset).run P w = .ok a w ∧ (Instr.checkKey em (dd + m) f.type a).run P w = .ok () w
def D.keyd:D→Prop
 | .sc v=>∀n,Instr.sameBits n v v=true
 | .nil=>True
 | .cons a r=>a.keyd∧r.keyd
 | .vec _ _ enc _=>∀x,(enc x).keyd
 | _=>False
def mapC {κ:Type} (enc:κ→D):List (κ×AV)→AV
 | []=>.anil
 | (k,v)::l=>.acons (.d (enc k)) (.acons v (mapC enc l))
def ct {κ:Type} (σ:Place) (w:World) (X:Nat→Prop) (enc:κ→D):List (κ×AV)→List MapEntry→Prop
 | [],es=>es=[]
 | (k,v)::l,es=>∃e es',es=e::es'∧RelV σ w X (.d (enc k)) e.key∧RelV σ w X v e.val∧ct σ w X enc l es'
theorem cQ {κ:Type} {σ:Place} {w:World} {X:Nat→Prop} {enc:κ→D}:∀(l:List (κ×AV)) (es:List MapEntry),Rel σ w X (mapC enc l) true (gV es)↔ct σ w X enc l es
 | [],es=>by
  cases es with
  | nil=>simp[mapC,Rel,gV,ct]
  | cons e es=>simp[mapC,Rel,gV,ct]
 | (k,v)::l,es=>by
  cases es with
  | nil=>simp[mapC,Rel,gV,ct]
  | cons e es =>
   constructor
   ·rintro⟨a,us,h1,h2,b,vs,h3,h4,h5⟩
    simp only[gV,List.cons.injEq]at h1
    obtain⟨rfl,rfl⟩:=h1
    simp only[List.cons.injEq]at h3
    obtain⟨rfl,rfl⟩:=h3
    exact⟨e,es,rfl,h2,h4,(cQ l es).1 h5⟩
   ·rintro⟨e',es',h1,h2,h3,h4⟩
    simp only[List.cons.injEq]at h1
    obtain⟨rfl,rfl⟩:=h1
    exact⟨e.key,_,rfl,h2,e.val,_,rfl,h3,(cQ l es).2 h4⟩
def dK {κ:Type} [DecidableEq κ] (k:κ):List (κ×AV)→Nat→Option (Nat×AV)
 | [],_=>none
 | (k',v)::l,i=>if k=k' then some (i,v) else dK k l (i+1)
theorem lB {κ:Type} [DecidableEq κ] {σ:Place} {w:World} {X:Nat→Prop} {enc:κ→D} {kt m:Nat} (hm:m≤10000) (he:∀a b,EqOk P m kt (enc a) (enc b) (decide (a=b))) {k:κ} {u:Value} (hu:RelV σ w X (.d (enc k)) u) :
  ∀(l:List (κ×AV)) (es:List MapEntry) (i:Nat),ct σ w X enc l es →
   match dK k l i with
   | none=>(Instr.findAsking kt u es i).run P w=.ok none w
   | some (j,v)=>∃e,(Instr.findAsking kt u es i).run P w=.ok (some (j,e.val)) w∧i≤j∧es[j-i]?=some e∧RelV σ w X (.d (enc k)) e.key∧RelV σ w X v e.val∧∃q,l[j-i]?=some q∧q=(k,v)
 | [],es,i,h=>by
  rw[show es=[] from h]
  simp[dK,Instr.findAsking]
 | (k',v)::l,es,i,h=>by
  obtain⟨e,es',rfl,h1,h2,h3⟩:=h
  have heq:=he k k' σ w X u e.key (10000-m) hu h1
  rw[show 10000-m+m=10000 by omega]at heq
  by_cases hk:k=k'
  ·subst hk
   simp only[dK,if_true]
   refine⟨e,?_,Nat.le_refl _,by simp,h1,h2,(k,v),by simp,rfl⟩
   simp only[decide_true]at heq
   simp[Instr.findAsking,Op.equal,Op.maxDepth,heq]
  ·simp only[dK,if_neg hk]
   rw[decide_eq_false hk]at heq
   have ih:=lB hm he hu l es' (i+1) h3
   have hstep:(Instr.findAsking kt u (e::es') i).run P w=(Instr.findAsking kt u es' (i+1)).run P w:=by
    simp[Instr.findAsking,Op.equal,Op.maxDepth,heq]
   rw[hstep]
   split at ih
   ·exact ih
   ·rename_i j v' _
    obtain⟨e',a1,a2,a3,a4,a5,q,a6,a7⟩:=ih
    have hj:j-i=(j-(i+1))+1:=by omega
    exact⟨e',a1,by omega,by rw[hj]; simpa using a3,a4,a5,q,by rw[hj]; simpa using a6,a7⟩
end
end Go.Eng
namespace Go.Eng
open Go.RowKit
section
variable {C : Ctx} {w w' : World} {G : Nat → Prop} {st : St} {σ : Place} {a : Act}
theorem rf (P:Program) (w:World) (b:Nat) (o:Obj) {es:Array MapEntry} {ck:Nat} (hb:w.heap[b]?=some (.map es ck)):(setObj b o).run P w=.ok () { w with heap:=w.heap.setIfInBounds b o }:=by
 simp[setObj,Sem.run,hb]
theorem aH.writeObj (h:aH C G st σ w a) {r b c:Nat} {old row:Row} {o o':Obj} (hr:st.row r=some old) (hs:σ r=some (b,c))
  (hh:w.heap[b]?=some o) (hnb:gT o=false) (hw:row.within G)
  (hrow:∀(w':World),(∀(x:AV) (m:Bool) (l:List Value),x.within G→Rel σ w (st.X C.X0 σ) x m l→Rel σ w' (st.X C.X0 σ) x m l) →
   w'.heap[b]?=some o'→bw σ w' (st.X C.X0 σ) r row) :
  aH C G (st.upd [(r,some row)]) σ { w with heap:=w.heap.setIfInBounds b o' } a:=by
 have hX:(st.upd [(r,some row)]).X C.X0 σ=st.X C.X0 σ:=by
  funext x
  apply propext
  constructor
  ·rintro (hx0 | ⟨r',row',c',h1,h2⟩)
   ·exact .inl hx0
   rw[St.row_one]at h1
   by_cases e:r=r'
   ·subst e; exact .inr ⟨r,old,c',hr,h2⟩
   ·rw[if_neg e]at h1; exact .inr ⟨r',row',c',h1,h2⟩
  ·rintro (hx0 | ⟨r',row',c',h1,h2⟩)
   ·exact .inl hx0
   by_cases e:r=r'
   ·subst e; exact .inr ⟨r,row,c',by rw[St.row_one]; simp,h2⟩
   ·exact .inr ⟨r',row',c',by rw[St.row_one,if_neg e]; exact h1,h2⟩
 have hlt:b<w.heap.size:=(Array.getElem?_eq_some_iff.1 hh).1
 have hother:∀k,k≠b→({ w with heap:=w.heap.setIfInBounds b o' }:World).heap[k]?=w.heap[k]?:=by
  intro k hk
  simp[Ne.symm hk]
 have hnew:({ w with heap:=w.heap.setIfInBounds b o' }:World).heap[b]?=some o':=by simp[hlt]
 have hk:∀(a:Addr) (u:Value),w.cell? a=some u→¬st.X C.X0 σ a.block→Kp w ({ w with heap:=w.heap.setIfInBounds b o' }:World) a u∧¬(st.upd [(r,some row)]).X C.X0 σ a.block:=by
  intro a u h1 h2
  have hne:a.block≠b:=fun e=>h2 (.inr ⟨r,old,c,hr,by rw[e]; exact hs⟩)
  refine⟨.of_block (hother _ hne) h1,by rw[hX]; exact h2⟩
 refine h.core (fun _ h=>h) (fun _ _=>rfl) hk rfl rfl rfl ?_ ?_ ?_ (by simpa using h.size) ?_
 ·intro r' row' hr'
  rw[St.row_one]at hr'
  split at hr'
  ·rename_i e
   subst e
   simp only[Option.some.injEq]at hr'
   subst hr'
   rw[hX]at hk ⊢
   exact .inr ⟨(h.rowsG _ _ hr).1,hw,hrow _ (fun x m l hx=>Rel.mono (fun _ _=>rfl) hk x m l hx) hnew⟩
  ·rename_i e
   refine .inl ⟨hr',fun b' c' hs'=>hother _ (fun e'=>e ?_)⟩
   subst e'
   exact h.inj _ _ _ _ _ _ _ hr hr' hs hs'
 ·intro r1 r2 row1 row2 b' c1 c2 h1 h2 h3 h4
  rw[St.row_one]at h1 h2
  by_cases e1:r=r1 <;> by_cases e2:r=r2
  ·rw[←e1,←e2]
  ·subst e1; rw[if_neg e2]at h2; exact h.inj _ _ _ _ _ _ _ hr h2 h3 h4
  ·subst e2; rw[if_neg e1]at h1; exact h.inj _ _ _ _ _ _ _ h1 hr h3 h4
  ·rw[if_neg e1]at h1; rw[if_neg e2]at h2; exact h.inj _ _ _ _ _ _ _ h1 h2 h3 h4
 ·intro r1 row1 b' c1 h1 h2
  rw[St.row_one]at h1
  by_cases e1:r=r1
  ·subst e1; exact h.high _ _ _ _ hr h2
  ·rw[if_neg e1]at h1; exact h.high _ _ _ _ h1 h2
 ·have hB:=h.high _ _ _ _ hr hs
  exact⟨rfl,rfl,rfl,by simp,fun k hk hm=>hother k (by rintro rfl; rcases hB with hB | hB; exact absurd hk (by omega); exact hm hB),fun k o2 ho hb=>(hother k (by rintro rfl; rw[hh]at ho; cases ho; rw[hnb]at hb; cases hb)).trans ho⟩
end
theorem RelV.mapr {σ:Place} {w:World} {r:Nat} {u:Value} {X:Nat→Prop}:RelV σ w X (.mapr r) u ↔ ∃b c,σ r=some (b,c)∧u=.map (some b):=by
 unfold RelV
 simp only[AV.isAgg,Rel]
 simp
section
variable {P : Program} {T : Tab} {env : Env} {h : Upds} {n : Nat}
def MapTy (P:Program) (t kt et:TypeId):Prop:=P.underlying t=some (.map kt et)
theorem qb {t:TypeId}:an P (.makeMap t none) env h n (some (.mapr n)) [(n,some (.mo .anil))]:=.of_comes fun C G st σ w a o ho hA hd hst hn=>by
 have hnn:¬G n:=hn n (Nat.le_refl _) (by omega)
 have hnew:=aH.freshBy hst hnn (w':=w.alloc (.map #[] 0)) (by
   refine⟨rfl,rfl,rfl,by simp,fun k hk _=>?_⟩
   exact heap_alloc_old w _ hk) (Nat.le_refl _) (b:=w.heap.size) (c:=1) (.mo .anil) trivial (fun σ' X' _ _ hs=>⟨w.heap.size, #[],by simp,hs,heap_alloc_new w _,rfl⟩)
 refine⟨some (.mapr n),[(n,some (.mo .anil))],.value (.map (some w.heap.size)),.map (some w.heap.size),w.alloc (.map #[] 0),fun q=>if q=n then some (w.heap.size,1) else σ q,fun q=>G q∨q=n,⟨rfl,rfl⟩,?_,.inl rfl,?_,fun r hr=>.inl hr,fun r hr=>hr.imp id (fun e=>by omega)⟩
 ·simp[execOp,ho,Instr.makeMap]
 ·rw[St.put_upd]
  exact hnew.set hd (RelV.mapr.2 ⟨w.heap.size,1,by simp,rfl⟩) (.inr rfl)
structure fT (P:Program) (kt:TypeId) {κ:Type} [DecidableEq κ] (enc:κ→D) (m:Nat):Prop where
 le:m≤10000
 ok:∀k,tL P m kt (enc k)
 eq:∀a b,EqOk P m kt (enc a) (enc b) (decide (a=b))
 find:∀(σ:Place) (w w1:World) (X:Nat→Prop) (k:κ) (u:Value) (l:List (κ×AV)) (es:List MapEntry),RelV σ w X (.d (enc k)) u→ct σ w X enc l es →
  (Instr.findKey kt u es).run P w1=(Instr.findAsking kt u es).run P w1
 keyd:∀k,(enc k).keyd
theorem fT.check {kt:TypeId} {κ:Type} [DecidableEq κ] {enc:κ→D} {m:Nat} (K:fT P kt enc m) {σ:Place} {w:World} {X:Nat→Prop} {k:κ} {u:Value} (hu:RelV σ w X (.d (enc k)) u) (em:Bool) :
  (Instr.checkKey em 10000 kt u).run P w=.ok () w:=by
 have:=(K.ok k) σ w X u em (10000-m) hu
 rwa [show 10000-m+m=10000 by have:=K.le; omega]at this
theorem fT.found {kt:TypeId} {κ:Type} [DecidableEq κ] {enc:κ→D} {m:Nat} (K:fT P kt enc m) {σ:Place} {w:World} {X:Nat→Prop} {k:κ} {u:Value} {l:List (κ×AV)} {es:List MapEntry} (hu:RelV σ w X (.d (enc k)) u)
  (hl:ct σ w X enc l es):match dK k l 0 with
   | none=>(Instr.findKey kt u es).run P w=.ok none w
   | some (j,v)=>∃e,(Instr.findKey kt u es).run P w=.ok (some (j,e.val)) w∧es[j]?=some e∧RelV σ w X (.d (enc k)) e.key∧RelV σ w X v e.val∧l[j]?=some (k,v):=by
 rw[K.find σ w w X k u l es hu hl]
 have:=lB K.le K.eq hu l es 0 hl
 revert this
 cases dK k l 0 with
 | none=>exact fun h=>h
 | some q =>
  obtain⟨j,v⟩:=q
  rintro⟨e,h1,_,h2,h3,h4,q,h5,rfl⟩
  exact⟨e,h1,by simpa using h2,h3,h4,by simpa using h5⟩
theorem dH {κ:Type} {enc:κ→D} {G:Nat→Prop}:∀(l:List (κ×AV)),(mapC enc l).within G ↔ ∀p∈l,p.2.within G
 | []=>by simp[mapC,AV.within]
 | (k,v)::l=>by simp[mapC,AV.within,dH l]
theorem fN {t kt et:TypeId} {κ:Type} [DecidableEq κ] {enc:κ→D} {m r j:Nat} {x y:Operand} {k:κ} {l:List (κ×AV)} {v:AV} (K:fT P kt enc m) (ht:P.underlying t=some (.map kt et))
  (hx:ay env x=some (.mapr r)) (hy:ay env y=some (.d (enc k))) (hr:bp h r=some (.mo (mapC enc l))) (hf:dK k l 0=some (j,v)) :
  an P (.lookup t x y false) env h n (some v) []:=.of_comes fun C G st σ w a o ho hA hd hst hn=>by
 have h1:=(ao hst (hA.ev hx)).1
 have h2:=(ao hst (hA.ev hy)).1
 have hrow:=hA.row _ _ hr
 obtain⟨b,c,hs,hux⟩:=RelV.mapr.1 h1
 obtain⟨b',es,hb1,hb2,hb3,hb4⟩:=hst.rows r _ hrow
 rw[hs]at hb2
 cases hb2
 have hl:=(cQ l _).1 hb4
 have hfd:=K.found h2 hl
 rw[hf]at hfd
 obtain⟨e,e1,e2,e3,e4,e5⟩:=hfd
 refine .quiet (u:=e.val) hst hd ⟨rfl,rfl⟩ ?_ e4 ?_
 ·have hget:(getObj b).run P w=.ok (.map es es.size) w:=by simp[getObj,Sem.run,hb3]
  simp only[execOp,ho,Instr.lookup,Sem.run_bind,run_underlying ht,Result.andThen_ok,hux,hget,Sem.run_pure,K.check h2,e1]
  rfl
 ·exact (dH l).1 (hst.rowsG r _ hrow).2 (k,v) (List.mem_of_getElem? e5)
def jL (P:Program) (et:TypeId) (d:D):Prop:=∃i z,P.info? et=some i∧i.zero=some z∧∀(σ:Place) (w:World) (X:Nat→Prop),RelV σ w X (.d d) z
theorem jL.run {et:TypeId} {d:D} (hz:jL P et d):∃z,(∀w:World,(zeroValue et).run P w=.ok z w)∧∀(σ:Place) (w:World) (X:Nat→Prop),RelV σ w X (.d d) z:=by
 obtain⟨i,z,h1,h2,h3⟩:=hz
 exact⟨z,fun w=>by simp[zeroValue,typeInfo,h1,h2],h3⟩
theorem sT {et:TypeId} {d:D} (h1:(P.info? et).map (fun i=>i.zero)=some (some (zval d))) (h2:d.okC=true):jL P et d:=by
 cases hi:P.info? et with
 | none=>simp[hi]at h1
 | some i =>
  simp only[hi,Option.map_some,Option.some.injEq]at h1
  refine⟨i,_,hi,h1,fun σ w X=>?_⟩
  have hc:=Enc.closed w X d h2
  unfold RelV zval
  by_cases hag:d.isAgg=true
  ·rw[if_pos (show (AV.d d).isAgg=true from hag),if_pos hag]
   exact⟨d.flatC,rfl,hc⟩
  ·rw[if_neg (show ¬(AV.d d).isAgg=true from hag),if_neg hag]
   have hl:=Enc.len _ _ hc
   have h1:d.size=1:=D.size_one d (Bool.eq_false_iff.2 hag)
   rw[h1]at hl
   match hf:d.flatC,hl with
   | [x],_=>rw[hf]at hc; exact hc
theorem qc {t kt et:TypeId} {κ:Type} [DecidableEq κ] {enc:κ→D} {m r:Nat} {x y:Operand} {k:κ} {l:List (κ×AV)} {d:D} (K:fT P kt enc m) (ht:P.underlying t=some (.map kt et)) (hz:jL P et d)
  (hx:ay env x=some (.mapr r)) (hy:ay env y=some (.d (enc k))) (hr:bp h r=some (.mo (mapC enc l))) (hf:dK k l 0=none) :
  an P (.lookup t x y false) env h n (some (.d d)) []:=.of_comes fun C G st σ w a o ho hA hd hst hn=>by
 have h1:=(ao hst (hA.ev hx)).1
 have h2:=(ao hst (hA.ev hy)).1
 have hrow:=hA.row _ _ hr
 obtain⟨b,c,hs,hux⟩:=RelV.mapr.1 h1
 obtain⟨b',es,hb1,hb2,hb3,hb4⟩:=hst.rows r _ hrow
 rw[hs]at hb2
 cases hb2
 have hl:=(cQ l _).1 hb4
 have hfd:=K.found h2 hl
 rw[hf]at hfd
 obtain⟨z,hz,hzr⟩:=hz.run
 refine .quiet (u:=z) hst hd ⟨rfl,rfl⟩ ?_ (hzr _ _ _) trivial
 have hget:(getObj b).run P w=.ok (.map es es.size) w:=by simp[getObj,Sem.run,hb3]
 simp only[execOp,ho,Instr.lookup,Sem.run_bind,run_underlying ht,Result.andThen_ok,hux,hget,Sem.run_pure,K.check h2,hfd,hz]
 rfl
theorem ct.len {κ:Type} {enc:κ→D} {σ:Place} {w:World} {X:Nat→Prop}:∀(l:List (κ×AV)) (es:List MapEntry),ct σ w X enc l es→es.length=l.length
 | [],es,h=>by have e:es=[]:=h; subst e; rfl
 | (k,v)::l,es,h=>by
  obtain⟨e,es',rfl,_,_,h3⟩:=h
  simp[ct.len l es' h3]
theorem ct.snoc {κ:Type} {enc:κ→D} {σ:Place} {w:World} {X:Nat→Prop} {k:κ} {v:AV} {e:MapEntry} (hk:RelV σ w X (.d (enc k)) e.key) (hv:RelV σ w X v e.val):∀(l:List (κ×AV)) (es:List MapEntry),ct σ w X enc l es→ct σ w X enc (l++[(k,v)]) (es++[e])
 | [],es,h=>by
  rw[show es=[] from h]
  exact⟨e,[],rfl,hk,hv,rfl⟩
 | (k',v')::l,es,h=>by
  obtain⟨e',es',rfl,h1,h2,h3⟩:=h
  exact⟨e',es'++[e],rfl,h1,h2,ct.snoc hk hv l es' h3⟩
def putC {κ:Type}:List (κ×AV)→Nat→AV→List (κ×AV)
 | [],_,_=>[]
 | (k,_)::l,0,v=>(k,v)::l
 | p::l,j+1,v=>p::putC l j v
theorem ct.mono {κ:Type} {enc:κ→D} {σ:Place} {w w':World} {X X' G:Nat→Prop} (ht:∀(x:AV) (m:Bool) (l:List Value),x.within G→Rel σ w X x m l→Rel σ w' X' x m l) {l:List (κ×AV)} {es:List MapEntry} (hg:(mapC enc l).within G) (h:ct σ w X enc l es):ct σ w' X' enc l es :=
 (cQ l es).1 (ht _ _ _ hg ((cQ l es).2 h))
end
end Go.Eng
namespace Go.Eng
open Go.RowKit
section
variable {P : Program} {T : Tab} {env : Env} {h : Upds} {n : Nat}
theorem RelV.carry {σ:Place} {w w':World} {X X' G:Nat→Prop} (ht:∀(x:AV) (m:Bool) (l:List Value),x.within G→Rel σ w X x m l→Rel σ w' X' x m l) {x:AV} {u:Value} (hg:x.within G) (h:RelV σ w X x u):RelV σ w' X' x u:=by
 unfold RelV at h ⊢
 by_cases hag:x.isAgg=true
 ·rw[if_pos hag]at h ⊢
  obtain⟨c,h5,h6⟩:=h
  exact⟨c,h5,ht _ _ _ hg h6⟩
 ·rw[if_neg hag]at h ⊢
  exact ht _ _ _ hg h
end
end Go.Eng
namespace Go.Eng
open Go.RowKit
section
variable {P : Program} {T : Tab} {env : Env} {h : Upds} {n : Nat}
end
end Go.Eng
namespace Go.Eng
open Go.RowKit
section
variable {P : Program} {T : Tab} {env : Env} {h : Upds} {n : Nat}
end
end Go.Eng
namespace Go.Eng
open Go.RowKit
section
variable {P : Program} {T : Tab} {env : Env} {h : Upds} {n : Nat}
theorem pa (hT:aq P T) {t tn e:Nat} {re:TyR} {s:Nat} {kn k:IntKind} {α:Type} (enc:α→D) {x y:Operand} {m:Nat} (ht:bh T t=some (.slice e)) (htn:P.underlying tn=some (.int kn)) (he:lk T e=some re) (hs:Nat.beq re.size s=true) (hs0:Nat.blt 0 s=true)
  (hx:ay env x=some (.d (.sc (.slice none 0 0)))) (hy:ay env y=some (.int k m)) (hm:0<m) (hlen:m≤1048576) (hbytes:Nat.ble re.bytes 134217728=true) :
  an P (.call { callee :=.builtin .append,args := #[x,y],argTypes := #[t,tn] }) env h n (some (.own n 0 m s none)) [(n,some (.ds e s false enc []))]:=.of_comes fun C G st σ w a o ho hA hdst hst hn=>by
 have hs0:=Nat.le_of_ble_eq_true hs0
 have hs:=Nat.eq_of_beq_eq_true hs
 have hb:=Nat.le_of_ble_eq_true hbytes
 obtain⟨ud,hud,hdd⟩:=aS hT ht
 cases hdd
 obtain⟨i,zv,hi,hi1,hi2,hi3,hi4⟩:=(hT e re he).info
 obtain⟨hx1,_⟩:=RelV.sc.1 (ao hst (hA.ev hx)).1
 obtain⟨hy1,_⟩:=RelV.sc.1 (ao hst (hA.ev hy)).1
 have hzl:zv.cells.size=s:=by
  have h1:=Enc.len _ _ (Enc.closed w (fun _=>False) _ (hT e re he).zero)
  rw[hi4,(hT e re he).zsize,hs]at h1
  simpa using h1
 have hnn:¬G n:=hn n (Nat.le_refl _) (by omega)
 have hbb:m*i.bytes≤281474976710656:=by
  rw[hi2]
  exact Nat.le_trans (Nat.mul_le_mul hlen hb) (by decide)
 have hrun:=Lib.run_append_nil_zeros (P:=P) w t tn o.type e i zv k kn hud htn hi hi3 m hm (by omega) (by omega) hbb
 have hge:=grownCap_ge w m 0 e
 have hmax:=grownCap_le_maxLen w m 0 e (show m≤maxLen by simp only[maxLen]; omega)
 have hnew:=aH.freshBy hst hnn (w':=w.drew.alloc (.cells (Builtin.zeroCells zv.cells m++Builtin.zeroCells zv.cells (grownCap w m 0 e-m)) e)) (cR w _ _) (Nat.le_refl _) (b:=w.heap.size) (c:=grownCap w m 0 e) (.ds e s false enc []) trivial
  (fun σ' X' _ _ hσn=>.inr ⟨w.heap.size,grownCap w m 0 e,_,hσn,(fun e=>by cases e),heap_alloc_new w.drew _,by
   simp only[Array.size_append,size_zeroCells,hzl,←Nat.add_mul]
   congr 1; omega,Nat.zero_le _,hmax,fun _=>[],fun i hi=>by simp at hi,by simp[cat]⟩)
 refine⟨_,_,.value (.slice (some ⟨w.heap.size,0,none⟩) m (grownCap w m 0 e)),.slice (some ⟨w.heap.size,0,none⟩) m (grownCap w m 0 e),_,_,fun q=>G q∨q=n,⟨rfl,rfl⟩,?_,.inl rfl,by rw[St.put_upd]; exact hnew.set hdst (RelV.own.2 (.inr ⟨w.heap.size,grownCap w m 0 e,⟨w.heap.size,0,none⟩,by simp,by simp,by simpa using hge,by simp,by simpa using hge,fun _=>by simp⟩)) (.inr rfl),fun r hr=>Or.inl hr,fun r hr=>Or.imp id (fun h=>⟨by omega,by omega⟩) hr⟩
 simp[execOp,ho,resolve,invoke,builtin,hx1,hy1,hrun]
theorem vG (hT:aq P T) {t e:Nat} {re:TyR} {x j:Operand} {k':IntKind} (ht:bh T t=some (.slice e)) (he:lk T e=some re)
  (hx:ay env x=some (.d (.sc (.slice none 0 0)))) (hj:ay env j=some (.int k' 0)):an P (.slice t x none (some j) none) env h n (some (.d (.sc (.slice none 0 0)))) []:=.of_comes fun C G st σ w a o ho hA hdst hst hn=>by
 obtain⟨ud,hud,hdd⟩:=aS hT ht
 cases hdd
 obtain⟨hv,_⟩:=RelV.sc.1 (ao hst (hA.ev hx)).1
 obtain⟨hj1,_⟩:=RelV.sc.1 (ao hst (hA.ev hj)).1
 have hsz:=(hT e re he).run_size (P:=P)
 refine .quiet (u :=.slice none 0 0) hst hdst ⟨rfl,rfl⟩ ?_ (RelV.sc.2 ⟨rfl,rfl⟩) trivial
 simp[execOp,ho,Instr.sliceAt,Instr.slice,hv,hj1,run_underlying hud,Instr.sliceBounds,Instr.sliceBound,asIntOf,hsz,Sem.run_bind,Sem.run_pure,Result.andThen_ok]
end
end Go.Eng
set_option linter.unusedSimpArgs false
namespace Go.Eng
open Go.RowKit
section
variable {P : Program} {T : Tab} {env : Env} {h : Upds} {n : Nat}
theorem pb (hT:aq P T) {t e r len:Nat} {re:TyR} {x y:Operand} {α:Type} {s s':Nat} {cap:Option Nat} {enc:α→D} (ht:bh T t=some (.slice e)) (he:lk T e=some re)
  (hx:ay env x=some (.own r 0 len s cap)) (hy:ay env y=some (.d (.arr s' enc ([]:List α)))) :
  an P (.call { callee :=.builtin .append,args := #[x,y],argTypes := #[t,t] }) env h n (some (.own r 0 len s cap)) []:=.of_comes fun C G st σ w ac o ho hA hd hst hn=>by
 obtain⟨ud,hud,hdd⟩:=aS hT ht
 cases hdd
 obtain⟨hx1,hx2⟩:=ao hst (hA.ev hx)
 obtain⟨hy1,_⟩:=ao hst (hA.ev hy)
 have hsz:=(hT e re he).run_size (P:=P)
 have h0:∀a:Addr,(loadCells a 0).run P w=.ok #[] w:=fun a=>by simpa using run_loadCells_list (P:=P) w a [] (by simp)
 refine .quiet (u:=ac.eval x) hst hd ⟨rfl,rfl⟩ ?_ hx1 hx2
 rcases RelV.own.1 hx1 with ⟨_,_,_,_,hv⟩ | ⟨b,c,ad,_,hv,_,_,hle,_⟩
 ·rcases RelV.arr.1 hy1 with ⟨_,hu⟩ | ⟨a,c,hu,_⟩
  ·simp[execOp,ho,resolve,invoke,builtin,Builtin.append_,hv,hu,run_underlying hud,hsz,Builtin.lenOf,Builtin.firstCells,storeCells,Sem.run_bind,Sem.run_pure,Result.andThen_ok,nil_]
  ·simp[execOp,ho,resolve,invoke,builtin,Builtin.append_,hv,hu,run_underlying hud,hsz,Builtin.lenOf,Builtin.firstCells,h0,storeCells,Sem.run_bind,Sem.run_pure,Result.andThen_ok,nil_]
 ·have hle':¬(cap.getD (c-0)<len):=by omega
  simp only[Nat.sub_zero]at hv hle hle'
  rcases RelV.arr.1 hy1 with ⟨_,hu⟩ | ⟨a,c',hu,_⟩
  ·simp[execOp,ho,resolve,invoke,builtin,Builtin.append_,hv,hu,run_underlying hud,hsz,Builtin.lenOf,Builtin.firstCells,storeCells,Sem.run_bind,Sem.run_pure,Result.andThen_ok,hle,hle']
  ·simp[execOp,ho,resolve,invoke,builtin,Builtin.append_,hv,hu,run_underlying hud,hsz,Builtin.lenOf,Builtin.firstCells,h0,storeCells,Sem.run_bind,Sem.run_pure,Result.andThen_ok,hle,hle']
end
end Go.Eng
namespace Go.Eng
open Go.RowKit
def x5:Nat→List Row→Upds
 | _,[]=>[]
 | b,row::l=>(b,some row)::x5 (b+1) l
def farN (a:Nat):Bool:=bif Nat.blt a 1000 then true else Nat.ble 100000 a
def xh (l0:cp) (N:Nat):Upds→Bool
 | []=>true
 | (r,_)::l=>bif farN r then (match rho l0 r with
  | some k=>bif farN k then (bif Nat.beq k N then false else xh l0 N l) else false
  | none=>xh l0 N l) else false
def CB (j N i:Nat):Nat:=if i=j then N else 1000+i
def Aj:cp→Bool
 | []=>true
 | (r,_)::l=>bif farN r then Aj l else false
section
variable {P : Program} {T : Tab} {sz : Nat} {env : Env} {h : Upds} {n : Nat}
theorem jN {Q:Exit→St→Prop} {c:Code} (h1:WC P sz c (LoopQ Q (fun _:Unit=>⟨env,h,n,sz,64⟩) (fun _=>False) (fun _=>0) ()) env h n):WC P sz (.loop c) Q env h n:=by
 intro C σ w x hst
 refine wpIn_loop_rounds 1 ?_
 rw[roundsIn_succ]
 refine wpIn_mono (h1 C σ w x hst) ?_
 rintro e a' w' ⟨st',σ',h1,h2⟩
 cases e with
 | normal=>obtain⟨a',l',hf,_⟩:=h1; exact hf.elim
 | _=>exact⟨st',σ',h1,h2⟩
end
section
variable {κ α : Type}
def ownV (s:Nat) (τ:Nat→Nat):Nat→List (κ×List α)→List (κ×AV)
 | _,[]=>[]
 | i,(k,xs)::l=>(k,.own (τ i) 0 xs.length s none)::ownV s τ (i+1) l
def ownR (t s:Nat) (enc:α→D):List (κ×List α)→List Row
 | []=>[]
 | (_,xs)::l=>.ds t s false enc xs::ownR t s enc l
end
end Go.Eng
set_option linter.unusedSimpArgs false
set_option linter.unusedVariables false
namespace Go.Eng
open Go.RowKit
def mkS (l:List UInt8):ByteArray:=⟨l.toArray⟩
def strD (l:List UInt8):D :=.sc (.string (mkS l))
def byI (l:List UInt8):List Int:=l.map fun b=>(b.toNat:Int)
theorem x6 {a b:List UInt8}:mkS a=mkS b↔a=b:=by
 constructor
 ·intro h
  have:=congrArg (fun x:ByteArray=>x.data.toList) h
  simpa[mkS]using this
 ·rintro rfl; rfl
theorem cz (l:List UInt8):(mkS l).size=l.length:=by simp[mkS,ByteArray.size]
theorem cZ (l:List UInt8):(mkS l).data.toList=l:=by simp[mkS]
theorem jg (a b:List UInt8):decide (mkS a=mkS b)=decide (a=b):=by
 simp only[x6]
theorem x7 {l:List UInt8} {i:Nat} {b:UInt8} (h:l[i]?=some b):(mkS l)[i]?=some b:=by
 have hi:=(List.getElem?_eq_some_iff.1 h).1
 have hi':i<(mkS l).size:=by rw[cz]; exact hi
 rw[getElem?_pos (mkS l) i hi']
 congr 1
 have:(mkS l)[i]=l[i]'hi:=by
  simp only[mkS,ByteArray.getElem_eq_getElem_data,List.getElem_toArray]
 rw[this]
 exact (List.getElem?_eq_some_iff.1 h).2
theorem io (l:List UInt8) (i j:Nat):(mkS l).extract i j=mkS ((l.drop i).take (j-i)):=by
 apply sN.1
 simp only[mkS,ByteArray.data_extract,Array.toList_extract,List.extract,List.drop_take]
section
variable {P : Program} {T : Tab} {sz : Nat} {env : Env} {h : Upds} {n : Nat}
theorem rk {ρ : Operand → Value} {o : Oper} {c : Call} {g : FuncId} {fn : Func} {e : Array Value → Sem Value} (ho : o.op = .call c) (hc : c.callee = .value (.func g)) (hg : ρ (.func g) = .func (.func g) #[] #[]) (hP : P.funcs[g]? = some fn) (hname : (fn.name == "runtime.NumGoroutine") = false)
  (hb:fn.body.isNone=true) (hnx:Extern.findNext fn=none) (he:Extern.find fn=some e) {v:Value} {w:World} (hr:(e (c.args.map ρ)).run P w=.ok v w):(execOp ρ o).run P w=.ok (.value v) w:=by
 have hrun:=run_callFunc_extern hP hname hb hnx he (c.args.map ρ) w
 rw[hr]at hrun
 simp only[execOp,ho,resolve,hc,hg,Deferred.ofValue,Sem.run_bind,Sem.run_pure,Result.andThen_ok,invoke]
 simpa using hrun
theorem p8 {g : FuncId} {fn : Func} {x : Operand} {at_ : Array TypeId} {r : Nat} {p : List Step} (hP : P.funcs[g]? = some fn) (hname : (fn.name == "runtime.NumGoroutine") = false)
  (hb:fn.body.isNone=true) (hnx:Extern.findNext fn=none) (he:Extern.find fn=some Extern.AbiNoEscape.same) (hx:ay env x=some (.ptr r p)) :
  an P (.call { callee :=.value (.func g),args := #[x],argTypes:=at_ }) env h n (some (.ptr r p)) []:=.of_comes fun C G st σ w a o ho hA hdst hst hn=>by
 obtain⟨hx1,hx2⟩:=ao hst (hA.ev hx)
 refine .quiet (u:=a.eval x) hst hdst ⟨rfl,rfl⟩ ?_ hx1 hx2
 refine rk ho rfl rfl hP hname hb hnx he ?_
 have he':Array.map a.eval #[x] = #[a.eval x]:=by simp
 show (Extern.AbiNoEscape.same (Array.map a.eval #[x])).run P w=.ok (a.eval x) w
 rw[he']
 rfl
theorem lY (hT:aq P T) {t:Nat} {x i j:Operand} {l m:List UInt8} {k k':IntKind} {lo hi:Nat} (ht:bh T t=some .string) (hx:ay env x=some (.d (strD l))) (hi_:ay env i=some (.int k lo)) (hj:ay env j=some (.int k' hi)) (hh:hi≤l.length) (hl:lo≤hi) (hm:(l.drop lo).take (hi-lo)=m) :
  an P (.slice t x (some i) (some j) none) env h n (some (.d (strD m))) []:=.of_comes fun C G st σ w a o ho hA hdst hst hn=>by
 obtain⟨ud,hud,hdd⟩:=aS hT ht
 cases hdd
 obtain⟨hx1,_⟩:=RelV.sc.1 (ao hst (hA.ev hx)).1
 obtain⟨hj1,_⟩:=RelV.sc.1 (ao hst (hA.ev hj)).1
 obtain⟨hi1,_⟩:=RelV.sc.1 (ao hst (hA.ev hi_)).1
 subst hm
 refine .quiet (u :=.string (mkS ((l.drop lo).take (hi-lo)))) hst hdst ⟨rfl,rfl⟩ ?_ (RelV.sc.2 ⟨rfl,rfl⟩) trivial
 have he:=io l lo hi
 simp[execOp,ho,Instr.sliceAt,Instr.slice,hx1,hj1,hi1,run_underlying hud,Instr.sliceBounds,Instr.sliceBound,asIntOf,Sem.run_bind,Sem.run_pure,Result.andThen_ok,cz,hh,hl,he]
theorem ek (hT:aq P T) {t:Nat} {x:Operand} {l:List UInt8} (ht:bh T t=some .string) (hx:ay env x=some (.d (strD l))) :
  an P (.call { callee :=.builtin .len,args := #[x],argTypes := #[t] }) env h n (some (.int .i64 l.length)) []:=.len rfl hx fun C st σ w a ty hr=>by
 obtain⟨u,hu,hdu⟩:=aS hT ht
 cases hdu
 obtain⟨hv,_⟩:=RelV.sc.1 hr
 simp[Builtin.len_,hv,run_underlying hu,cz]
theorem eT (hT:aq P T) {t:Nat} {x i:Operand} {l:List UInt8} {k:IntKind} {m:Nat} {b:UInt8} (ht:bh T t=some .string) (hx:ay env x=some (.d (strD l))) (hi:ay env i=some (.int k m)) (hb:l[m]?=some b) :
  an P (.index t x i) env h n (some (.int .u8 b.toNat)) []:=
 uI hT ht hx hi (by omega) (x7 hb) rfl
theorem pM {op:BinOp} {t:Nat} {a b:ByteArray} {w:World} {v:Value} (hv:(Op.stringOp op a b).run P w=.ok v w) (h1:op ≠ .shl) (h2:op ≠ .shr):(binOp op t (.string a) (.string b)).run P w=.ok v w:=by
 rw[←hv]
 cases op <;> first | rfl | exact absurd rfl h1 | exact absurd rfl h2
theorem aG {t t':Nat} {x y:Operand} {a b m:List UInt8} (hx:ay env x=some (.d (strD a))) (hy:ay env y=some (.d (strD b))) (hl:a.length+b.length≤9223372036854775807) (hm:a++b=m) :
  an P (.binOp .add t x y t') env h n (some (.d (strD m))) []:=.of_comes fun C G st σ w ac o ho hA hdst hst hn=>by
 obtain⟨hv,_⟩:=RelV.sc.1 (ao hst (hA.ev hx)).1
 obtain⟨hy1,_⟩:=RelV.sc.1 (ao hst (hA.ev hy)).1
 subst hm
 refine .quiet (u :=.string (mkS (a++b))) hst hdst ⟨rfl,rfl⟩ ?_ (RelV.sc.2 ⟨rfl,rfl⟩) trivial
 have he:mkS a++mkS b=mkS (a++b):=sN.1 (by simp[mkS])
 have h1:(Op.stringOp .add (mkS a) (mkS b)).run P w=.ok (.string (mkS (a++b))) w:=by
  simp only[Op.stringOp,cz]
  have hmx:IntKind.i64.max=9223372036854775807:=by decide
  rw[if_neg (by rw[hmx]; omega),he]
  rfl
 have h3:=pM (P:=P) (t:=t) h1 (by simp) (by simp)
 simp only[execOp,ho,hv,hy1,Sem.run_bind,w9,Result.andThen_ok,h3,Sem.run_pure]
theorem bV (hT:aq P T) {t t':Nat} {x y:Operand} {a b:List UInt8} (ht:bh T t=some .string) (hx:ay env x=some (.d (strD a))) (hy:ay env y=some (.d (strD b))) :
  an P (.binOp .eql t x y t') env h n (some (.bool (decide (a=b)))) []:=by
 have:=th (P:=P) (h:=h) (n:=n) (t':=t') hT ht hx hy
 rwa [jg]at this
theorem dB (hT:aq P T) {t t':Nat} {x y:Operand} {a b:List UInt8} (ht:bh T t=some .string) (hx:ay env x=some (.d (strD a))) (hy:ay env y=some (.d (strD b))) :
  an P (.binOp .neq t x y t') env h n (some (.bool (!decide (a=b)))) []:=by
 have:=oQ (P:=P) (h:=h) (n:=n) (t':=t') hT ht hx hy
 rwa [jg]at this
theorem Co {op:BinOp} {t:Nat} {x y:Operand} {w:World} (k k':IntKind) (p q:Int):(eqGuard op t x y (.int k p) (.int k' q)).run P w=.ok () w:=by cases op <;> rfl
theorem vi {k:IntKind} (hk:k.signed=false) {m:Nat} (hm:m<2 ^ k.bits):k.wrap (m:Int)=m:=by
 simp only[IntKind.wrap,hk,Bool.false_eq_true,if_false,false_and]
 have:(m:Int) % ((2 ^ k.bits:Nat):Int)=m:=Int.emod_eq_of_lt (by omega) (by exact_mod_cast hm)
 first | exact_mod_cast this | (push_cast at this; simpa using this)
theorem yT {t t':Nat} {x y:Operand} {k:IntKind} {a b m:Nat} (hk:k.signed=false) (hx:ay env x=some (.int k a)) (hy:ay env y=some (.int k b)) (ha:a<2 ^ k.bits) (hb:b<2 ^ k.bits) (hm:a &&& b=m) :
  an P (.binOp .and t x y t') env h n (some (.int k m)) []:=.of_comes fun C G st σ w ac o ho hA hdst hst hn=>by
 obtain⟨hv,_⟩:=RelV.sc.1 (ao hst (hA.ev hx)).1
 obtain⟨hy1,_⟩:=RelV.sc.1 (ao hst (hA.ev hy)).1
 refine .quiet (u :=.int k m) hst hdst ⟨rfl,rfl⟩ ?_ (RelV.sc.2 ⟨rfl,rfl⟩) trivial
 have h2:(binOp .and t (.int k a) (.int k b)).run P w=.ok (.int k m) w:=by
  have e:(binOp .and t (.int k a) (.int k b))=Op.intBits .and k a b:=by simp[binOp]
  rw[e]
  simp only[Op.intBits]
  have h3:(BitVec.ofInt k.bits (a:Int) &&& BitVec.ofInt k.bits (b:Int)).toNat=m:=by
   simp only[BitVec.ofInt_natCast,BitVec.toNat_and,BitVec.toNat_ofNat,Nat.mod_eq_of_lt ha,Nat.mod_eq_of_lt hb,hm]
  rw[h3,vi hk (by rw[←hm]; exact Nat.and_lt_two_pow _ hb)]
  rfl
 simp only[execOp,ho,hv,hy1,Sem.run_bind,Co,Result.andThen_ok,h2,Sem.run_pure]
end
end Go.Eng
set_option linter.unusedSimpArgs false
set_option linter.unusedVariables false
namespace Go.Eng
open Go.RowKit
section
variable {C : Ctx} {w w' : World} {G : Nat → Prop} {st : St} {σ : Place} {a : Act}
theorem aH.lose (h:aH C G st σ w a) {r b c m:Nat} {row:Row} {cur:Array Value} {t:TypeId} {fr:Nat×Nat} (hr:st.row r=some row) (hs:σ r=some (b,c)) (hh:w.heap[b]?=some (.cells cur t fr)) :
  aH C G (st.upd [(r,none)]) σ (w.freeze ⟨b,0,none⟩ m) a:=by
 have hrow:∀q,(st.upd [(r,none)]).row q=if r=q then none else st.row q:=fun q=>by
  simp only[St.upd,St.row,List.cons_append,List.nil_append,aQ]
  split <;> rfl
 have hX:∀q,(st.upd [(r,none)]).X C.X0 σ q→st.X C.X0 σ q:=by
  rintro q (hx0 | ⟨r1,row1,c1,h1,h2⟩)
  ·exact .inl hx0
  ·rw[hrow]at h1
   split at h1
   ·cases h1
   ·exact .inr ⟨r1,row1,c1,h1,h2⟩
 have hB:=h.high _ _ _ _ hr hs
 by_cases hm:m=0
 ·subst hm
  have he:w.freeze ⟨b,0,none⟩ 0=w:=by simp[World.freeze]
  rw[he]
  refine h.core (fun _ h=>h) (fun _ _=>rfl) (fun a u h1 h2=>⟨.rfl' h1,fun hx=>h2 (hX _ hx)⟩) rfl rfl rfl (fun q row' hq=>?_) (fun r1 r2 row1 row2 b' c1 c2 h1 h2 h3 h4=>?_) (fun r1 row1 b' c1 h1 h2=>?_) h.size ⟨rfl,rfl,rfl,Nat.le_refl _,fun _ _ _=>rfl,fun _ _ ho _=>ho ▸ rfl⟩
  ·rw[hrow]at hq
   split at hq
   ·cases hq
   ·exact .inl ⟨hq,fun _ _ _=>rfl⟩
  ·rw[hrow]at h1 h2
   split at h1
   ·cases h1
   split at h2
   ·cases h2
   exact h.inj _ _ _ _ _ _ _ h1 h2 h3 h4
  ·rw[hrow]at h1
   split at h1
   ·cases h1
   exact h.high _ _ _ _ h1 h2
 ·have hother:∀k,k≠b→(w.freeze ⟨b,0,none⟩ m).heap[k]?=w.heap[k]?:=by
   intro k hk
   simp only[World.freeze,if_neg hm,Array.getElem?_modify]
   rw[if_neg (Ne.symm hk)]
  have hsz:(w.freeze ⟨b,0,none⟩ m).heap.size=w.heap.size:=by simp[World.freeze,if_neg hm]
  refine h.core (fun _ h=>h) (fun _ _=>rfl) (fun a u h1 h2=>?_) rfl rfl rfl (fun q row' hq=>?_) (fun r1 r2 row1 row2 b' c1 c2 h1 h2 h3 h4=>?_) (fun r1 row1 b' c1 h1 h2=>?_) (by rw[hsz]; exact h.size) ?_
  ·have hne:a.block≠b:=fun e=>h2 (.inr ⟨r,row,c,hr,by rw[e]; exact hs⟩)
   exact⟨.of_block (hother _ hne) h1,fun hx=>h2 (hX _ hx)⟩
  ·rw[hrow]at hq
   split at hq
   ·cases hq
   ·rename_i e
    exact .inl ⟨hq,fun b' c' hs'=>hother _ (fun e'=>e (by subst e'; exact (h.inj _ _ _ _ _ _ _ hq hr hs' hs).symm))⟩
  ·rw[hrow]at h1 h2
   split at h1
   ·cases h1
   split at h2
   ·cases h2
   exact h.inj _ _ _ _ _ _ _ h1 h2 h3 h4
  ·rw[hrow]at h1
   split at h1
   ·cases h1
   exact h.high _ _ _ _ h1 h2
  ·refine⟨by simp[World.freeze,if_neg hm],by simp[World.freeze,if_neg hm],by simp[World.freeze,if_neg hm],by rw[hsz]; exact Nat.le_refl _,fun k hk hmk=>hother k (by rintro rfl; rcases hB with hB | hB; exact absurd hk (by omega); exact hmk hB),fun k o2 ho hb=>(hother k (by rintro rfl; rw[hh]at ho; cases ho; simp[gT]at hb)).trans ho⟩
end
section
variable {P : Program} {T : Tab} {sz : Nat} {env : Env} {h : Upds} {n : Nat}
theorem oj {C:Ctx} {G:Nat→Prop} {st:St} {σ:Place} {w:World} {a:Act} (hst:aH C G st σ w a) {r t:Nat} {v:AV} (hr:st.row r=some (.box t v)) (hf:v.flat=true):∃b,σ r=some (b,1)∧w.shape? b=some (t,v.size):=by
 obtain⟨_,b,cur,h1,h2,h3⟩:=hst.rows r _ hr
 refine⟨b,h1,?_⟩
 have:=Rel.len _ _ hf h3
 simp only[Array.length_toList]at this
 simp[World.shape?,h2,this]
theorem qB (hT:aq P T) {src dst t t' r:Nat} {re:TyR} {v:AV} {x:Operand} (hs:P.underlying src=some (.pointer t)) (hd:P.underlying dst=some .unsafePointer) (ht:lk T t=some re) (hj:Nat.blt 0 re.size=true) (hx:ay env x=some (.ptr r [])) (hrow:bp h r=some (.box t' v)) (hf:v.flat=true) (hv:Nat.blt 0 v.size=true) :
  an P (.convert src dst x) env h n (some (.ptr r [])) []:=.of_comes fun C G st σ w a o ho hA hdst hst hn=>by
 obtain⟨hx1,hx2⟩:=ao hst (hA.ev hx)
 obtain⟨b,hσ,hsh⟩:=oj hst (hA.row _ _ hrow) hf
 obtain⟨b',c,hσ',hv'⟩:=RelV.ptr.1 hx1
 rw[hσ]at hσ'
 cases hσ'
 refine .quiet (u :=.pointer (some ⟨b,0,none⟩)) hst hdst ⟨rfl,rfl⟩ ?_ (RelV.ptr.2 ⟨b,1,hσ,rfl⟩) hx2
 obtain⟨j,z,hj1,hj2,_⟩:=(hT t re ht).info
 have hj:=Nat.le_of_ble_eq_true hj
 have hrun:=Lib.run_to_unsafe (P:=P) w ⟨b,0,none⟩ hs hd hj1 (by omega) hsh (Nat.le_of_ble_eq_true hv)
 simp only[execOp,ho,hv',aW,Sem.run_bind,hrun,Result.andThen_ok,Sem.run_pure]
theorem nA (hT:aq P T) {src dst u t' r:Nat} {re:TyR} {v:AV} {x:Operand} (hs:P.underlying src=some .unsafePointer) (hd:P.underlying dst=some (.pointer u)) (hu:lk T u=some re) (hx:ay env x=some (.ptr r [])) (hrow:bp h r=some (.box t' v)) (hf:v.flat=true) (hl:liesAt P P.depth t' (v.size/P.cellsOf t') 0 u 1=true) :
  an P (.convert src dst x) env h n (some (.ptr r [])) []:=.of_comes fun C G st σ w a o ho hA hdst hst hn=>by
 obtain⟨hx1,hx2⟩:=ao hst (hA.ev hx)
 obtain⟨b,hσ,hsh⟩:=oj hst (hA.row _ _ hrow) hf
 obtain⟨b',c,hσ',hv'⟩:=RelV.ptr.1 hx1
 rw[hσ]at hσ'
 cases hσ'
 refine .quiet (u :=.pointer (some ⟨b,0,none⟩)) hst hdst ⟨rfl,rfl⟩ ?_ (RelV.ptr.2 ⟨b,1,hσ,rfl⟩) hx2
 obtain⟨j,z,hj1,hj2,_⟩:=(hT u re hu).info
 have hrun:=Lib.run_from_unsafe (P:=P) w ⟨b,0,none⟩ hs hd hj1 hsh hl
 simp only[execOp,ho,hv',aW,Sem.run_bind,hrun,Result.andThen_ok,Sem.run_pure]
theorem wt (hT:aq P T) {t t' e:Nat} {x y:Operand} {re:TyR} {r:Nat} (hud:P.underlying t=some (.pointer e)) (hj:lk T e=some re) (hx:ay env x=some (.ptr r [])) (hy:ay env y=some (.ptr r [])) :
  an P (.binOp .neq t x y t') env h n (some (.bool false)) []:=.of_comes fun C G st σ w a o ho hA hdst hst hn=>by
 obtain⟨b,c,hσ,hv⟩:=RelV.ptr.1 (ao hst (hA.ev hx)).1
 obtain⟨b',c',hσ',hv'⟩:=RelV.ptr.1 (ao hst (hA.ev hy)).1
 rw[hσ]at hσ'
 cases hσ'
 obtain⟨j,z,hj1,hj2,_⟩:=(hT e re hj).info
 refine .quiet (u :=.bool false) hst hdst ⟨rfl,rfl⟩ ?_ (RelV.sc.2 ⟨rfl,rfl⟩) trivial
 simp only[execOp,ho,hv,hv',Sem.run_bind,eqG,Result.andThen_ok,Lib.run_neq_ptr_same w _ hud hj1,Sem.run_pure]
theorem yC {t t' e:Nat} {x y:Operand} {r:Nat} {p:List Step} (hud:P.underlying t=some (.pointer e)) (hx:ay env x=some (.ptr r p)) (hy:ay env y=some (.d (.sc nilp))) :
  an P (.binOp .eql t x y t') env h n (some (.bool false)) []:=.of_comes fun C G st σ w a o ho hA hdst hst hn=>by
 obtain⟨b,c,hσ,hv⟩:=RelV.ptr.1 (ao hst (hA.ev hx)).1
 obtain⟨hy1,_⟩:=RelV.sc.1 (ao hst (hA.ev hy)).1
 refine .quiet (u :=.bool false) hst hdst ⟨rfl,rfl⟩ ?_ (RelV.sc.2 ⟨rfl,rfl⟩) trivial
 simp only[execOp,ho,hv,hy1,Sem.run_bind,eqG,Result.andThen_ok,ln hud,Sem.run_pure,Option.isNone]
theorem rb {x:Operand} {at_:Array TypeId} {r len:Nat} (hx:ay env x=some (.own r 0 len 1 none)) (hl:0<len) :
  an P (.call { callee :=.builtin .unsafeSliceData,args := #[x],argTypes:=at_ }) env h n (some (.ptr r [])) []:=.of_comes fun C G st σ w a o ho hA hdst hst hn=>by
 obtain⟨hx1,hx2⟩:=ao hst (hA.ev hx)
 rcases RelV.own.1 hx1 with ⟨_,_,h0,_⟩ | ⟨b,c,ad,hσ,hv,h1,h2,h3,h4⟩
 ·omega
 have:=h4 (by omega)
 subst this
 simp only[Option.getD_none,Nat.sub_zero,Nat.zero_mul]at hv
 refine .quiet (u :=.pointer (some ⟨b,0,none⟩)) hst hdst ⟨rfl,rfl⟩ ?_ (RelV.ptr.2 ⟨b,c,hσ,rfl⟩) hx2
 have hrun:=Lib.run_unsafeSliceData_row (P:=P) w at_ o.type ⟨b,0,none⟩ len c (by omega)
 simp[execOp,ho,resolve,invoke,builtin,hv,hrun]
theorem mu {x:Operand} {at_:Array TypeId} (hx:ay env x=some (.d (.sc nil_))) :
  an P (.call { callee :=.builtin .unsafeSliceData,args := #[x],argTypes:=at_ }) env h n (some (.d (.sc nilp))) []:=.of_comes fun C G st σ w a o ho hA hdst hst hn=>by
 obtain⟨hv,_⟩:=RelV.sc.1 (ao hst (hA.ev hx)).1
 refine .quiet (u:=nilp) hst hdst ⟨rfl,rfl⟩ ?_ (RelV.sc.2 ⟨rfl,rfl⟩) trivial
 have hrun:(Builtin.unsafeSliceData_ at_ o.type #[nil_]).run P w=.ok nilp w:=Lib.run_unsafeSliceData_nil (P:=P) w at_ o.type 0 0
 simp[execOp,ho,resolve,invoke,builtin,hv,hrun]
theorem pm {x y:Operand} {tp ti:TypeId} (hx:ay env x=some (.d (.sc nilp))) (hy:ay env y=some (.int .i64 0)) :
  an P (.call { callee :=.builtin .unsafeString,args := #[x,y],argTypes := #[tp,ti] }) env h n (some (.d (strD []))) []:=.of_comes fun C G st σ w a o ho hA hdst hst hn=>by
 obtain⟨hv,_⟩:=RelV.sc.1 (ao hst (hA.ev hx)).1
 obtain⟨hv2,_⟩:=RelV.sc.1 (ao hst (hA.ev hy)).1
 refine .quiet (u :=.string (mkS [])) hst hdst ⟨rfl,rfl⟩ ?_ (RelV.sc.2 ⟨rfl,rfl⟩) trivial
 have hrun:=Lib.run_unsafeString_none (P:=P) w tp ti o.type none
 simp[execOp,ho,resolve,invoke,builtin,hv,hv2,hrun]
 rfl
theorem qX {x y:Operand} {tp ti e r:Nat} {ex:Bool} {l:List UInt8} {m:Nat} (hp:P.underlying tp=some (.pointer e)) (hc:P.cellsOf e=1) (hx:ay env x=some (.ptr r [])) (hrow:bp h r=some (.ds e 1 ex bE (byI l))) (hy:ay env y=some (.int .i64 m)) (hm:l.length=m) (h0:l≠[]) (h63:l.length≤9223372036854775807) :
  an P (.call { callee :=.builtin .unsafeString,args := #[x,y],argTypes := #[tp,ti] }) env h n (some (.d (strD l))) [(r,none)]:=.of_comes fun C G st σ w a o ho hA hdst hst hn=>by
 subst hm
 obtain⟨b,c,hσ,hv⟩:=RelV.ptr.1 (ao hst (hA.ev hx)).1
 obtain⟨hv2,_⟩:=RelV.sc.1 (ao hst (hA.ev hy)).1
 have hr:=hA.row _ _ hrow
 have hlen:(byI l).length=l.length:=by simp[byI]
 rcases hst.rows r _ hr with ⟨h1,_⟩ | ⟨b',c',cur,hσ',hex,hh,hcs,hle,hcm,f,hf,htk⟩
 ·rw[h1]at hσ; cases hσ
 rw[hσ]at hσ'
 cases hσ'
 have hsh:w.shape? b=some (e,cur.size):=by simp[World.shape?,hh]
 have hcell:∀j x,l[j]?=some x→w.cell? ((⟨b,0,none⟩:Addr).add j)=some (.int .u8 x.toNat):=by
  intro j x hj
  have hjl:=(List.getElem?_eq_some_iff.1 hj).1
  have hj1:j<(byI l).length:=by rw[hlen]; exact hjl
  rw[dr,cell_of_row w b _ cur e (0,0) hh,Nat.zero_add,←Array.getElem?_toList]
  have h5:=dW (byI l).length (fun i hi=>(hf i hi).2) j 0 hj1 (by omega)
  rw[←htk,List.getElem?_take,if_pos (by omega)]at h5
  simp only[Nat.mul_one,Nat.add_zero]at h5
  rw[h5]
  have h6:=(hf j hj1).1
  have h7:(byI l)[j]=(x.toNat:Int):=by
   have:=List.getElem?_eq_getElem hj1
   simp only[byI,List.getElem?_map,hj,Option.map_some,Option.some.injEq]at this
   exact this.symm
  rw[h7]at h6
  have h8:f j=[.int .u8 x.toNat]:=h6.1
  rw[h8]
  rfl
 have hrun:=Lib.run_unsafeString_row (P:=P) w tp ti o.type e hp hc b cur.size hsh l h0 (by rw[hcs,Nat.mul_one,←hlen]; exact hle) h63 hcell
 refine⟨_,_,.value (.string (mkS l)),_,_,σ,G,⟨rfl,rfl⟩,?_,.inl rfl,by rw[St.put_upd]; exact (hst.lose (m:=l.length) hr hσ hh).set hdst (u :=.string (mkS l)) (RelV.sc.2 ⟨rfl,rfl⟩) trivial,fun _ h=>h,fun _ h=>.inl h⟩
 simp only[aW]at hv
 simp[execOp,ho,resolve,invoke,builtin,hv,hv2,hrun,mkS]
/-! ### Frozen memory, sliced -/
def cutV (v:Value) (lo hi s:Nat):Value:=match v with
 | .slice a _ c=>.slice (if c=lo then a else a.map (·.add (lo*s))) (hi-lo) (c-lo)
 | v=>v
end
def dsAV:List D→AV
 | []=>.anil
 | d::l=>.acons (.d d) (dsAV l)
theorem kj {σ:Place} {w:World} {X:Nat→Prop} {α:Type} {enc:α→D}:∀(xs:List α) (cs:List Value),Rel σ w X (dsAV (xs.map enc)) false cs→∃f:Nat→List Value,(∀i (h:i<xs.length),Enc w X (enc xs[i]) (f i))∧cs=cat f xs.length
 | [],cs,h=>⟨fun _=>[],fun i hi=>absurd hi (Nat.not_lt_zero _),h⟩
 | x::xs,cs,h=>by
  obtain⟨c1,c2,rfl,h1,h2⟩:=h
  obtain⟨f,hf,rfl⟩:=kj xs c2 h2
  refine⟨fun i=>if i=0 then c1 else f (i-1),fun i hi=>?_,?_⟩
  ·cases i with
   | zero=>exact h1
   | succ i=>simpa using hf i (by simpa using hi)
  ·rw[List.length_cons,Nat.add_comm xs.length 1,fQ 1]
   simp only[cat,List.nil_append,if_true]
   congr 1
   exact di _ fun i hi=>by simp[Nat.add_comm 1 i]
section
variable {r : Nat} {row : Row}
theorem Frz.litsN {t s m:Nat} {ex:Bool} {α:Type} {enc:α→D} (xs:List α) {cap:Option Nat} (hm:xs.length=m) (hs:∀x∈xs,(enc x).size=s):Frz r (.lits t s m ex (dsAV (xs.map enc))) (.own r 0 m s cap) (.d (.arr s enc xs)):=by
 subst hm
 refine⟨rfl,fun _=>rfl,fun _ _=>trivial,fun σ w X X' hx hn hr cs h=>?_⟩
 rcases h with ⟨h0,_,hl,_,rfl⟩ | ⟨b,c,ad,hb,rfl,hle1,hle2,hle3,had⟩
 ·exact .inl ⟨List.eq_nil_of_length_eq_zero hl,rfl⟩
 ·rcases hr with ⟨_,⟨h0,h1⟩ | ⟨b',c',cur,cs',hb',_,hh,hsz,hlen,hmax,hcl,hrel,htake⟩⟩
  ·rw[hb]at h0; cases h0
  ·rw[hb]at hb'
   cases hb'
   obtain⟨f,hf,rfl⟩:=kj xs _ hrel
   have hfl:∀i,i<xs.length→(f i).length=s:=fun i hi=>by rw[←hs _ (List.getElem_mem hi)]; exact Enc.len _ _ (hf i hi)
   refine .inr ⟨ad,cap.getD (c-0),rfl,hle3,by omega,f,fun i hi=>?_⟩
   have hoff:ad=⟨b,0*s,none⟩:=had (by omega)
   subst hoff
   refine⟨Enc.sub hx _ _ (hf i hi),hfl i hi,fun j u hj=>⟨?_,hn b c hb⟩⟩
   rw[dr,cell_of_row w b _ cur t (0,0) hh]
   have hjs:j<s:=by rw[←hfl i hi]; exact (List.getElem?_eq_some_iff.1 hj).1
   have hcg:=dW (f:=f) (s:=s) xs.length hfl i j hi hjs
   have hlt2:i*s+j<xs.length*s:=by
    have:(i+1)*s≤xs.length*s:=Nat.mul_le_mul_right s hi
    rw[Nat.add_mul]at this; omega
   rw[←htake,hj,List.getElem?_take,if_pos hlt2]at hcg
   rw[←Array.getElem?_toList,Nat.zero_mul,Nat.zero_add]
   exact hcg
end
section
variable {P : Program} {f : FuncId} {avs : List AV} {h0 : List (Nat × Row)} {res res' : AV} {rows rows' : List (Nat × Row)}
theorem FnIs.freeze_out (r:Nat) (row:Row) (hrow:bp (bn rows) r=some row) (hE:Frz r row res res') (hH:dX r row (bn rows) (bn rows')) (h:FnIs P f avs h0 res rows):FnIs P f avs h0 res' rows':=by
 refine⟨h.1,fun C σ w vs hbs hB hw0 hσ0 hro hst=>(h.2 C σ w vs hbs hB hw0 hσ0 hro hst).mono fun e w' hr=>?_⟩
 obtain⟨v,σ',he,hs⟩:=hr
 refine⟨v,σ',he,hs.freeze (st':=cd res' rows') r row (by rw[←cg]; exact hrow) (fun i v' hv=>?_) (fun q x' hq=>?_) rfl rfl⟩
 ·simp only[cd,aQ]at hv ⊢
  split at hv
  ·rename_i e
   cases hv
   exact⟨res,by rw[if_pos e],hE⟩
  ·simp[lk]at hv
 ·rw[←cg]at hq
  obtain⟨h1,x,h2,h3⟩:=dX.out _ hH q x' hq
  exact⟨h1,x,by rw[←cg]; exact h2,h3⟩
end
end Go.Eng
namespace Go.Eng
open Go.RowKit
theorem bj.split2 {t:TypeId} {a b r:D}:bj (.box t (.d (.cons a (.cons b r)))) (.box t (.acons (.d a) (.acons (.d b) (.d r)))):=by
 rintro σ w X q ⟨_,k,cs,h1,h2,c1,c2,h3,h4,c3,c4,h5,h6,h7⟩
 exact⟨rfl,k,cs,h1,h2,c1,c2,h3,h4,c3,c4,h5,h6,h7⟩
end Go.Eng
namespace Go.Eng
open Go.RowKit
section
variable {P : Program} {T : Tab} {env : Env} {h : Upds} {n : Nat}
theorem pE {r s m:Nat} {cap:Option Nat} {te:TypeId} {ex:Bool} {α:Type} {enc:α→D} (ys:List α) {y:Operand} (hy:ay env y=some (.own r 0 m s cap)) (hrow:bp h r=some (.lits te s m ex (dsAV (ys.map enc)))) (hm:ys.length=m) (hs:∀x∈ys,(enc x).size=s) (hp:0<m) :
  ∀(C:Ctx) (G:Nat→Prop) (st:St) (σ:Place) (w:World) (a:Act),fh env h st→aH C G st σ w a→qT s enc ys w (st.X C.X0 σ) (a.eval y):=by
 intro C G st σ w a hA hst
 subst hm
 obtain⟨hy1,_⟩:=ao hst (hA.ev hy)
 rcases RelV.own.1 hy1 with ⟨_,_,h0,_⟩ | ⟨b,c,ad,hb,hv,hle,hle2,_,had⟩
 ·omega
 ·rcases hst.rows r _ (hA.row _ _ hrow)with ⟨_,⟨h0,h1⟩ | ⟨b',c',cur,cs',hb',_,hh,hsz,hlen,hmax,hcl,hrel,htake⟩⟩
  ·omega
  ·rw[hb]at hb'
   cases hb'
   have:ad=⟨b,0,none⟩:=by have:=had (by omega); simpa using this
   subst this
   obtain⟨f,hf,rfl⟩:=kj ys _ hrel
   refine⟨⟨b,0,none⟩,_,f,hv,fun i hi=>⟨hf i hi,?_⟩,fun j u hj=>?_⟩
   ·rw[←hs _ (List.getElem_mem hi)]; exact Enc.len _ _ (hf i hi)
   ·have hjl:=(List.getElem?_eq_some_iff.1 hj).1
    rw[dr,cell_of_row w b _ cur te (0,0) hh,Nat.zero_add,←Array.getElem?_toList]
    rw[hcl]at hjl
    rw[←htake,List.getElem?_take,if_pos hjl]at hj
    exact hj
theorem qL (hT:aq P T) {t e r r2 m:Nat} {re:TyR} {s:Nat} {ex ex2:Bool} {cap2:Option Nat} {α:Type} {enc:α→D} {xs:List α} {x y:Operand} (ys:List α) (ht:bh T t=some (.slice e)) (he:lk T e=some re) (hs:Nat.beq re.size s=true) (hs0:Nat.blt 0 s=true)
  (hx:ay env x=some (.own r 0 xs.length s none)) (hrow:bp h r=some (.ds e s ex enc xs)) (hy:ay env y=some (.own r2 0 m s cap2)) (hrow2:bp h r2=some (.lits e s m ex2 (dsAV (ys.map enc)))) (hm:ys.length=m) (hsz:∀x∈ys,(enc x).size=s) (hp:0<m)
  (hlen:xs.length+ys.length≤1048576) (hbytes:Nat.ble re.bytes 134217728=true) :
  an P (.call { callee :=.builtin .append,args := #[x,y],argTypes := #[t,t] }) env h n (some (.own n 0 (xs.length+ys.length) s none)) [(n,some (.ds e s false enc (xs++ys))),(r,none)]:=by
 have hs0:=Nat.le_of_ble_eq_true hs0
 have hb:=Nat.le_of_ble_eq_true hbytes
 refine iK hT (ty:=0) (ex:=ex) ht he (Nat.eq_of_beq_eq_true hs) hs0 hx hrow hy (by omega) (by simp only[maxLen]; omega) ?_ (pE ys hy hrow2 hm hsz hp)
 calc (xs.length+ys.length)*re.bytes≤1048576*134217728:=Nat.mul_le_mul hlen hb
  _≤140737488355328:=by decide
end
end Go.Eng
namespace Go.Eng
open Go.RowKit
section
variable {P : Program} {T : Tab} {n : Nat} {env : Env} {h : Upds}
end
def FrzT (r:Nat) (row:Row) (a a':AV):Prop :=
 (∀G:Nat→Prop,a.within G→a'.within G) ∧
  ∀(σ:Place) (w:World) (X X':Nat→Prop),(∀b,X' b→X b)→(∀b c,σ r=some (b,c)→¬X' b)→bw σ w X r row→∀cs,Rel σ w X a true cs→Rel σ w X' a' true cs
theorem FrzT.nil {r:Nat} {row:Row}:FrzT r row .anil .anil:=⟨fun _ h=>h,fun _ _ _ _ _ _ _ _ h=>h⟩
theorem FrzT.cons {r:Nat} {row:Row} {a b x y:AV} (h1:Frz r row a x) (h2:FrzT r row b y):FrzT r row (.acons a b) (.acons x y):=by
 refine⟨fun G g=>⟨h1.2.2.1 G g.1,h2.1 G g.2⟩,fun σ w X X' hx hn hr cs h=>?_⟩
 obtain⟨v,us,rfl,g1,g2⟩:=h
 refine⟨v,us,rfl,?_,h2.2 σ w X X' hx hn hr _ g2⟩
 split at g1 <;> rename_i hag
 ·obtain⟨c,rfl,hc⟩:=g1
  rw[if_pos (by rw[h1.1]; exact hag)]
  exact⟨c,rfl,h1.2.2.2 σ w X X' hx hn hr _ hc⟩
 ·rw[if_neg (by rw[h1.1]; exact hag)]
  exact h1.2.2.2 σ w X X' hx hn hr _ g1
theorem Frz.tup {r:Nat} {row:Row} {q q':AV} (h:FrzT r row q q'):Frz r row (.tup q) (.tup q'):=by
 refine⟨rfl,fun e=>(by cases e),fun G g=>h.1 G g,fun σ w X X' hx hn hr cs hh=>?_⟩
 obtain⟨vs,rfl,h1⟩:=hh
 exact⟨vs,rfl,h.2 σ w X X' hx hn hr _ h1⟩
end Go.Eng
namespace Go.Eng
open Go.RowKit
section
variable {P : Program} {T : Tab} {n : Nat} {env : Env} {h : Upds}
end
end Go.Eng
namespace Go.Eng
open Go.RowKit
theorem nC:∀(l:List UInt8) (acc:ByteArray),(l.map fun b=>(b.toNat:Int)).foldl (fun r n=>r.push (UInt8.ofNat n.toNat)) acc=⟨acc.data++l.toArray⟩
 | [],acc=>by simp
 | b::l,acc=>by
  rw[List.map_cons,List.foldl_cons,nC l]
  have:UInt8.ofNat ((b.toNat:Int)).toNat=b:=by simp
  rw[this]
  apply ByteArray.ext
  apply Array.ext'
  simp[ByteArray.push]
theorem iR (l:List UInt8):lj (byI l)=mkS l:=by
 rw[lj,byI,nC l]
 apply ByteArray.ext
 simp[mkS]
section
variable {P : Program} {T : Tab} {n : Nat} {env : Env} {h : Upds}
theorem lL (hT:aq P T) {t e r L:Nat} {re:TyR} {s:Nat} {ex:Bool} {α:Type} {enc:α→D} {xs ys:List α} {x y:Operand} (ht:bh T t=some (.slice e)) (he:lk T e=some re) (hs:Nat.beq re.size s=true) (hs0:Nat.blt 0 s=true)
  (hx:ay env x=some (.own r 0 L s none)) (hL:L=xs.length) (hrow:bp h r=some (.ds e s ex enc xs)) (hy:ay env y=some (.d (.arr s enc ys))) (hys:0<ys.length)
  (hlen:xs.length+ys.length≤1048576) (hbytes:Nat.ble re.bytes 134217728=true) :
  an P (.call { callee :=.builtin .append,args := #[x,y],argTypes := #[t,t] }) env h n (some (.own n 0 (xs.length+ys.length) s none)) [(n,some (.ds e s false enc (xs++ys))),(r,none)]:=by
 subst hL
 exact nu hT ht he hs hs0 hx hrow hy hys hlen hbytes
theorem fp (hT:aq P T) {t e r r2 m L:Nat} {re:TyR} {s:Nat} {ex ex2:Bool} {cap2:Option Nat} {α:Type} {enc:α→D} {xs:List α} {x y:Operand} (ys:List α) (ht:bh T t=some (.slice e)) (he:lk T e=some re) (hs:Nat.beq re.size s=true) (hs0:Nat.blt 0 s=true)
  (hx:ay env x=some (.own r 0 L s none)) (hL:L=xs.length) (hrow:bp h r=some (.ds e s ex enc xs)) (hy:ay env y=some (.own r2 0 m s cap2)) (hrow2:bp h r2=some (.lits e s m ex2 (dsAV (ys.map enc)))) (hm:ys.length=m) (hsz:∀x∈ys,(enc x).size=s) (hp:0<m)
  (hlen:xs.length+ys.length≤1048576) (hbytes:Nat.ble re.bytes 134217728=true) :
  an P (.call { callee :=.builtin .append,args := #[x,y],argTypes := #[t,t] }) env h n (some (.own n 0 (xs.length+ys.length) s none)) [(n,some (.ds e s false enc (xs++ys))),(r,none)]:=by
 subst hL
 exact qL hT ys ht he hs hs0 hx hrow hy hrow2 hm hsz hp hlen hbytes
end
end Go.Eng
namespace Go.Eng
open Go.RowKit
def cV (σ:Place) (w:World) (X:Nat→Prop):List AV→List Value→Prop
 | [],vs=>vs=[]
 | a::bs9,vs=>∃v us,vs=v::us∧RelV σ w X a v∧cV σ w X bs9 us
theorem cV.of_env {σ:Place} {w:World} {X:Nat→Prop}:∀(avs:List AV) (vs:List Value),vs.length=avs.length →
  (∀(i:Nat) (v:AV),avs[i]?=some v→∃u,vs[i]?=some u∧RelV σ w X v u)→cV σ w X avs vs
 | [],vs,hl,_=>List.eq_nil_of_length_eq_zero hl
 | a::bs9,[],hl,_=>by simp at hl
 | a::bs9,v::vs,hl,h=>by
  obtain⟨u,hu,hr⟩:=h 0 a rfl
  simp only[List.getElem?_cons_zero,Option.some.injEq]at hu
  subst hu
  exact⟨v,vs,rfl,hr,cV.of_env bs9 vs (by simpa using hl) fun i x hi=>by simpa using h (i+1) x (by simpa using hi)⟩
def ju (w:World):Prop:=∀x∈nW,x.2 (w.heap[x.1]?)∧x.1<w.heap.size
theorem qK:∀(avs:List AV) (k i:Nat) (v:AV),avs[i]?=some v→lk (dD k avs) (k+i)=some v
 | [],k,i,v,h=>by simp at h
 | a::bs9,k,0,v,h=>by
  simp only[List.getElem?_cons_zero,Option.some.injEq]at h
  subst h
  simp only[dD,aQ,Nat.add_zero,if_pos]
 | a::bs9,k,i+1,v,h=>by
  simp only[dD,aQ]
  rw[if_neg (by omega),show k+(i+1)=(k+1)+i by omega]
  exact qK bs9 (k+1) i v (by simpa using h)
variable {P : Program}
theorem FnIs.of_calls {f : FuncId} {avs : List AV} {d : AV} (hd : ∀ G : Nat → Prop, d.within G) (hfn : ∃ fn, P.funcs[f]? = some fn ∧ (fn.name == "runtime.NumGoroutine") = false ∧ fn.body.isNone = false)
    (h:∀(σ:Place) (w:World) (X:Nat→Prop) (vs:List Value),(∀b,X b→b<w.heap.size)→cV σ w X avs vs→ju w →
      Calls P f vs.toArray w fun e w'=>∃v,e=.returned v∧Below w.heap.size w w'∧RelV σ w' X d v):FnIs P f avs [] d []:=by
  refine⟨hfn,fun C σ w vs hbs hB hw hσ hro hst=>?_⟩
  have hX:∀b,(inSt avs []).X C.X0 σ b↔C.X0 b:=fun b=>by
    constructor
    · rintro (hx | ⟨r,row,c,h5,_⟩)
      · exact hx
      · simp[inSt,bn,St.row,lk]at h5
    · exact .inl
  have hX2:∀(σ':Place) b,(cd d []).X C.X0 σ' b↔C.X0 b:=fun σ' b=>by
    constructor
    · rintro (hx | ⟨r,row,c,h5,_⟩)
      · exact hx
      · simp[cd,bn,St.row,lk]at h5
    · exact .inl
  have hlen:vs.length=avs.length:=by have:=hst.sz; simpa[inSt]using this
  have hargs:cV σ w C.X0 avs vs:=cV.of_env avs vs hlen fun i v hi=>by
    have:=qK avs 0 i v hi
    rw[Nat.zero_add]at this
    obtain⟨u,h1,h2⟩:=hst.env i v this
    refine⟨u,by simpa using h1,?_⟩
    rwa [show (inSt avs []).X C.X0 σ=C.X0 from funext fun b=>propext (hX b)]at h2
  have hg:ju w:=fun x hx=>by
    obtain⟨g1,g2,_⟩:=hst.glob x hx
    rw[hw]at g1
    exact⟨g1,by omega⟩
  refine (h σ w C.X0 vs (fun b hb=>by have:=(hst.x0 b hb).1; omega) hargs hg).mono ?_
  rintro e w' ⟨v,rfl,hb,hr⟩
  refine⟨v,σ,rfl,?_⟩
  have hbm:ea C.B C.M C.w0 w':=by
    rw[hB,hw]
    refine Below.toM hb fun k o ho _=>?_
    have hk:k<w.heap.size:=(Array.getElem?_eq_some_iff.1 ho).1
    exact (hb.block k hk).trans ho
  exact
    { env:=fun i x hi=>by
        by_cases e:i=0
        · subst e
          simp only[cd,aQ,if_pos,Option.some.injEq]at hi
          subst hi
          refine⟨v,rfl,?_⟩
          rw[show (cd d []).X C.X0 σ=C.X0 from funext fun b=>propext (hX2 σ b)]
          exact hr
        · simp only[cd,aQ,if_neg (Ne.symm e),lk]at hi
          cases hi
      envG:=fun i x hi=>by
        by_cases e:i=0
        · subst e
          simp only[cd,aQ,if_pos,Option.some.injEq]at hi
          subst hi
          exact hd _
        · simp only[cd,aQ,if_neg (Ne.symm e),lk]at hi
          cases hi
      rows:=fun r row hr=>by simp[cd,bn,St.row,lk]at hr
      rowsG:=fun r row hr=>by simp[cd,bn,St.row,lk]at hr
      inj:=fun r r' row row' b c c' hr=>by simp[cd,bn,St.row,lk]at hr
      high:=fun r row b c hr=>by simp[cd,bn,St.row,lk]at hr
      size:=by rw[hB]; exact hb.size
      below:=hbm
      defers:=trivial
      sz:=rfl
      x0:=hst.x0
      agree:=fun r _=>by rw[hσ]
      baseG:=fun r hr=>by rw[hbs]at hr; show r<72; omega
      bs:=by rw[hbs]; rfl
      rok:=fun l hl=>by rw[hro]at hl; cases hl
      glob:=hst.glob }
theorem cV.one {σ:Place} {w:World} {X:Nat→Prop} {v:Value} {vs:List Value} (h:cV σ w X [.d (.sc v)] vs):vs=[v]:=by
 obtain⟨u,us,rfl,h1,h2⟩:=h
 obtain⟨rfl,_⟩:=RelV.sc.1 h1
 rw[show us=[] from h2]
theorem cV.two {σ:Place} {w:World} {X:Nat→Prop} {v v2:Value} {vs:List Value} (h:cV σ w X [.d (.sc v),.d (.sc v2)] vs):vs=[v,v2]:=by
 obtain⟨u,us,rfl,h1,h2⟩:=h
 obtain⟨rfl,_⟩:=RelV.sc.1 h1
 rw[cV.one h2]
theorem cV.three {σ:Place} {w:World} {X:Nat→Prop} {v v2 v3:Value} {vs:List Value} (h:cV σ w X [.d (.sc v),.d (.sc v2),.d (.sc v3)] vs):vs=[v,v2,v3]:=by
 obtain⟨u,us,rfl,h1,h2⟩:=h
 obtain⟨rfl,_⟩:=RelV.sc.1 h1
 rw[cV.two h2]
theorem FnIs.of_calls1 {f : FuncId} {avs : List AV} {r : Value} (h1 : r.oneCell' = true) (hfn : ∃ fn, P.funcs[f]? = some fn ∧ (fn.name == "runtime.NumGoroutine") = false ∧ fn.body.isNone = false)
  (h:∀(σ:Place) (w:World) (X:Nat→Prop) (vs:List Value),cV σ w X avs vs→ju w→Calls P f vs.toArray w fun e w'=>e=.returned r∧Below w.heap.size w w'):FnIs P f avs [] (.d (.sc r)) []:=
 .of_calls (fun _=>trivial) hfn fun σ w X vs _ ha hg=>(h σ w X vs ha hg).mono fun _ _ ⟨he,hb⟩=>⟨r,he,hb,RelV.sc.2 ⟨rfl,h1⟩⟩
end Go.Eng
