/- Texts of the proof: PT, PP, PP2, PR, PTab, PDat, PL, Eng72, Eng73, P3, P4, Eng74, P5, PU, P6, PW, P7, P9, P10, P11, Eng75, P12, Eng76, P13, P1, P2, P8, Eng77, P14, PX, P15, P16, P17, P18, P21, P22, P23, HDat, P24, P19, P20, P25, P26, P27, P28, PY, P29, P30, Eng78, P31, P32, P33, P34, PZ, P35, P36, P37, P42, Eng80, Eng81, Eng82, P43, PM, PN, P40, P41, PV0, P44, Eng86, Eng83, Eng84, Eng85, H1, H2, H3, H4, H5, HR, H6, H7, H8, H9, H10, H11, H14, H15, H16, H17. -/
import Derived.Test.YtkehohfgbblokaaG02
import Derived.Lib.ItoaMem
import Derived.Lib.ParseIntB
import Derived.Lib.ParseIntBCases
import Derived.Test.YtkehohfgbblokaaChecked
import Derived.Test.YtkehohfgbblokaaG01
import Derived.KernelRfl
import Derived.Lib.Split
import Derived.Lib.CountLaws
import Derived.Lib.CutLaws
import Derived.Lib.IndexBytes
import Derived.Lib.SmallJoins
import Derived.Lib.IndexLaws
import Derived.Sort.Row
import Derived.Sort.Grow
import Derived.Lib.SlicesCompact

set_option linter.unusedVariables false
set_option linter.unusedSimpArgs false
set_option linter.unusedSectionVars false

namespace Go.Plain
open Go.Eng Go.Lib
def px:List UInt8→UInt8→List (List UInt8)
 | [],_=>[[]]
 | b::l,c=>if b=c then[]::px l c else match px l c with
  | []=>[[b]]
  | w::ws=>(b::w)::ws
def hexD:List UInt8:=[48,49,50,51,52,53,54,55,56,57,97,98,99,100,101,102]
def hexC (n:Nat):UInt8:=hexD.getD n 0
def hexB (b:UInt8):List UInt8:=[hexC (b.toNat/16),hexC (b.toNat % 16)]
def hexP (l:List UInt8):List UInt8:=if l=[] then[45] else l.flatMap hexB
def nibO (c:UInt8):Option Nat:=if 0≤indexByte hexD c then some (indexByte hexD c).toNat else none
def wD:List UInt8→Option (List UInt8)
 | []=>some []
 | [_]=>none
 | a::b::l=>match nibO a,nibO b,wD l with
  | some x,some y,some r=>some ((x*16+y).toUInt8::r)
  | _,_,_=>none
def pu (s:List UInt8):Option (List UInt8):=if s=[45] then some [] else if s=[] then none else wD s
/-! Numbers. -/
/-! Operations. -/
structure POp where
 kind:Int
 index:Int
 data:List UInt8
 deriving DecidableEq
structure POp.Ok (o:POp):Prop where
 kind:0≤o.kind∧o.kind≤255
 index : -9223372036854775808≤o.index∧o.index≤9223372036854775807
def vY:List UInt8:=[114,101,97,100]
def su:List UInt8:=[119,114,105,116,101]
def sv:List UInt8:=[102,108,117,115,104]
def sOp:List UInt8:=[111,112]
def mx:List UInt8:=[99,108,105,101,110,116]
def tK (o:POp):List UInt8 :=
 if o.kind=1∧o.data=[] then vY++32::itoa o.index
 else if o.kind=2 then su++32::(itoa o.index++32::hexP o.data)
 else if o.kind=3∧o.index=0∧o.data=[] then sv
 else sOp++32::(itoa o.kind++32::(itoa o.index++32::hexP o.data))
def opF (k i d:List UInt8):Option POp:=match parseUintB 8 k,atoiAll i,pu d with
 | .ok k,.ok i,some d=>some ⟨k,i,d⟩
 | _,_,_=>none
def Cc (w:List (List UInt8)):Option POp:=match w with
 | []=>none
 | a::r=>if a=vY then (match r with | [i]=>opF [49] i [45] | _=>none)
  else if a=su then (match r with | [i,d]=>opF [50] i d | _=>none)
  else if a=sv then (match r with | []=>opF [51] [48] [45] | _=>none)
  else if a=sOp then (match r with | [k,i,d]=>opF k i d | _=>none)
  else none
def y6 (t:List UInt8):Option POp:=match Cc (px t 32) with
 | some o=>if tK o=t then some o else none
 | none=>none
def badP (p:List POp):Bool:=decide (64<p.length)||p.any fun o=>decide (64<o.data.length)
def chkP (l:List (List POp)):Int:=if 8<l.length then 3 else if l.any badP=true then 3 else 0
def pO (l:List (List POp)) (o:POp):List (List POp):=l.dropLast++[l.getLast?.getD []++[o]]
def addP (l:List (List POp)) (t:List UInt8):List (List POp)×Int :=
 if t=mx then (if 8<l.length+1 then ([],3) else (l++[[]],0))
 else match y6 t with
  | none=>([],5)
  | some o=>if l=[] then ([],5) else if 64<(l.getLast?.getD []).length+1∨64<o.data.length then ([],3) else (pO l o,0)
def cutL:List UInt8→UInt8→Option (List UInt8×List UInt8)
 | [],_=>none
 | b::l,c=>if b=c then some ([],l) else match cutL l c with
  | none=>none
  | some (p,q)=>some (b::p,q)
theorem pc:∀ {l:List UInt8} {c:UInt8} {p q:List UInt8},cutL l c=some (p,q)→l=p++c::q∧c ∉ p
 | [],_,_,_,h=>by cases h
 | b::l,c,p,q,h=>by
  simp only[cutL]at h
  split at h
  ·rename_i e
   cases h
   subst e
   exact⟨rfl,by simp⟩
  ·rename_i e
   split at h
   ·cases h
   ·rename_i p' q' h2
    cases h
    obtain⟨h3,h4⟩:=pc h2
    subst h3
    refine⟨rfl,?_⟩
    simp only[List.mem_cons,not_or]
    exact⟨Ne.symm e,h4⟩
def sM (s:List UInt8) (l:List (List POp)) (n:Nat):List (List POp)×Nat×Int :=
 if s=[] then (l,0,0) else
 match _h:cutL s 10 with
 | none=>([],n,5)
 | some (t,r)=>if (addP l t).2=0 then sM r (addP l t).1 (n+1) else ([],n,(addP l t).2)
termination_by s.length
decreasing_by
 have := (pc _h).1
 rw [this]
 simp
 omega
def pK:List (List UInt8)→Nat→List (List POp)→List (List POp)×Nat×Int
 | [],_,l=>(l,0,0)
 | [t],i,l=>if t=[] then (l,0,0) else ([],i+1,5)
 | t::u::ts,i,l=>if t=mx then (if 0<chkP (l++[[]]) then ([],i+1,3) else pK (u::ts) (i+1) (l++[[]]))
  else match y6 t with
   | none=>([],i+1,5)
   | some o=>if l=[] then ([],i+1,5) else if 0<chkP (pO l o) then ([],i+1,3) else pK (u::ts) (i+1) (pO l o)
def opsT (p:List POp):List UInt8:=p.flatMap fun o=>tK o++[10]
def B7 (l:List (List POp)):List UInt8:=l.flatMap fun p=>mx++10::opsT p
def OkL (l:List (List POp)):Prop:=∀p∈l,∀o∈p,o.Ok
def yw (sg:Int) (acc:Int) (c:UInt8):Int:=IntKind.i64.wrap (IntKind.i64.wrap (acc*10)+IntKind.i64.wrap (sg*((c.toNat:Int)-48)))
def Cl (c:UInt8):Bool:=decide (48≤c.toNat)&&decide (c.toNat≤57)
def sgOf (s:List UInt8):Int:=if s.head?=some 45 then-1 else 1
def xw (s:List UInt8):List UInt8:=if s.head?=some 45 then s.tail else s
def intV (s:List UInt8):Int:=(xw s).foldl (yw (sgOf s)) 0
def intR (s:List UInt8):Option Int:=if 19<(xw s).length then none else if (xw s).all Cl=false then none else if itoa (intV s)=s then some (intV s) else none
def CI (sg:Int) (acc:Int) (c:UInt8):Int:=acc*10+sg*((c.toNat:Int)-48)
def opR (k:Int) (i d:List UInt8):Option POp:=match intR i,pu d with
 | some i,some d=>some ⟨k,i,d⟩
 | _,_=>none
def Ck (k:List UInt8):Option Int:=match intR k with
 | some n=>if n<0∨255<n then none else some n
 | none=>none
def zw (w:List (List UInt8)):Option POp:=match w with
 | []=>none
 | a::r=>if a=vY∧r.length=1 then opR 1 (r.getD 0 []) [45]
  else if a=su∧r.length=2 then opR 2 (r.getD 0 []) (r.getD 1 [])
  else if a=sv∧r.length=0 then opR 3 [48] [45]
  else if a=sOp∧r.length=3 then (match Ck (r.getD 0 []) with
   | some k=>opR k (r.getD 1 []) (r.getD 2 [])
   | none=>none)
  else none
def readR (s:List UInt8):Option POp:=match zw (px s 32) with
 | some o=>if tK o=s then some o else none
 | none=>none
end Go.Plain
namespace Go.Proofs.Ytkehohfgbblokaa
open Go.Eng
theorem dF {p:Prop} [Decidable p] (h:¬p):decide p=false:=decide_eq_false h
theorem dT {p:Prop} [Decidable p] (h:p):decide p=true:=decide_eq_true h
abbrev u0:TyR := { desc :=.cell,size:=1,bytes:=8,zero :=.sc .nilFunc }
abbrev u1:TyR := { desc :=.cell,size:=1,bytes:=8,zero :=.sc (.map none) }
abbrev u2:TyR := { desc :=.cell,size:=1,bytes:=8,zero :=.sc (.pointer none) }
abbrev u3:TyR := { desc :=.struct [(0,5),(1,5),(2,5)],size:=3,bytes:=3,zero :=.cons (.sc (.int .u8 0)) (.cons (.sc (.int .u8 0)) (.cons (.sc (.int .u8 0)) (.nil))) }
abbrev u4:TyR := { desc :=.int .i64,size:=1,bytes:=8,zero :=.sc (.int .i64 0) }
abbrev u5:TyR := { desc :=.int .u8,size:=1,bytes:=1,zero :=.sc (.int .u8 0) }
section
variable {p : Prop}
theorem zM (h:p:=by exact⟨rfl,bx _,_,rfl,aR.of_eq (by simp only[Row.ren,bj])⟩):p:=h
theorem zN (h:p:=by exact⟨rfl,bx _,_,_,rfl,rfl,aR.of_eq (by simp only[Row.ren,bj])⟩):p:=h
theorem zK (h:p:=by exact⟨rfl,bx _,qL _,rfl⟩):p:=h
theorem zR (h:p:=by exact⟨rfl,rfl,_,rfl,.refl _⟩):p:=h
theorem zH (h:p:=by exact⟨rfl,rfl,_,_,rfl,rfl,.refl _⟩):p:=h
theorem zF (h:p:=by exact⟨rfl,_,rfl,FrzR.refl _⟩):p:=h
theorem zV (h:p:=by exact⟨⟨_,rfl,AVLe.of_eq rfl⟩,rfl,trivial⟩):p:=h
theorem za (h:p:=by exact⟨⟨_,rfl,.refl _⟩,rfl,⟨_,rfl,.refl _⟩,rfl,⟨_,rfl,.refl _⟩,rfl,⟨_,rfl,.refl _⟩,rfl,⟨_,rfl,.refl _⟩,rfl,⟨_,rfl,.refl _⟩,rfl,⟨_,rfl,.refl _⟩,rfl,⟨_,rfl,.refl _⟩,rfl,⟨_,rfl,.refl _⟩,rfl,⟨_,rfl,.refl _⟩,rfl,⟨_,rfl,.refl _⟩,rfl,⟨_,rfl,.refl _⟩,rfl,trivial⟩):p:=h
theorem zb (h:p:=by exact⟨⟨_,rfl,.refl _⟩,rfl,⟨_,rfl,.refl _⟩,rfl,⟨_,rfl,.refl _⟩,rfl,⟨_,rfl,.refl _⟩,rfl,⟨_,rfl,.refl _⟩,rfl,⟨_,rfl,.refl _⟩,rfl,⟨_,rfl,.refl _⟩,rfl,⟨_,rfl,.refl _⟩,rfl,⟨_,rfl,.refl _⟩,rfl,⟨_,rfl,.refl _⟩,rfl,⟨_,rfl,.refl _⟩,rfl,trivial⟩):p:=h
theorem zc (h:p:=by exact⟨⟨_,rfl,.refl _⟩,rfl,⟨_,rfl,.refl _⟩,rfl,⟨_,rfl,.refl _⟩,rfl,⟨_,rfl,.refl _⟩,rfl,⟨_,rfl,.refl _⟩,rfl,⟨_,rfl,.refl _⟩,rfl,⟨_,rfl,.refl _⟩,rfl,⟨_,rfl,.refl _⟩,rfl,⟨_,rfl,.refl _⟩,rfl,⟨_,rfl,.refl _⟩,rfl,trivial⟩):p:=h
theorem zd (h:p:=by exact⟨⟨_,rfl,.refl _⟩,rfl,⟨_,rfl,.refl _⟩,rfl,⟨_,rfl,.refl _⟩,rfl,⟨_,rfl,.refl _⟩,rfl,⟨_,rfl,.refl _⟩,rfl,⟨_,rfl,.refl _⟩,rfl,⟨_,rfl,.refl _⟩,rfl,⟨_,rfl,.refl _⟩,rfl,⟨_,rfl,.refl _⟩,rfl,trivial⟩):p:=h
theorem ze (h:p:=by exact⟨⟨_,rfl,.refl _⟩,rfl,⟨_,rfl,.refl _⟩,rfl,⟨_,rfl,.refl _⟩,rfl,⟨_,rfl,.refl _⟩,rfl,⟨_,rfl,.refl _⟩,rfl,⟨_,rfl,.refl _⟩,rfl,⟨_,rfl,.refl _⟩,rfl,⟨_,rfl,.refl _⟩,rfl,trivial⟩):p:=h
theorem zf (h:p:=by exact⟨⟨_,rfl,.refl _⟩,rfl,⟨_,rfl,.refl _⟩,rfl,⟨_,rfl,.refl _⟩,rfl,⟨_,rfl,.refl _⟩,rfl,⟨_,rfl,.refl _⟩,rfl,⟨_,rfl,.refl _⟩,rfl,⟨_,rfl,.refl _⟩,rfl,trivial⟩):p:=h
theorem zg (h:p:=by exact⟨⟨_,rfl,.refl _⟩,rfl,⟨_,rfl,.refl _⟩,rfl,⟨_,rfl,.refl _⟩,rfl,⟨_,rfl,.refl _⟩,rfl,⟨_,rfl,.refl _⟩,rfl,⟨_,rfl,.refl _⟩,rfl,trivial⟩):p:=h
theorem zh (h:p:=by exact⟨⟨_,rfl,.refl _⟩,rfl,⟨_,rfl,.refl _⟩,rfl,⟨_,rfl,.refl _⟩,rfl,⟨_,rfl,.refl _⟩,rfl,⟨_,rfl,.refl _⟩,rfl,trivial⟩):p:=h
theorem zi (h:p:=by exact⟨⟨_,rfl,.refl _⟩,rfl,⟨_,rfl,.refl _⟩,rfl,⟨_,rfl,.refl _⟩,rfl,⟨_,rfl,.refl _⟩,rfl,trivial⟩):p:=h
theorem zj (h:p:=by exact⟨⟨_,rfl,.refl _⟩,rfl,⟨_,rfl,.refl _⟩,rfl,⟨_,rfl,.refl _⟩,rfl,trivial⟩):p:=h
theorem zk (h:p:=by exact⟨⟨_,rfl,.refl _⟩,rfl,⟨_,rfl,.refl _⟩,rfl,trivial⟩):p:=h
theorem zl (h:p:=by exact⟨⟨_,rfl,.refl _⟩,rfl,trivial⟩):p:=h
theorem zE (h:p:=by exact⟨_,rfl,.refl _⟩):p:=h
end
theorem lg {l:bH} {st st':St} (h6:iZ (rho l) st.env st'.next st'.env) (h7:fO (rho l) st st'.next st'.heap) (h1:eM (rho l) (ba st'.heap)=true:=by exact rfl) (h2:st'.sz=st.sz:=by exact rfl) (h3:st'.bs=st.bs:=by exact rfl) (h4:Nat.ble st'.bs st'.next=true:=by exact rfl) (h5:cV st'.bs l=true:=by exact rfl):Le l st st' :=.of h1 h2 h3 h4 h5 h6 h7
theorem mT {t:Nat} {r:TyR} {u:TypeDesc} (h3:Try.prog.underlying t=some u) (h1:(Try.prog.info? t).map (fun i=>(i.size,i.bytes,i.zero))=some (r.size,r.bytes,some (zval r.zero)):=by kernel_rfl) (h2:(r.zero.okC&&Nat.beq r.zero.size r.size)=true:=by kernel_rfl) (h4:pb Try.prog r.desc u=true:=by kernel_rfl) (h5:r.desc.isAgg=r.zero.isAgg:=by kernel_rfl):TyOk Try.prog t r:=TyOk.mk' h1 h2 h3 h4 h5
abbrev r1:TyR:=u0
theorem ty1:TyOk Try.prog 1 r1:=mT Try.underlying1
abbrev r2:TyR:=u4
theorem ty2:TyOk Try.prog 2 r2:=mT Try.underlying2
abbrev r3:TyR:=u4
theorem ty3:TyOk Try.prog 3 r3:=mT Try.underlying3
abbrev r4:TyR := { desc :=.bool,size:=1,bytes:=1,zero :=.sc (.bool false) }
theorem ty4:TyOk Try.prog 4 r4:=mT Try.underlying4
abbrev r5:TyR:=u5
theorem ty5:TyOk Try.prog 5 r5:=mT Try.underlying5
abbrev r9:TyR := { desc :=.string,size:=1,bytes:=16,zero :=.sc (.string ⟨#[]⟩) }
theorem ty9:TyOk Try.prog 9 r9:=mT Try.underlying9
abbrev r12:TyR := { desc :=.int .u64,size:=1,bytes:=8,zero :=.sc (.int .u64 0) }
theorem ty12:TyOk Try.prog 12 r12:=mT Try.underlying12
abbrev r13:TyR := { desc :=.struct [(0,9),(1,12)],size:=2,bytes:=24,zero :=.cons (.sc (.string ⟨#[]⟩)) (.cons (.sc (.int .u64 0)) (.nil)) }
theorem ty13:TyOk Try.prog 13 r13:=mT Try.underlying13
abbrev r20:TyR := { desc :=.cell,size:=1,bytes:=16,zero :=.sc .nilIface }
theorem ty20:TyOk Try.prog 20 r20:=mT Try.underlying20
abbrev r21:TyR := { desc :=.int .i32,size:=1,bytes:=4,zero :=.sc (.int .i32 0) }
theorem ty21:TyOk Try.prog 21 r21:=mT Try.underlying21
abbrev r22:TyR:=u5
theorem ty22:TyOk Try.prog 22 r22:=mT Try.underlying22
abbrev r23:TyR := { desc :=.slice 5,size:=1,bytes:=24,zero :=.sc (.slice none 0 0) }
theorem ty23:TyOk Try.prog 23 r23:=mT Try.underlying23
abbrev r24:TyR := { desc :=.struct [(0,22),(1,3),(2,23)],size:=3,bytes:=40,zero :=.cons (.sc (.int .u8 0)) (.cons (.sc (.int .i64 0)) (.cons (.sc (.slice none 0 0)) (.nil))) }
theorem ty24:TyOk Try.prog 24 r24:=mT Try.underlying24
abbrev r25:TyR := { desc :=.struct [(0,22),(1,3),(2,23)],size:=3,bytes:=40,zero :=.cons (.sc (.int .u8 0)) (.cons (.sc (.int .i64 0)) (.cons (.sc (.slice none 0 0)) (.nil))) }
theorem ty25:TyOk Try.prog 25 r25:=mT Try.underlying25
abbrev r26:TyR := { desc :=.array 32 5,size:=32,bytes:=32,zero :=.vec 32 1 cU (List.replicate 32 0) }
theorem ty26:TyOk Try.prog 26 r26:=mT Try.underlying26
abbrev r27:TyR := { desc :=.array 32 5,size:=32,bytes:=32,zero :=.vec 32 1 cU (List.replicate 32 0) }
theorem ty27:TyOk Try.prog 27 r27:=mT Try.underlying27
abbrev r28:TyR:=u4
theorem ty28:TyOk Try.prog 28 r28:=mT Try.underlying28
abbrev r29:TyR := { desc :=.struct [(0,3),(1,3),(2,3),(3,25),(6,3),(7,3),(8,27),(40,28)],size:=41,bytes:=120,zero :=.cons (.sc (.int .i64 0)) (.cons (.sc (.int .i64 0)) (.cons (.sc (.int .i64 0)) (.cons (.cons (.sc (.int .u8 0)) (.cons (.sc (.int .i64 0)) (.cons (.sc (.slice none 0 0)) (.nil)))) (.cons (.sc (.int .i64 0)) (.cons (.sc (.int .i64 0)) (.cons (.vec 32 1 cU (List.replicate 32 0)) (.cons (.sc (.int .i64 0)) (.nil)))))))) }
theorem ty29:TyOk Try.prog 29 r29:=mT Try.underlying29
abbrev r30:TyR := { desc :=.struct [(0,3),(1,3),(2,3),(3,25),(6,3),(7,3),(8,27),(40,28)],size:=41,bytes:=120,zero :=.cons (.sc (.int .i64 0)) (.cons (.sc (.int .i64 0)) (.cons (.sc (.int .i64 0)) (.cons (.cons (.sc (.int .u8 0)) (.cons (.sc (.int .i64 0)) (.cons (.sc (.slice none 0 0)) (.nil)))) (.cons (.sc (.int .i64 0)) (.cons (.sc (.int .i64 0)) (.cons (.vec 32 1 cU (List.replicate 32 0)) (.cons (.sc (.int .i64 0)) (.nil)))))))) }
theorem ty30:TyOk Try.prog 30 r30:=mT Try.underlying30
abbrev r31:TyR:=u0
theorem ty31:TyOk Try.prog 31 r31:=mT Try.underlying31
abbrev r32:TyR:=u0
theorem ty32:TyOk Try.prog 32 r32:=mT Try.underlying32
abbrev r33:TyR:=u0
theorem ty33:TyOk Try.prog 33 r33:=mT Try.underlying33
abbrev r34:TyR:=u0
theorem ty34:TyOk Try.prog 34 r34:=mT Try.underlying34
abbrev r35:TyR:=u0
theorem ty35:TyOk Try.prog 35 r35:=mT Try.underlying35
abbrev r36:TyR := { desc :=.slice 74,size:=1,bytes:=24,zero :=.sc (.slice none 0 0) }
theorem ty36:TyOk Try.prog 36 r36:=mT Try.underlying36
abbrev r37:TyR := { desc :=.struct [(0,36)],size:=1,bytes:=24,zero :=.cons (.sc (.slice none 0 0)) (.nil) }
theorem ty37:TyOk Try.prog 37 r37:=mT Try.underlying37
abbrev r38:TyR := { desc :=.struct [(0,36)],size:=1,bytes:=24,zero :=.cons (.sc (.slice none 0 0)) (.nil) }
theorem ty38:TyOk Try.prog 38 r38:=mT Try.underlying38
abbrev r39:TyR := { desc :=.slice 3,size:=1,bytes:=24,zero :=.sc (.slice none 0 0) }
theorem ty39:TyOk Try.prog 39 r39:=mT Try.underlying39
abbrev r40:TyR := { desc :=.slice 63,size:=1,bytes:=24,zero :=.sc (.slice none 0 0) }
theorem ty40:TyOk Try.prog 40 r40:=mT Try.underlying40
abbrev r41:TyR:=u0
theorem ty41:TyOk Try.prog 41 r41:=mT Try.underlying41
abbrev r42:TyR:=u0
theorem ty42:TyOk Try.prog 42 r42:=mT Try.underlying42
abbrev r43:TyR:=u0
theorem ty43:TyOk Try.prog 43 r43:=mT Try.underlying43
abbrev r44:TyR:=u0
theorem ty44:TyOk Try.prog 44 r44:=mT Try.underlying44
abbrev r45:TyR := { desc :=.int .i8,size:=1,bytes:=1,zero :=.sc (.int .i8 0) }
theorem ty45:TyOk Try.prog 45 r45:=mT Try.underlying45
abbrev r46:TyR := { desc :=.slice 100,size:=1,bytes:=24,zero :=.sc (.slice none 0 0) }
theorem ty46:TyOk Try.prog 46 r46:=mT Try.underlying46
abbrev r47:TyR:=u0
theorem ty47:TyOk Try.prog 47 r47:=mT Try.underlying47
abbrev r49:TyR:=u0
theorem ty49:TyOk Try.prog 49 r49:=mT Try.underlying49
abbrev r51:TyR:=u0
theorem ty51:TyOk Try.prog 51 r51:=mT Try.underlying51
abbrev r53:TyR:=u0
theorem ty53:TyOk Try.prog 53 r53:=mT Try.underlying53
abbrev r54:TyR:=u0
theorem ty54:TyOk Try.prog 54 r54:=mT Try.underlying54
abbrev r56:TyR:=u0
theorem ty56:TyOk Try.prog 56 r56:=mT Try.underlying56
abbrev r57:TyR:=u0
theorem ty57:TyOk Try.prog 57 r57:=mT Try.underlying57
abbrev r58:TyR:=u0
theorem ty58:TyOk Try.prog 58 r58:=mT Try.underlying58
abbrev r59:TyR := { desc :=.slice 30,size:=1,bytes:=24,zero :=.sc (.slice none 0 0) }
theorem ty59:TyOk Try.prog 59 r59:=mT Try.underlying59
abbrev r60:TyR:=u0
theorem ty60:TyOk Try.prog 60 r60:=mT Try.underlying60
abbrev r61:TyR:=u5
theorem ty61:TyOk Try.prog 61 r61:=mT Try.underlying61
abbrev r62:TyR := { desc :=.struct [(0,61),(1,3),(2,25),(5,27),(37,28)],size:=38,bytes:=96,zero :=.cons (.sc (.int .u8 0)) (.cons (.sc (.int .i64 0)) (.cons (.cons (.sc (.int .u8 0)) (.cons (.sc (.int .i64 0)) (.cons (.sc (.slice none 0 0)) (.nil)))) (.cons (.vec 32 1 cU (List.replicate 32 0)) (.cons (.sc (.int .i64 0)) (.nil))))) }
theorem ty62:TyOk Try.prog 62 r62:=mT Try.underlying62
abbrev r63:TyR := { desc :=.struct [(0,61),(1,3),(2,25),(5,27),(37,28)],size:=38,bytes:=96,zero :=.cons (.sc (.int .u8 0)) (.cons (.sc (.int .i64 0)) (.cons (.cons (.sc (.int .u8 0)) (.cons (.sc (.int .i64 0)) (.cons (.sc (.slice none 0 0)) (.nil)))) (.cons (.vec 32 1 cU (List.replicate 32 0)) (.cons (.sc (.int .i64 0)) (.nil))))) }
theorem ty63:TyOk Try.prog 63 r63:=mT Try.underlying63
abbrev r64:TyR:=u0
theorem ty64:TyOk Try.prog 64 r64:=mT Try.underlying64
abbrev r65:TyR:=u0
theorem ty65:TyOk Try.prog 65 r65:=mT Try.underlying65
abbrev r66:TyR:=u0
theorem ty66:TyOk Try.prog 66 r66:=mT Try.underlying66
abbrev r68:TyR:=u0
theorem ty68:TyOk Try.prog 68 r68:=mT Try.underlying68
abbrev r69:TyR:=u0
theorem ty69:TyOk Try.prog 69 r69:=mT Try.underlying69
abbrev r71:TyR:=u0
theorem ty71:TyOk Try.prog 71 r71:=mT Try.underlying71
abbrev r72:TyR:=u0
theorem ty72:TyOk Try.prog 72 r72:=mT Try.underlying72
abbrev r73:TyR:=u3
theorem ty73:TyOk Try.prog 73 r73:=mT Try.underlying73
abbrev r74:TyR:=u3
theorem ty74:TyOk Try.prog 74 r74:=mT Try.underlying74
abbrev r75:TyR:=u0
theorem ty75:TyOk Try.prog 75 r75:=mT Try.underlying75
abbrev r76:TyR:=u0
theorem ty76:TyOk Try.prog 76 r76:=mT Try.underlying76
abbrev r77:TyR:=u0
theorem ty77:TyOk Try.prog 77 r77:=mT Try.underlying77
abbrev r78:TyR:=u0
theorem ty78:TyOk Try.prog 78 r78:=mT Try.underlying78
abbrev r79:TyR:=u0
theorem ty79:TyOk Try.prog 79 r79:=mT Try.underlying79
abbrev r80:TyR := { desc :=.slice 39,size:=1,bytes:=24,zero :=.sc (.slice none 0 0) }
theorem ty80:TyOk Try.prog 80 r80:=mT Try.underlying80
abbrev r81:TyR := { desc :=.array 4 28,size:=4,bytes:=32,zero :=.cons (.sc (.int .i64 0)) (.cons (.sc (.int .i64 0)) (.cons (.sc (.int .i64 0)) (.cons (.sc (.int .i64 0)) (.nil)))) }
theorem ty81:TyOk Try.prog 81 r81:=mT Try.underlying81
abbrev r82:TyR:=u0
theorem ty82:TyOk Try.prog 82 r82:=mT Try.underlying82
abbrev r83:TyR:=u0
theorem ty83:TyOk Try.prog 83 r83:=mT Try.underlying83
abbrev r84:TyR:=u0
theorem ty84:TyOk Try.prog 84 r84:=mT Try.underlying84
abbrev r85:TyR:=u0
theorem ty85:TyOk Try.prog 85 r85:=mT Try.underlying85
abbrev r86:TyR := { desc :=.slice 28,size:=1,bytes:=24,zero :=.sc (.slice none 0 0) }
theorem ty86:TyOk Try.prog 86 r86:=mT Try.underlying86
abbrev r87:TyR:=u0
theorem ty87:TyOk Try.prog 87 r87:=mT Try.underlying87
abbrev r89:TyR:=u0
theorem ty89:TyOk Try.prog 89 r89:=mT Try.underlying89
abbrev r90:TyR:=u1
theorem ty90:TyOk Try.prog 90 r90:=mT Try.underlying90
abbrev r91:TyR := { desc :=.struct [(0,90),(1,90)],size:=2,bytes:=16,zero :=.cons (.sc (.map none)) (.cons (.sc (.map none)) (.nil)) }
theorem ty91:TyOk Try.prog 91 r91:=mT Try.underlying91
abbrev r92:TyR := { desc :=.struct [(0,90),(1,90)],size:=2,bytes:=16,zero :=.cons (.sc (.map none)) (.cons (.sc (.map none)) (.nil)) }
theorem ty92:TyOk Try.prog 92 r92:=mT Try.underlying92
abbrev r93:TyR := { desc :=.slice 4,size:=1,bytes:=24,zero :=.sc (.slice none 0 0) }
theorem ty93:TyOk Try.prog 93 r93:=mT Try.underlying93
abbrev r94:TyR:=u0
theorem ty94:TyOk Try.prog 94 r94:=mT Try.underlying94
abbrev r95:TyR:=u0
theorem ty95:TyOk Try.prog 95 r95:=mT Try.underlying95
abbrev r96:TyR:=u0
theorem ty96:TyOk Try.prog 96 r96:=mT Try.underlying96
abbrev r97:TyR:=u2
theorem ty97:TyOk Try.prog 97 r97:=mT Try.underlying97
abbrev r98:TyR := { desc :=.slice 27,size:=1,bytes:=24,zero :=.sc (.slice none 0 0) }
theorem ty98:TyOk Try.prog 98 r98:=mT Try.underlying98
abbrev r99:TyR := { desc :=.struct [(0,3),(1,39),(2,98),(3,98)],size:=4,bytes:=80,zero :=.cons (.sc (.int .i64 0)) (.cons (.sc (.slice none 0 0)) (.cons (.sc (.slice none 0 0)) (.cons (.sc (.slice none 0 0)) (.nil)))) }
theorem ty99:TyOk Try.prog 99 r99:=mT Try.underlying99
abbrev r100:TyR := { desc :=.struct [(0,3),(1,39),(2,98),(3,98)],size:=4,bytes:=80,zero :=.cons (.sc (.int .i64 0)) (.cons (.sc (.slice none 0 0)) (.cons (.sc (.slice none 0 0)) (.cons (.sc (.slice none 0 0)) (.nil)))) }
theorem B6:TyOk Try.prog 100 r100:=mT Try.underlying100
abbrev r101:TyR:=u0
theorem B5:TyOk Try.prog 101 r101:=mT Try.underlying101
abbrev r102:TyR:=u0
theorem B4:TyOk Try.prog 102 r102:=mT Try.underlying102
abbrev r103:TyR:=u0
theorem B3:TyOk Try.prog 103 r103:=mT Try.underlying103
abbrev r104:TyR:=u0
theorem B2:TyOk Try.prog 104 r104:=mT Try.underlying104
abbrev r106:TyR:=u0
theorem B1:TyOk Try.prog 106 r106:=mT Try.underlying106
abbrev r107:TyR:=u0
theorem B0:TyOk Try.prog 107 r107:=mT Try.underlying107
abbrev r108:TyR:=u0
theorem BZ:TyOk Try.prog 108 r108:=mT Try.underlying108
abbrev r109:TyR:=u0
theorem BY:TyOk Try.prog 109 r109:=mT Try.underlying109
abbrev r110:TyR:=u2
theorem BX:TyOk Try.prog 110 r110:=mT Try.underlying110
abbrev r112:TyR:=u0
theorem BW:TyOk Try.prog 112 r112:=mT Try.underlying112
abbrev r113:TyR:=u1
theorem BV:TyOk Try.prog 113 r113:=mT Try.underlying113
abbrev r114:TyR:=u1
theorem BU:TyOk Try.prog 114 r114:=mT Try.underlying114
abbrev r115:TyR:=u1
theorem BS:TyOk Try.prog 115 r115:=mT Try.underlying115
abbrev r116:TyR:=u1
theorem BR:TyOk Try.prog 116 r116:=mT Try.underlying116
abbrev r117:TyR:=u1
theorem BQ:TyOk Try.prog 117 r117:=mT Try.underlying117
abbrev r118:TyR := { desc :=.slice 141,size:=1,bytes:=24,zero :=.sc (.slice none 0 0) }
theorem BP:TyOk Try.prog 118 r118:=mT Try.underlying118
abbrev r119:TyR := { desc :=.slice 142,size:=1,bytes:=24,zero :=.sc (.slice none 0 0) }
theorem BO:TyOk Try.prog 119 r119:=mT Try.underlying119
abbrev r120:TyR := { desc :=.struct [(0,59),(1,3),(2,3),(3,113),(4,114),(5,80),(6,115),(7,115),(8,116),(9,116),(10,117),(11,118),(12,119)],size:=13,bytes:=168,zero :=.cons (.sc (.slice none 0 0)) (.cons (.sc (.int .i64 0)) (.cons (.sc (.int .i64 0)) (.cons (.sc (.map none)) (.cons (.sc (.map none)) (.cons (.sc (.slice none 0 0)) (.cons (.sc (.map none)) (.cons (.sc (.map none)) (.cons (.sc (.map none)) (.cons (.sc (.map none)) (.cons (.sc (.map none)) (.cons (.sc (.slice none 0 0)) (.cons (.sc (.slice none 0 0)) (.nil))))))))))))) }
theorem BN:TyOk Try.prog 120 r120:=mT Try.underlying120
abbrev r121:TyR := { desc :=.struct [(0,59),(1,3),(2,3),(3,113),(4,114),(5,80),(6,115),(7,115),(8,116),(9,116),(10,117),(11,118),(12,119)],size:=13,bytes:=168,zero :=.cons (.sc (.slice none 0 0)) (.cons (.sc (.int .i64 0)) (.cons (.sc (.int .i64 0)) (.cons (.sc (.map none)) (.cons (.sc (.map none)) (.cons (.sc (.slice none 0 0)) (.cons (.sc (.map none)) (.cons (.sc (.map none)) (.cons (.sc (.map none)) (.cons (.sc (.map none)) (.cons (.sc (.map none)) (.cons (.sc (.slice none 0 0)) (.cons (.sc (.slice none 0 0)) (.nil))))))))))))) }
theorem BM:TyOk Try.prog 121 r121:=mT Try.underlying121
abbrev r123:TyR:=u0
theorem BL:TyOk Try.prog 123 r123:=mT Try.underlying123
abbrev r124:TyR:=u0
theorem BJ:TyOk Try.prog 124 r124:=mT Try.underlying124
abbrev r125:TyR:=u0
theorem BI:TyOk Try.prog 125 r125:=mT Try.underlying125
abbrev r127:TyR := { desc :=.int .u64,size:=1,bytes:=8,zero :=.sc (.int .u64 0) }
theorem BH:TyOk Try.prog 127 r127:=mT Try.underlying127
abbrev r128:TyR:=u0
theorem BG:TyOk Try.prog 128 r128:=mT Try.underlying128
abbrev r129:TyR:=u3
theorem BF:TyOk Try.prog 129 r129:=mT Try.underlying129
abbrev r130:TyR:=u3
theorem BE:TyOk Try.prog 130 r130:=mT Try.underlying130
abbrev r131:TyR:=u0
theorem BD:TyOk Try.prog 131 r131:=mT Try.underlying131
abbrev r132:TyR:=u0
theorem BC:TyOk Try.prog 132 r132:=mT Try.underlying132
abbrev r133:TyR:=u2
theorem BB:TyOk Try.prog 133 r133:=mT Try.underlying133
abbrev r134:TyR:=u0
theorem BA:TyOk Try.prog 134 r134:=mT Try.underlying134
abbrev r135:TyR:=u0
theorem Bz:TyOk Try.prog 135 r135:=mT Try.underlying135
abbrev r136:TyR:=u0
theorem By:TyOk Try.prog 136 r136:=mT Try.underlying136
abbrev r137:TyR:=u0
theorem Bx:TyOk Try.prog 137 r137:=mT Try.underlying137
abbrev r138:TyR:=u0
theorem Bw:TyOk Try.prog 138 r138:=mT Try.underlying138
abbrev r139:TyR:=u0
theorem Bv:TyOk Try.prog 139 r139:=mT Try.underlying139
abbrev r140:TyR := { desc :=.struct [(0,3),(1,9),(2,9),(3,9)],size:=4,bytes:=56,zero :=.cons (.sc (.int .i64 0)) (.cons (.sc (.string ⟨#[]⟩)) (.cons (.sc (.string ⟨#[]⟩)) (.cons (.sc (.string ⟨#[]⟩)) (.nil)))) }
theorem Bu:TyOk Try.prog 140 r140:=mT Try.underlying140
abbrev r141:TyR := { desc :=.struct [(0,3),(1,9),(2,9),(3,9)],size:=4,bytes:=56,zero :=.cons (.sc (.int .i64 0)) (.cons (.sc (.string ⟨#[]⟩)) (.cons (.sc (.string ⟨#[]⟩)) (.cons (.sc (.string ⟨#[]⟩)) (.nil)))) }
theorem Bt:TyOk Try.prog 141 r141:=mT Try.underlying141
abbrev r142:TyR := { desc :=.slice 148,size:=1,bytes:=24,zero :=.sc (.slice none 0 0) }
theorem Bs:TyOk Try.prog 142 r142:=mT Try.underlying142
abbrev r143:TyR:=u0
theorem Bq:TyOk Try.prog 143 r143:=mT Try.underlying143
abbrev r144:TyR:=u0
theorem Bp:TyOk Try.prog 144 r144:=mT Try.underlying144
abbrev r145:TyR:=u0
theorem Bo:TyOk Try.prog 145 r145:=mT Try.underlying145
abbrev r146:TyR:=u0
theorem Bn:TyOk Try.prog 146 r146:=mT Try.underlying146
abbrev r147:TyR := { desc :=.struct [(0,3),(1,3)],size:=2,bytes:=16,zero :=.cons (.sc (.int .i64 0)) (.cons (.sc (.int .i64 0)) (.nil)) }
theorem Bm:TyOk Try.prog 147 r147:=mT Try.underlying147
abbrev r148:TyR := { desc :=.struct [(0,3),(1,3)],size:=2,bytes:=16,zero :=.cons (.sc (.int .i64 0)) (.cons (.sc (.int .i64 0)) (.nil)) }
theorem Bl:TyOk Try.prog 148 r148:=mT Try.underlying148
abbrev r149:TyR:=u0
theorem Bk:TyOk Try.prog 149 r149:=mT Try.underlying149
abbrev r150:TyR:=u0
theorem Bj:TyOk Try.prog 150 r150:=mT Try.underlying150
abbrev r151:TyR:=u2
theorem Bi:TyOk Try.prog 151 r151:=mT Try.underlying151
abbrev r153:TyR:=u0
theorem Bh:TyOk Try.prog 153 r153:=mT Try.underlying153
abbrev r154:TyR:=u0
theorem Bg:TyOk Try.prog 154 r154:=mT Try.underlying154
abbrev r155:TyR := { desc :=.array 8 3,size:=8,bytes:=64,zero :=.cons (.sc (.int .i64 0)) (.cons (.sc (.int .i64 0)) (.cons (.sc (.int .i64 0)) (.cons (.sc (.int .i64 0)) (.cons (.sc (.int .i64 0)) (.cons (.sc (.int .i64 0)) (.cons (.sc (.int .i64 0)) (.cons (.sc (.int .i64 0)) (.nil)))))))) }
theorem Bf:TyOk Try.prog 155 r155:=mT Try.underlying155
abbrev r156:TyR := { desc :=.struct [(0,155),(8,155),(16,3),(17,3),(18,59)],size:=19,bytes:=168,zero :=.cons (.cons (.sc (.int .i64 0)) (.cons (.sc (.int .i64 0)) (.cons (.sc (.int .i64 0)) (.cons (.sc (.int .i64 0)) (.cons (.sc (.int .i64 0)) (.cons (.sc (.int .i64 0)) (.cons (.sc (.int .i64 0)) (.cons (.sc (.int .i64 0)) (.nil))))))))) (.cons (.cons (.sc (.int .i64 0)) (.cons (.sc (.int .i64 0)) (.cons (.sc (.int .i64 0)) (.cons (.sc (.int .i64 0)) (.cons (.sc (.int .i64 0)) (.cons (.sc (.int .i64 0)) (.cons (.sc (.int .i64 0)) (.cons (.sc (.int .i64 0)) (.nil))))))))) (.cons (.sc (.int .i64 0)) (.cons (.sc (.int .i64 0)) (.cons (.sc (.slice none 0 0)) (.nil))))) }
theorem Be:TyOk Try.prog 156 r156:=mT Try.underlying156
abbrev r157:TyR := { desc :=.struct [(0,155),(8,155),(16,3),(17,3),(18,59)],size:=19,bytes:=168,zero :=.cons (.cons (.sc (.int .i64 0)) (.cons (.sc (.int .i64 0)) (.cons (.sc (.int .i64 0)) (.cons (.sc (.int .i64 0)) (.cons (.sc (.int .i64 0)) (.cons (.sc (.int .i64 0)) (.cons (.sc (.int .i64 0)) (.cons (.sc (.int .i64 0)) (.nil))))))))) (.cons (.cons (.sc (.int .i64 0)) (.cons (.sc (.int .i64 0)) (.cons (.sc (.int .i64 0)) (.cons (.sc (.int .i64 0)) (.cons (.sc (.int .i64 0)) (.cons (.sc (.int .i64 0)) (.cons (.sc (.int .i64 0)) (.cons (.sc (.int .i64 0)) (.nil))))))))) (.cons (.sc (.int .i64 0)) (.cons (.sc (.int .i64 0)) (.cons (.sc (.slice none 0 0)) (.nil))))) }
theorem Bc:TyOk Try.prog 157 r157:=mT Try.underlying157
abbrev r158:TyR:=u0
theorem Bb:TyOk Try.prog 158 r158:=mT Try.underlying158
abbrev r159:TyR:=u0
theorem Ba:TyOk Try.prog 159 r159:=mT Try.underlying159
abbrev r160:TyR:=u0
theorem A9:TyOk Try.prog 160 r160:=mT Try.underlying160
abbrev r161:TyR:=u0
theorem A8:TyOk Try.prog 161 r161:=mT Try.underlying161
abbrev r162:TyR:=u0
theorem A7:TyOk Try.prog 162 r162:=mT Try.underlying162
abbrev r163:TyR:=u0
theorem A6:TyOk Try.prog 163 r163:=mT Try.underlying163
abbrev r165:TyR:=u0
theorem A5:TyOk Try.prog 165 r165:=mT Try.underlying165
abbrev r166:TyR:=u0
theorem A4:TyOk Try.prog 166 r166:=mT Try.underlying166
abbrev r167:TyR:=u0
theorem A3:TyOk Try.prog 167 r167:=mT Try.underlying167
abbrev r168:TyR:=u0
theorem A2:TyOk Try.prog 168 r168:=mT Try.underlying168
abbrev r169:TyR:=u0
theorem A1:TyOk Try.prog 169 r169:=mT Try.underlying169
abbrev r170:TyR:=u0
theorem A0:TyOk Try.prog 170 r170:=mT Try.underlying170
abbrev r171:TyR:=u0
theorem AZ:TyOk Try.prog 171 r171:=mT Try.underlying171
abbrev r172:TyR:=u0
theorem AY:TyOk Try.prog 172 r172:=mT Try.underlying172
abbrev r173:TyR:=u2
theorem AX:TyOk Try.prog 173 r173:=mT Try.underlying173
abbrev r174:TyR:=u0
theorem AW:TyOk Try.prog 174 r174:=mT Try.underlying174
abbrev r175:TyR:=u0
theorem AU:TyOk Try.prog 175 r175:=mT Try.underlying175
abbrev r176:TyR:=u0
theorem AT:TyOk Try.prog 176 r176:=mT Try.underlying176
abbrev r179:TyR := { desc :=.array 0 16,size:=0,bytes:=0,zero :=.nil }
theorem AS:TyOk Try.prog 179 r179:=mT Try.underlying179
abbrev r182:TyR:=u0
theorem AR:TyOk Try.prog 182 r182:=mT Try.underlying182
abbrev r183:TyR := { desc :=.int .u32,size:=1,bytes:=4,zero :=.sc (.int .u32 0) }
theorem AQ:TyOk Try.prog 183 r183:=mT Try.underlying183
abbrev r186:TyR:=u0
theorem AP:TyOk Try.prog 186 r186:=mT Try.underlying186
abbrev r187:TyR:=u2
theorem AO:TyOk Try.prog 187 r187:=mT Try.underlying187
abbrev tab:Tab:=[(1,r1),(2,r2),(3,r3),(4,r4),(5,r5),(9,r9),(12,r12),(13,r13),(20,r20),(21,r21),(22,r22),(23,r23),(24,r24),(25,r25),(26,r26),(27,r27),(28,r28),(29,r29),(30,r30),(31,r31),(32,r32),(33,r33),(34,r34),(35,r35),(36,r36),(37,r37),(38,r38),(39,r39),(40,r40),(41,r41),(42,r42),(43,r43),(44,r44),(45,r45),(46,r46),(47,r47),(49,r49),(51,r51),(53,r53),(54,r54),(56,r56),(57,r57),(58,r58),(59,r59),(60,r60),(61,r61),(62,r62),(63,r63),(64,r64),(65,r65),(66,r66),(68,r68),(69,r69),(71,r71),(72,r72),(73,r73),(74,r74),(75,r75),(76,r76),(77,r77),(78,r78),(79,r79),(80,r80),(81,r81),(82,r82),(83,r83),(84,r84),(85,r85),(86,r86),(87,r87),(89,r89),(90,r90),(91,r91),(92,r92),(93,r93),(94,r94),(95,r95),(96,r96),(97,r97),(98,r98),(99,r99),(100,r100),(101,r101),(102,r102),(103,r103),(104,r104),(106,r106),(107,r107),(108,r108),(109,r109),(110,r110),(112,r112),(113,r113),(114,r114),(115,r115),(116,r116),(117,r117),(118,r118),(119,r119),(120,r120),(121,r121),(123,r123),(124,r124),(125,r125),(127,r127),(128,r128),(129,r129),(130,r130),(131,r131),(132,r132),(133,r133),(134,r134),(135,r135),(136,r136),(137,r137),(138,r138),(139,r139),(140,r140),(141,r141),(142,r142),(143,r143),(144,r144),(145,r145),(146,r146),(147,r147),(148,r148),(149,r149),(150,r150),(151,r151),(153,r153),(154,r154),(155,r155),(156,r156),(157,r157),(158,r158),(159,r159),(160,r160),(161,r161),(162,r162),(163,r163),(165,r165),(166,r166),(167,r167),(168,r168),(169,r169),(170,r170),(171,r171),(172,r172),(173,r173),(174,r174),(175,r175),(176,r176),(179,r179),(182,r182),(183,r183),(186,r186),(187,r187)]
theorem aa:ay Try.prog tab :=
 (ay.cons ty1 (ay.cons ty2 (ay.cons ty3 (ay.cons ty4 (ay.cons ty5 (ay.cons ty9 (ay.cons ty12 (ay.cons ty13 (ay.cons ty20 (ay.cons ty21 (ay.cons ty22 (ay.cons ty23 (ay.cons ty24 (ay.cons ty25 (ay.cons ty26 (ay.cons ty27 (ay.cons ty28 (ay.cons ty29 (ay.cons ty30 (ay.cons ty31 (ay.cons ty32 (ay.cons ty33 (ay.cons ty34 (ay.cons ty35 (ay.cons ty36 (ay.cons ty37 (ay.cons ty38 (ay.cons ty39 (ay.cons ty40 (ay.cons ty41 (ay.cons ty42 (ay.cons ty43 (ay.cons ty44 (ay.cons ty45 (ay.cons ty46 (ay.cons ty47 (ay.cons ty49 (ay.cons ty51 (ay.cons ty53 (ay.cons ty54 (ay.cons ty56 (ay.cons ty57 (ay.cons ty58 (ay.cons ty59 (ay.cons ty60 (ay.cons ty61 (ay.cons ty62 (ay.cons ty63 (ay.cons ty64 (ay.cons ty65 (ay.cons ty66 (ay.cons ty68 (ay.cons ty69 (ay.cons ty71 (ay.cons ty72 (ay.cons ty73 (ay.cons ty74 (ay.cons ty75 (ay.cons ty76 (ay.cons ty77 (ay.cons ty78 (ay.cons ty79 (ay.cons ty80 (ay.cons ty81 (ay.cons ty82 (ay.cons ty83 (ay.cons ty84 (ay.cons ty85 (ay.cons ty86 (ay.cons ty87 (ay.cons ty89 (ay.cons ty90 (ay.cons ty91 (ay.cons ty92 (ay.cons ty93 (ay.cons ty94 (ay.cons ty95 (ay.cons ty96 (ay.cons ty97 (ay.cons ty98 (ay.cons ty99 (ay.cons B6 (ay.cons B5 (ay.cons B4 (ay.cons B3 (ay.cons B2 (ay.cons B1 (ay.cons B0 (ay.cons BZ (ay.cons BY (ay.cons BX (ay.cons BW (ay.cons BV (ay.cons BU (ay.cons BS (ay.cons BR (ay.cons BQ (ay.cons BP (ay.cons BO (ay.cons BN (ay.cons BM (ay.cons BL (ay.cons BJ (ay.cons BI (ay.cons BH (ay.cons BG (ay.cons BF (ay.cons BE (ay.cons BD (ay.cons BC (ay.cons BB (ay.cons BA (ay.cons Bz (ay.cons By (ay.cons Bx (ay.cons Bw (ay.cons Bv (ay.cons Bu (ay.cons Bt (ay.cons Bs (ay.cons Bq (ay.cons Bp (ay.cons Bo (ay.cons Bn (ay.cons Bm (ay.cons Bl (ay.cons Bk (ay.cons Bj (ay.cons Bi (ay.cons Bh (ay.cons Bg (ay.cons Bf (ay.cons Be (ay.cons Bc (ay.cons Bb (ay.cons Ba (ay.cons A9 (ay.cons A8 (ay.cons A7 (ay.cons A6 (ay.cons A5 (ay.cons A4 (ay.cons A3 (ay.cons A2 (ay.cons A1 (ay.cons A0 (ay.cons AZ (ay.cons AY (ay.cons AX (ay.cons AW (ay.cons AU (ay.cons AT (ay.cons AS (ay.cons AR (ay.cons AQ (ay.cons AP (ay.cons AO ay.nil)))))))))))))))))))))))))))))))))))))))))))))))))))))))))))))))))))))))))))))))))))))))))))))))))))))))))))))))))))))))))))))))))))))))))))))))))))))))))))))
end Go.Proofs.Ytkehohfgbblokaa
namespace Go.Proofs.Ytkehohfgbblokaa
open Go.Eng
section
variable {sz n : Nat} {env : Env} {h : Upds} {all l : List Oper} {Q : Exit → St → Prop} {y : Code} {id : Nat} {ops : Array Oper} {K : Env → Upds → Nat → Prop} {d : Tmp} {op : Op} {ty : TypeId} {pos : String} {af : Array Edge} {v : AV}
theorem rC (h1:RegS Try.prog all sz l (n+8) ((d,v)::env) h K) (hd:Nat.blt d sz=true:=by exact rfl) (hop:∀K:Option AV→Upds→Prop,K (some v) []→opD tab op (aB env) (aX h) n K:=by exact fun _ h=>h) :
  RegS Try.prog all sz (⟨some d,op,ty,pos,af,none⟩::l) n env h K:=oz hd (an aa hop) h1
theorem rQ (hs:au Try.prog op env h n (some v) []) (h1:RegS Try.prog all sz l (n+8) ((d,v)::env) h K) (hd:Nat.blt d sz=true:=by exact rfl) :
  RegS Try.prog all sz (⟨some d,op,ty,pos,af,none⟩::l) n env h K:=oz hd hs h1
theorem rN {x:Nat×Option Row} (h1:RegS Try.prog all sz l (n+8) ((d,v)::env) (x::h) K) (hd:Nat.blt d sz=true:=by exact rfl) (hop:∀K:Option AV→Upds→Prop,K (some v) [x]→opD tab op (aB env) (aX h) n K:=by exact fun _ h=>h) :
  RegS Try.prog all sz (⟨some d,op,ty,pos,af,none⟩::l) n env h K:=aW (an aa hop) hd h1
theorem nS {b:Code} (h1:WC Try.prog sz b Q env h n):RegS Try.prog all sz [] n env h (RegK (SeqQ Try.prog b Q) sz):=aw (aG h1)
theorem sR (h1:RegS Try.prog ops.toList sz ops.toList n env h (RegK (SeqQ Try.prog y Q) sz)):WC Try.prog sz (.seq (.region id ops false) y) Q env h n:=aS (aj h1)
theorem kS {b:Code} (h1:WC Try.prog sz b Q env h n):WC Try.prog sz .skip (SeqQ Try.prog b Q) env h n:=aN (aG h1)
theorem nQ {b c:Code} (h1:WC Try.prog sz b (SeqQ Try.prog c Q) env h n):RegS Try.prog all sz [] n env h (RegK (SeqQ Try.prog (.seq b c) Q) sz):=nS (aS h1)
theorem qR {c:Code} (h1:RegS Try.prog ops.toList sz ops.toList n env h (RegK (SeqQ Try.prog y (SeqQ Try.prog c Q)) sz)):WC Try.prog sz (.seq (.seq (.region id ops false) y) c) Q env h n:=aS (sR h1)
theorem lf {l:bH} {st st':St} (h1:eM (rho l) (ba st'.heap)=true:=by exact rfl) (h2:st'.sz=st.sz:=by exact rfl) (h3:st'.bs=st.bs:=by exact rfl) (h4:Nat.ble st'.bs st'.next=true:=by exact rfl) (h5:cV st'.bs l=true:=by exact rfl)
  (h6:iZ (rho l) st.env st'.next st'.env:=by exact⟨⟨_,rfl,AVLe.of_eq rfl⟩,rfl,trivial⟩) (h7:fO (rho l) st st'.next st'.heap:=by exact trivial):Le l st st' :=.of h1 h2 h3 h4 h5 h6 h7
theorem nR (h1:RegS Try.prog ops.toList sz ops.toList n env h (RegK (SeqQ Try.prog y Q) sz)):RegS Try.prog all sz [] n env h (RegK (SeqQ Try.prog (.seq (.region id ops false) y) Q) sz):=nS (sR h1)
section
variable {dd : Option Tmp} {j g : Nat} {want b : Bool} {env' : Env}
theorem rO (h1:RegS Try.prog all sz (⟨dd,op,ty,pos,af,none⟩::l) n env h K) (hj:((all[j]?).bind (·.dst))=some g:=by exact rfl) (hb:lk env g=some (.bool b):=by exact rfl) (he:b=want:=by assumption) :
  RegS Try.prog all sz (⟨dd,op,ty,pos,af,some (j,want)⟩::l) n env h K:=wo hj hb he h1
theorem rP (h1:RegS Try.prog all sz (⟨dd,op,ty,pos,af,none⟩::l) n env h K) (hj:((all[j]?).bind (·.dst))=some g:=by exact rfl) (hb:lk env g=some (.bool b):=by exact rfl) (he:b=want:=by exact rfl) :
  RegS Try.prog all sz (⟨dd,op,ty,pos,af,some (j,want)⟩::l) n env h K:=wo hj hb he h1
theorem rS (h1:RegS Try.prog all sz l (n+8) env' h K) (hj:((all[j]?).bind (·.dst))=some g:=by exact rfl) (hb:lk env g=some (.bool b):=by exact rfl) (he:b = !want:=by assumption) (hd:ek dd sz=true:=by exact rfl) (he':putE dd none env=env':=by exact rfl) :
  RegS Try.prog all sz (⟨dd,op,ty,pos,af,some (j,want)⟩::l) n env h K:=qq hj hb he hd he' h1
theorem rT (h1:RegS Try.prog all sz l (n+8) env' h K) (hj:((all[j]?).bind (·.dst))=some g:=by exact rfl) (hb:lk env g=some (.bool b):=by exact rfl) (he:b = !want:=by exact rfl) (hd:ek dd sz=true:=by exact rfl) (he':putE dd none env=env':=by exact rfl) :
  RegS Try.prog all sz (⟨dd,op,ty,pos,af,some (j,want)⟩::l) n env h K:=qq hj hb he hd he' h1
theorem rU (h1:RegS Try.prog all sz l (n+8) env' h K) (hj:((all[j]?).bind (·.dst))=some g:=by exact rfl) (hb:lk env g=some .undef:=by exact rfl) (hd:ek dd sz=true:=by exact rfl) (he':putE dd none env=env':=by exact rfl) :
  RegS Try.prog all sz (⟨dd,op,ty,pos,af,some (j,want)⟩::l) n env h K:=uK hj hb hd he' h1
end
section
variable {t t' e s m : Nat} {x z i : Operand}
theorem iA {re:TyR} {α:Type} {enc:α→D} {xs:List α} {k:IntKind} {m:Int} {el:α} (hx:aB env x=some (.d (.arr s enc xs)):=by exact rfl) (hi:aB env i=some (.int k m):=by exact rfl) (ht:bz tab t=some (.slice e):=by exact rfl) (he:lk tab e=some re:=by exact rfl) (hs:Nat.beq re.size s=true:=by exact rfl)
  (h0:0≤m:=by omega) (hel:xs[m.toNat]?=some el:=by assumption):au Try.prog (.indexAddr t x i) env h n (some (.iptr (enc el))) []:=ao aa ht he hs hx hi h0 hel
theorem iL {y:D} (hx:aB env x=some (.iptr y):=by exact rfl) (hs:bF tab t (.d y)=true:=by exact rfl):au Try.prog (.load t x) env h n (some (.d y)) []:=cI aa hx hs
theorem iB {r:Nat} {p:List Step} {ty:TypeId} {a v:AV} (hx:aB env x=some (.ptr r p):=by exact rfl) (hr:aX h r=some (.box ty a):=by exact rfl) (hv:ASub a p v:=by exact⟨_,rfl,rfl⟩) (hs:bF tab t v=true:=by exact rfl):au Try.prog (.load t x) env h n (some v) []:=aK aa hx hr hv hs
theorem iM {r:Nat} {p:List Step} {ty:TypeId} {a v:AV} (hx:aB env x=some (.ptr r p):=by exact rfl) (hr:aX h r=some (.box ty a):=by exact rfl) (hv:ASub a p v:=by exact rfl) (hs:bF tab t v=true:=by exact rfl):au Try.prog (.load t x) env h n (some v) []:=aK aa hx hr hv hs
theorem iE {α:Type} {enc:α→D} {xs:List α} (hx:aB env x=some (.d (.arr s enc xs)):=by exact rfl) (ht:bz tab t=some (.slice e):=by exact rfl) :
  au Try.prog (.call { callee :=.builtin .len,args := #[x],argTypes := #[t] }) env h n (some (.int .i64 xs.length)) []:=jE aa hx ht
theorem iF {c x y:Operand} {b:Bool} {v:AV} (hc:aB env c=some (.bool b):=by exact rfl) (hb:b=false:=by assumption) (hv:aB env y=some v:=by exact rfl):au Try.prog (.pick c x y) env h n (some v) []:=pI aa hc hb hv
theorem iG {c x y:Operand} {b:Bool} {v:AV} (hc:aB env c=some (.bool b):=by exact rfl) (hb:b=false:=by exact rfl) (hv:aB env y=some v:=by exact rfl):au Try.prog (.pick c x y) env h n (some v) []:=pI aa hc hb hv
theorem iT {c x y:Operand} {b:Bool} {v:AV} (hc:aB env c=some (.bool b):=by exact rfl) (hb:b=true:=by assumption) (hv:aB env x=some v:=by exact rfl):au Try.prog (.pick c x y) env h n (some v) []:=m8 aa hc hb hv
theorem iU {c x y:Operand} {b:Bool} {v:AV} (hc:aB env c=some (.bool b):=by exact rfl) (hb:b=true:=by exact rfl) (hv:aB env x=some v:=by exact rfl):au Try.prog (.pick c x y) env h n (some v) []:=m8 aa hc hb hv
theorem iD {x y:Operand} {t t':TypeId} {a b:Int} (hx:aB env x=some (.int .i64 a):=by exact rfl) (hy:aB env y=some (.int .i64 b):=by exact rfl) (h0 : -9223372036854775808≤a+b:=by omega) (h1:a+b≤9223372036854775807:=by omega) :
  au Try.prog (.binOp .add t x y t') env h n (some (.int .i64 (a+b))) []:=dq aa hx hy (aV h0 h1)
theorem iS {r:TyR} {offs:List (Nat×Nat)} {parts:Array (Nat×Operand)} {q:AV} (ht:lk tab t=some r:=by exact rfl) (hd:r.desc=.struct offs:=by exact rfl) (hq:jo tab offs (aB env) parts.toList (.d r.zero)=some q:=by exact rfl) (hag:q.isAgg=true:=by exact rfl) :
  au Try.prog (.build t parts) env h n (some q) []:=bp aa ht hd hq hag
theorem rW {y:Operand} {r:Nat} {p:List Step} {row row':Row} (h1:RegS Try.prog all sz l (n+8) env ((r,some row')::h) K) (hx:aB env x=some (.ptr r p):=by exact rfl) (hy:aB env y=some v:=by exact rfl) (hr:aX h r=some row:=by exact rfl) (hv:RUpd row p v row':=by exact⟨_,⟨rfl,rfl,rfl⟩,rfl⟩) (hs:bF tab t v=true:=by exact rfl) :
  RegS Try.prog all sz (⟨none,.store t x y,ty,pos,af,none⟩::l) n env h K:=bO (aL aa hx hy hr hv hs) h1
theorem rX {y:Operand} {r:Nat} {p:List Step} {row row':Row} (h1:RegS Try.prog all sz l (n+8) env ((r,some row')::h) K) (hx:aB env x=some (.ptr r p):=by exact rfl) (hy:aB env y=some v:=by exact rfl) (hr:aX h r=some row:=by exact rfl) (hv:RUpd row p v row':=by exact⟨_,⟨_,⟨_,⟨rfl,rfl,rfl⟩,rfl⟩,rfl⟩,rfl⟩) (hs:bF tab t v=true:=by exact rfl) :
  RegS Try.prog all sz (⟨none,.store t x y,ty,pos,af,none⟩::l) n env h K:=bO (aL aa hx hy hr hv hs) h1
end
section
variable {c : Operand} {x y : Code} {b : Bool}
theorem wT (h1:WC Try.prog sz x Q env h n) (hc:aB env c=some (.bool b):=by exact rfl) (hb:b=true:=by assumption):WC Try.prog sz (.cond c x y) Q env h n:=tm hc hb h1
theorem wV (h1:WC Try.prog sz x Q env h n) (hc:aB env c=some (.bool b):=by exact rfl) (hb:b=true:=by exact rfl):WC Try.prog sz (.cond c x y) Q env h n:=tm hc hb h1
theorem wF (h1:WC Try.prog sz y Q env h n) (hc:aB env c=some (.bool b):=by exact rfl) (hb:b=false:=by assumption):WC Try.prog sz (.cond c x y) Q env h n:=qc hc hb h1
theorem wG (h1:WC Try.prog sz y Q env h n) (hc:aB env c=some (.bool b):=by exact rfl) (hb:b=false:=by exact rfl):WC Try.prog sz (.cond c x y) Q env h n:=qc hc hb h1
end
section
variable {acc : List bB}
theorem dC (ks rs:List Nat) (h1:RegD Try.prog all sz l (n+8) ((d,v)::env) h (⟨⟨some d,op,ty,pos,af,none⟩,ks,rs,some v,[]⟩::acc) K) (hd:Nat.blt d sz=true:=by exact rfl) (hop:∀K:Option AV→Upds→Prop,K (some v) []→opD tab op (aB (only ks env)) (aX (only rs h)) n K:=by exact fun _ h=>h) :
  RegD Try.prog all sz (⟨some d,op,ty,pos,af,none⟩::l) n env h acc K:=xu ks rs hd (an aa hop) h1
theorem dQ (ks rs:List Nat) (hs:au Try.prog op (only ks env) (only rs h) n (some v) []) (h1:RegD Try.prog all sz l (n+8) ((d,v)::env) h (⟨⟨some d,op,ty,pos,af,none⟩,ks,rs,some v,[]⟩::acc) K) (hd:Nat.blt d sz=true:=by exact rfl) :
  RegD Try.prog all sz (⟨some d,op,ty,pos,af,none⟩::l) n env h acc K:=xu ks rs hd hs h1
end
end
section
variable {sz n : Nat} {env : Env} {h : Upds} {all l : List Oper} {Q : Exit → St → Prop} {st : St} {b x y c : Code} {id : Nat} {ops : Array Oper} {cc : Operand} {bb : Bool}
theorem zT (h1:Q .ret ⟨env,h,n,sz,64⟩):RegS Try.prog all sz [] n env h (RegK (SeqQ Try.prog .ret Q) sz):=nS (dV h1)
theorem zB (h1:Q .ret st):BlkQ id (SeqQ Try.prog b Q) .ret st:=h1
theorem zC (h1:WC Try.prog sz b Q env h n):BlkQ id (SeqQ Try.prog b Q) .normal ⟨env,h,n,sz,64⟩:=h1
theorem zW (h1:RegS Try.prog ops.toList sz ops.toList n env h (RegK (SeqQ Try.prog y (SeqQ Try.prog c Q)) sz)):RegS Try.prog all sz [] n env h (RegK (SeqQ Try.prog (.seq (.seq (.region id ops false) y) c) Q) sz):=nQ (sR h1)
theorem zS {i:Nat} (h1:RegS Try.prog ops.toList sz ops.toList n env h (RegK (SeqQ Try.prog y (BlkQ i Q)) sz)):WC Try.prog sz (.block i (.seq (.region id ops false) y)) Q env h n:=bn (sR h1)
theorem zP (h1:WC Try.prog sz c (BlkQ id Q) env h n):RegS Try.prog all sz [] n env h (RegK (SeqQ Try.prog (.block id c) Q) sz):=nS (bn h1)
theorem zG (h1:WC Try.prog sz y Q env h n) (hc:aB env cc=some (.bool bb):=by exact rfl) (hb:bb=false:=by assumption):RegS Try.prog all sz [] n env h (RegK (SeqQ Try.prog (.cond cc x y) Q) sz):=nS (wF h1 hc hb)
theorem zI (h1:WC Try.prog sz x Q env h n) (hc:aB env cc=some (.bool bb):=by exact rfl) (hb:bb=true:=by assumption):RegS Try.prog all sz [] n env h (RegK (SeqQ Try.prog (.cond cc x y) Q) sz):=nS (wT h1 hc hb)
theorem zJ (h1:WC Try.prog sz y Q env h n) (hc:aB env cc=some (.bool bb):=by exact rfl) (hb:bb=false:=by exact rfl):RegS Try.prog all sz [] n env h (RegK (SeqQ Try.prog (.cond cc x y) Q) sz):=nS (wG h1 hc hb)
theorem zO (h1:WC Try.prog sz x Q env h n) (hc:aB env cc=some (.bool bb):=by exact rfl) (hb:bb=true:=by exact rfl):RegS Try.prog all sz [] n env h (RegK (SeqQ Try.prog (.cond cc x y) Q) sz):=nS (wV h1 hc hb)
theorem zQ (h1:WC Try.prog sz x (SeqQ Try.prog y Q) env h n):WC Try.prog sz .skip (SeqQ Try.prog (.seq x y) Q) env h n:=kS (aS h1)
theorem zX.{u} {α:Type u} {mk:α→St} {Inv:α→Prop} {μ:α→Nat} {a:α} (h1:WC Try.prog sz b Q env h n):WC Try.prog sz (.exit id) (SeqQ Try.prog y (LoopQ (BlkQ id (SeqQ Try.prog b Q)) mk Inv μ a)) env h n:=bV (db (dY (dj (aG h1))))
variable {K : Env → Upds → Nat → Prop} {d e f : Tmp} {op oq o3 : Op} {ty tz t3 : TypeId} {pos pot p3 : String} {af ag a3 : Array Edge} {v w u : AV}
theorem zD (h1:RegS Try.prog all sz l (n+8+8) ((e,w)::(d,v)::env) h K) (hd:Nat.blt d sz=true:=by exact rfl) (hop:∀K:Option AV→Upds→Prop,K (some v) []→opD tab op (aB env) (aX h) n K:=by exact fun _ h=>h) (he:Nat.blt e sz=true:=by exact rfl) (hoq:∀K:Option AV→Upds→Prop,K (some w) []→opD tab oq (aB ((d,v)::env)) (aX h) (n+8) K:=by exact fun _ h=>h) :
  RegS Try.prog all sz (⟨some d,op,ty,pos,af,none⟩::⟨some e,oq,tz,pot,ag,none⟩::l) n env h K:=rC (rC h1 he hoq) hd hop
theorem zU (h1:RegS Try.prog all sz l (n+8+8+8) ((f,u)::(e,w)::(d,v)::env) h K) (hd:Nat.blt d sz=true:=by exact rfl) (hop:∀K:Option AV→Upds→Prop,K (some v) []→opD tab op (aB env) (aX h) n K:=by exact fun _ h=>h) (he:Nat.blt e sz=true:=by exact rfl) (hoq:∀K:Option AV→Upds→Prop,K (some w) []→opD tab oq (aB ((d,v)::env)) (aX h) (n+8) K:=by exact fun _ h=>h) (hf:Nat.blt f sz=true:=by exact rfl) (ho3:∀K:Option AV→Upds→Prop,K (some u) []→opD tab o3 (aB ((e,w)::(d,v)::env)) (aX h) (n+8+8) K:=by exact fun _ h=>h) :
  RegS Try.prog all sz (⟨some d,op,ty,pos,af,none⟩::⟨some e,oq,tz,pot,ag,none⟩::⟨some f,o3,t3,p3,a3,none⟩::l) n env h K:=rC (zD h1 he hoq hf ho3) hd hop
end
end Go.Proofs.Ytkehohfgbblokaa
namespace Go.Proofs.Ytkehohfgbblokaa
open Go.Eng Go.Plain
set_option maxHeartbeats 32000000
set_option maxRecDepth 20000
abbrev bo (b:Bool):D :=.sc (.bool b)
abbrev i6 (n:Int):D :=.sc (.int .i64 n)
abbrev u8s (n:Int):D :=.sc (.int .u8 n)
abbrev encB (l:List UInt8):D :=.arr 1 cU (byI l)
theorem fD (l:List UInt8):(byI l).length=l.length:=by simp[byI]
theorem uj {l:List UInt8} {j:Nat} {b:UInt8} (h:l[j]?=some b):(byI l)[j]?=some (b.toNat:Int):=by simp[byI,h]
def cr (o:POp):D :=.cons (u8s o.kind) (.cons (i6 o.index) (.cons (encB o.data) .nil))
abbrev encP (p:List POp):D :=.arr 3 cr p
abbrev Co (l:List (List POp)):D :=.arr 1 encP l
def idxF {α:Type} (p:α→Bool) (l:List α):Int:=match l.findIdx? p with
 | some i=>i
 | none => -1
theorem ve {α:Type} {p:α→Bool} {l:List α} {i:Nat} {x:α} (hx:l[i]?=some x) (hp:p x=true) (hn:∀j,j<i→∀y,l[j]?=some y→p y=false):idxF p l=i:=by
 have:l.findIdx? p=some i:=by
  rw[List.findIdx?_eq_some_iff_getElem]
  obtain⟨h1,h2⟩:=List.getElem?_eq_some_iff.1 hx
  refine⟨h1,by rw[h2]; exact hp,fun j hj=>?_⟩
  have:=hn j hj _ (List.getElem?_eq_getElem (by omega))
  simp[this]
 simp[idxF,this]
theorem vf {α:Type} {p:α→Bool} {l:List α} (hn:∀(j:Nat) (y:α),l[j]?=some y→p y=false):idxF p l = -1:=by
 have:l.findIdx? p=none:=by
  rw[List.findIdx?_eq_none_iff]
  intro x hx
  obtain⟨j,hj⟩:=List.mem_iff_getElem?.1 hx
  exact hn j x hj
 simp[idxF,this]
theorem xd {α:Type} (p:α→Bool) (l:List α):decide (0≤idxF p l)=l.any p:=by
 cases h:l.any p with
 | true =>
  have:(l.findIdx? p).isSome=true:=by rw[List.findIdx?_isSome]; exact h
  obtain⟨i,hi⟩:=Option.isSome_iff_exists.1 this
  simp only[idxF,hi]
  exact dT (by omega)
 | false =>
  have:l.findIdx? p=none:=by
   rw[List.findIdx?_eq_none_iff]
   intro x hx
   rw[List.any_eq_false]at h
   simpa using h x hx
  simp only[idxF,this]
  rfl
end Go.Proofs.Ytkehohfgbblokaa
namespace Go.Plain
open Go.Eng Go.Lib
end Go.Plain
namespace Go.Eng
open Go.RowKit
section
variable {P : Program} {T : Tab} {env : Env} {h : Upds} {n : Nat}
end
end Go.Eng
namespace Go.Eng
open Go.RowKit
section
variable {P : Program} {T : Tab} {env : Env} {h : Upds} {n : Nat}
end
end Go.Eng
namespace Go.Proofs.Ytkehohfgbblokaa
open Go.Eng Go.Plain Go.RowKit
set_option maxHeartbeats 32000000
set_option maxRecDepth 20000
def Cx (l:List UInt8):Int:=match Lib.atoiAll l with
 | .ok v=>v
 | .range=>Lib.atoiSat l
 | _=>0
def okA {α:Type} (p:α→Bool) (x:α):AV:=bif p x then .d (.sc .nilIface) else .er
def AF (l:List UInt8):Bool:=match Lib.atoiAll l with
 | .ok _=>true
 | _=>false
def puOk (l:List UInt8):Bool:=match Lib.parseUintB 8 l with
 | .ok _=>true
 | _=>false
def puV (l:List UInt8):Int:=match Lib.parseUintB 8 l with
 | .ok u=>u
 | .range=>255
 | _=>0
def erA (b:Bool):AV:=bif b then .d (.sc .nilIface) else .er
def cutA (l:List UInt8) (c:UInt8):List UInt8×List UInt8×Bool:=match cutL l c with
 | none=>(l,[],false)
 | some (p,q)=>(p,q,true)
end Go.Proofs.Ytkehohfgbblokaa
namespace Go.Proofs.Ytkehohfgbblokaa
open Go.Eng
attribute [local irreducible] WC RegS RegD SeqQ BlkQ ScoQ RegK CutK Sat SatN FnIs LoopQ au OpIs
def bAV (b:Bool) (r:Nat):AV:=match b with
 | true=>.d (.sc nilp)
 | false=>.ptr r []
abbrev rowT (l:List UInt8):Row :=.ds 5 1 false cU (byI l)
end Go.Proofs.Ytkehohfgbblokaa
namespace Go.Eng
open Go.RowKit
section
variable {P : Program} {T : Tab} {env : Env} {h : Upds} {n : Nat}
theorem cm (hT:ay P T) {x y:Operand} {t t':TypeId} {k:IntKind} {a b:Nat} {c:Int} (hx:aB env x=some (.int k a)) (hy:aB env y=some (.int k c)) (hc:c=(b:Int)) (hb:b≠0):au P (.binOp .rem t x y t') env h n (some (.int k ((a % b:Nat):Int))) []:=by
 subst hc
 have:=x9 (P:=P) (h:=h) (n:=n) (t:=t) (t':=t') hT hx hy (by omega:(b:Int)≠0)
 rwa [show ((a:Int).tmod b)=((a % b:Nat):Int) from rfl]at this
end
end Go.Eng
namespace Go.Proofs.Ytkehohfgbblokaa
open Go.Eng Go.Plain
set_option maxHeartbeats 32000000
set_option maxRecDepth 20000
attribute [local irreducible] WC RegS RegD SeqQ BlkQ ScoQ RegK CutK Sat SatN FnIs LoopQ au OpIs
end Go.Proofs.Ytkehohfgbblokaa
namespace Go.Plain
open Go.Eng Go.Lib
def nibV (c:UInt8):Nat:=(indexByte hexD c).toNat
def wC:List UInt8→List Int
 | []=>[]
 | [a]=>[(nibV a:Int)]
 | a::b::l=>((nibV a*16+nibV b:Nat):Int)::wC l
def uX (m:Nat) (s:List UInt8) (i:Nat):List Int:=wC (s.take i)++List.replicate (m-(i+1)/2) 0
end Go.Plain
namespace Go.Proofs.Ytkehohfgbblokaa
open Go.Eng Go.Plain
set_option maxHeartbeats 32000000
set_option maxRecDepth 20000
attribute [local irreducible] WC RegS RegD SeqQ BlkQ ScoQ RegK CutK Sat SatN FnIs LoopQ au OpIs
abbrev unR (o:Option (List UInt8)):AV :=.tup (.acons (.d (encB (o.getD []))) (.acons (.bool o.isSome) .anil))
theorem nil_arr {α:Type} (s:Nat) (enc:α→D):AVLe (.d (.sc nil_)) (.d (.arr s enc [])):=fun σ w X v h=>AVLe.empty_arr s enc σ w X v (AVLe.nil_empty σ w X v h)
end Go.Proofs.Ytkehohfgbblokaa
namespace Go.Plain
open Go.Eng Go.Lib
end Go.Plain
namespace Go.Proofs.Ytkehohfgbblokaa
open Go.Eng Go.Plain
set_option maxHeartbeats 32000000
set_option maxRecDepth 20000
attribute [local irreducible] WC RegS RegD SeqQ BlkQ ScoQ RegK CutK Sat SatN FnIs LoopQ au OpIs
abbrev rowS (l:List (List UInt8)):Row :=.ds 9 1 false strD l
abbrev encWs (x:List (List UInt8)):D :=.arr 1 strD x
abbrev FL (ls:List (List (List UInt8))) (i:Nat):Nat:=(ls.take i).flatten.length
def opV (k i d:List UInt8):POp:=⟨puV k,Cx i,(pu d).getD []⟩
def opOk (k i d:List UInt8):Bool:=(pu d).isSome&&puOk k&&AF i
abbrev opR (o:POp) (b:Bool):AV :=.tup (.acons (.d (cr o)) (.acons (.bool b) .anil))
def wN:POp:=⟨0,0,[]⟩
def opW (w:List (List UInt8)):POp×Bool:=match w with
 | [k,i,d]=>(opV k i d,opOk k i d)
 | _=>(wN,false)
end Go.Proofs.Ytkehohfgbblokaa
namespace Go.Eng
open Go.RowKit
section
variable {P : Program} {T : Tab} {env : Env} {h : Upds} {n : Nat}
theorem sW {t kt et:TypeId} {κ:Type} [DecidableEq κ] {enc:κ→D} {m r:Nat} {x y z:Operand} {k:κ} {l:List (κ×AV)} {v:AV} (K:ey P kt enc m) (ht:P.underlying t=some (.map kt et))
  (hx:aB env x=some (.mapr r)) (hy:aB env y=some (.d (enc k))) (hz:aB env z=some v) (hr:aX h r=some (.mo (mapC enc l))) (hf:cT k l 0=none) :
  au P (.insert t x y z) env h n none [(r,some (.mo (mapC enc (l++[(k,v)]))))]:=.of_comes fun C G st σ w a o ho hA hd hst hn=>by
 have h1:=(aC hst (hA.ev hx)).1
 have h2:=(aC hst (hA.ev hy)).1
 obtain⟨h3,h4⟩:=aC hst (hA.ev hz)
 have hrow:=hA.row _ _ hr
 obtain⟨b,c,hs,hux⟩:=RelV.mapr.1 h1
 obtain⟨b',es,hb1,hb2,hb3,hb4⟩:=hst.rows r _ hrow
 rw[hs]at hb2
 cases hb2
 have hl:=(b8 l _).1 hb4
 have hin:(mapC enc l).within G:=(hst.rowsG r _ hrow).2
 have hfd:=K.found h2 hl
 rw[hf]at hfd
 have hst':=hst.writeObj (o' :=.map (es.push { key:=a.eval y,val:=a.eval z,born:=es.size }) (es.size+1)) (row :=.mo (mapC enc (l++[(k,v)]))) hrow hs hb3 rfl
  ((cq _).2 fun p hp=>by
   rcases List.mem_append.1 hp with hp | hp
   ·exact (cq l).1 hin p hp
   ·rw[List.mem_singleton.1 hp]; exact h4)
  (fun w' ht' hh'=>⟨b,es.push { key:=a.eval y,val:=a.eval z,born:=es.size },fun i e he=>by
   rw[Array.getElem?_push]at he
   split at he
   ·rename_i hi; subst hi; cases he; rfl
   ·exact hb1 i e he,hs,by rw[Array.size_push]; exact hh',(b8 _ _).2 (by
    rw[Array.toList_push]
    exact bL.snoc (RelV.carry (G:=G) ht' trivial h2) (RelV.carry (G:=G) ht' h4 h3) l _ (bL.mono ht' hin hl))⟩)
 refine⟨none,_,.skip,undef, { w with heap:=w.heap.setIfInBounds b (.map (es.push { key:=a.eval y,val:=a.eval z,born:=es.size }) (es.size+1)) },σ,G,⟨rfl,rfl⟩,?_,.inr ⟨rfl,rfl⟩,?_,fun _ h=>h,fun _ h=>.inl h⟩
 ·have hget:(getObj b).run P w=.ok (.map es es.size) w:=by simp[getObj,Sem.run,hb3]
  have hset:=j6 P w b (.map (es.push { key:=a.eval y,val:=a.eval z,born:=es.size }) (es.size+1)) hb3
  simp only[execOp,ho,Instr.mapUpdate,hux,Sem.run_bind,run_underlying ht,hget,Result.andThen_ok,K.check h2,hfd,hset,Sem.run_pure]
 ·rw[St.put_upd]
  exact hst'.set hd (v:=none) (eA _ _ _) trivial
end
end Go.Eng
namespace Go.Proofs.Ytkehohfgbblokaa
open Go.Eng Go.Plain
set_option maxHeartbeats 32000000
set_option maxRecDepth 20000
attribute [local irreducible] WC RegS RegD SeqQ BlkQ ScoQ RegK CutK Sat SatN FnIs LoopQ au OpIs
abbrev fnA (f:Nat):AV :=.fn (.func f) .anil .anil
end Go.Proofs.Ytkehohfgbblokaa
namespace Go.Eng
open Go.RowKit
section
variable {P : Program} {T : Tab} {env : Env} {h : Upds} {n : Nat}
theorem mO (hT:ay P T) {t e:Nat} {re:TyR} {x i j:Operand} {α:Type} {s:Nat} {enc:α→D} {xs:List α} {k k':IntKind} (ht:bz T t=some (.slice e)) (he:lk T e=some re)
  (hx:aB env x=some (.d (.arr s enc xs))) (hi:aB env i=some (.int k xs.length)) (hj:aB env j=some (.int k' xs.length)):au P (.slice t x none (some i) (some j)) env h n (some (.d (.arx s enc xs))) []:=.of_comes fun C G st σ w a o ho hA hdst hst hn=>by
 obtain⟨ud,hud,hdd⟩:=bw hT ht
 cases hdd
 obtain⟨hx1,_⟩:=aC hst (hA.ev hx)
 obtain⟨hi1,_⟩:=RelV.sc.1 (aC hst (hA.ev hi)).1
 obtain⟨hj1,_⟩:=RelV.sc.1 (aC hst (hA.ev hj)).1
 have hsz:=(hT e re he).run_size (P:=P)
 rcases RelV.arr.1 hx1 with ⟨rfl,hv⟩ | ⟨ad,c,hv,hc1,hc2,f,hf⟩
 ·refine .quiet (u :=.slice none 0 0) hst hdst ⟨rfl,rfl⟩ ?_ (RelV.arx.2 (.inl ⟨rfl,_,rfl⟩)) trivial
  simp[execOp,ho,Instr.sliceAt,Instr.slice,hv,hi1,hj1,run_underlying hud,Instr.sliceBounds,Instr.sliceBound,asIntOf,hsz,Sem.run_bind,Sem.run_pure,Result.andThen_ok]
 ·refine .quiet (u :=.slice (some ad) xs.length xs.length) hst hdst ⟨rfl,rfl⟩ ?_ (RelV.arx.2 (.inr ⟨ad,rfl,by omega,f,hf⟩)) trivial
  have hle:(xs.length:Int)≤(c:Int):=by omega
  simp[execOp,ho,Instr.sliceAt,Instr.slice,hv,hi1,hj1,run_underlying hud,Instr.sliceBounds,Instr.sliceBound,asIntOf,hsz,Sem.run_bind,Sem.run_pure,Result.andThen_ok,hc1,Addr.add_zero']
end
end Go.Eng
namespace Go.Proofs.Ytkehohfgbblokaa
open Go.Eng Go.Plain
set_option maxHeartbeats 32000000
set_option maxRecDepth 20000
attribute [local irreducible] WC RegS RegD SeqQ BlkQ ScoQ RegK CutK Sat SatN FnIs LoopQ au OpIs
abbrev xr (p:List POp):D :=.arx 3 cr p
abbrev encXL (l:List (List POp)):D :=.arr 1 xr l
def Bd (l:List (List POp)):Prop:=l.length≤1000000000∧∀p∈l,p.length≤1000000000
def partT (l:List (List POp)) (i:Nat) (p:List POp) (j:Nat):List UInt8:=B7 (l.take i)++(mx++10::opsT (p.take j))
end Go.Proofs.Ytkehohfgbblokaa
namespace Go.Eng
open Go.RowKit
def chM (A:AV):List D→AV
 | []=>.acons A .anil
 | d::l=>.acons (.d d) (chM A l)
theorem tZ {σ:aJ} {w:World} {X:Nat→Prop} {α:Type} {enc:α→D}:∀(xs:List α) (f:Nat→List Value),(∀i (h:i<xs.length),Enc w X (enc xs[i]) (f i))→Rel σ w X (dsAV (xs.map enc)) false (cat f xs.length)
 | [],f,_=>rfl
 | x::xs,f,h=>by
  rw[List.length_cons,Nat.add_comm xs.length 1,fC 1]
  refine⟨f 0,cat (fun i=>f (1+i)) xs.length,by simp only[cat,List.nil_append],h 0 (by simp),?_⟩
  exact tZ xs (fun i=>f (1+i)) fun i hi=>by
   show Enc w X (enc xs[i]) (f (1+i))
   rw[Nat.add_comm 1 i]
   exact h (i+1) (by simpa using hi)
end Go.Eng
namespace Go.Proofs.Ytkehohfgbblokaa
open Go.Eng Go.Plain
set_option maxHeartbeats 32000000
set_option maxRecDepth 20000
attribute [local irreducible] WC RegS RegD SeqQ BlkQ ScoQ RegK CutK Sat SatN FnIs LoopQ au OpIs
def encO:Option (List POp)→D
 | none=>.sc nil_
 | some p=>encP p
abbrev rowP (p:List POp):Row :=.ds 25 3 false cr p
end Go.Proofs.Ytkehohfgbblokaa
namespace Go.Plain
open Go.Eng Go.Lib
end Go.Plain
namespace Go.Proofs.Ytkehohfgbblokaa
open Go.Eng Go.Plain
set_option maxHeartbeats 32000000
set_option maxRecDepth 20000
attribute [local irreducible] WC RegS RegD SeqQ BlkQ ScoQ RegK CutK Sat SatN FnIs LoopQ au OpIs
end Go.Proofs.Ytkehohfgbblokaa
namespace Go.Proofs.Ytkehohfgbblokaa
open Go.Eng Go.Plain
set_option maxHeartbeats 32000000
set_option maxRecDepth 20000
abbrev addA (t:List UInt8):List AV:=[.d (strD t),.ptr 0 [],.ptr 1 []]
end Go.Proofs.Ytkehohfgbblokaa
namespace Go.Proofs.Ytkehohfgbblokaa
open Go.Eng Go.Plain
set_option maxHeartbeats 32000000
set_option maxRecDepth 20000
attribute [local irreducible] WC RegS RegD SeqQ BlkQ ScoQ RegK CutK Sat SatN FnIs LoopQ au OpIs
abbrev parR (l:List (List POp)) (n:Nat) (e:Int):AV :=.tup (.acons (.d (.arx 1 xr l)) (.acons (.int .i64 n) (.acons (.d (i6 e)) .anil)))
theorem io {α:Type} (s:Nat) (enc:α→D):AVLe (.d (.sc nil_)) (.d (.arx s enc [])):=fun σ w X v h=>AVLe.empty_arx s enc σ w X v (AVLe.nil_empty σ w X v h)
def toL:Option (List (List POp)×List POp)→List (List POp)
 | none=>[]
 | some (l,p)=>l++[p]
def enc2:Bool×List POp→D
 | (true,p)=>xr p
 | (false,p)=>encP p
def mkL (L:List (List POp)) (i:Nat):List (Bool×List POp):=(L.take i).map (fun p=>(true,p))++(L.drop i).map (fun p=>(false,p))
def PInv (s0:List UInt8):Option (List (List POp)×List POp)×List UInt8×Nat→Prop
 | (q,s,n)=>sM s (toL q) n=sM s0 [] 1∧chkP (toL q)=0∧OkL (toL q)∧s.length+n≤s0.length+1∧1≤n
end Go.Proofs.Ytkehohfgbblokaa
namespace Go.Proofs.Ytkehohfgbblokaa
open Go.Eng Go.Plain
set_option maxHeartbeats 32000000
set_option maxRecDepth 20000
abbrev br (l:List UInt8):D :=.vec 32 1 cU (byI l)
structure HEv where
 kind:Int
 client:Int
 op:POp
 value:List UInt8
 err:Int
 deriving DecidableEq
structure HEv.Ok (x:HEv):Prop where
 kind:0≤x.kind∧x.kind≤255
 client : -9223372036854775808≤x.client∧x.client≤9223372036854775807
 op:x.op.Ok
 value:x.value.length=32
 err : -9223372036854775808≤x.err∧x.err≤9223372036854775807
def bY (x:HEv):D :=.cons (u8s x.kind) (.cons (i6 x.client) (.cons (cr x.op) (.cons (br x.value) (.cons (i6 x.err) .nil))))
abbrev encH (l:List HEv):D :=.arr 38 bY l
abbrev encHL (l:List (List HEv)):D :=.arr 1 encH l
def zBk:List UInt8:=[0,0,0,0,0,0,0,0,0,0,0,0,0,0,0,0,0,0,0,0,0,0,0,0,0,0,0,0,0,0,0,0]
def zOp:POp:=⟨0,0,[]⟩
structure HOp where
 client:Int
 number:Int
 era:Int
 op:POp
 invoked:Int
 returned:Int
 value:List UInt8
 err:Int
 deriving DecidableEq
def bt (x:HOp):D :=.cons (i6 x.client) (.cons (i6 x.number) (.cons (i6 x.era) (.cons (cr x.op) (.cons (i6 x.invoked) (.cons (i6 x.returned) (.cons (br x.value) (.cons (i6 x.err) .nil)))))))
abbrev cD (l:List HOp):D :=.arr 41 bt l
theorem yQ {a b:List UInt8}:byI a=byI b↔a=b:=by
 constructor
 ·intro h
  induction a generalizing b with
  | nil=>cases b with
   | nil=>rfl
   | cons y b=>simp[byI]at h
  | cons x a ih=>cases b with
   | nil=>simp[byI]at h
   | cons y b =>
    simp only[byI,List.map_cons,List.cons.injEq]at h
    rw[ih h.2,UInt8.toNat_inj.1 (Int.ofNat.inj h.1)]
 ·rintro rfl; rfl
theorem cZ (a b:List UInt8):EqOk Try.prog 2 27 (br a) (br b) (decide (a=b)):=
 (Au aa (P:=Try.prog) Try.underlying27 rfl (fun _=>rfl) rfl (fun _ _=>s3 (P:=Try.prog) Try.underlying5)).cast (decide_eq_decide.2 yQ)
end Go.Proofs.Ytkehohfgbblokaa
namespace Go.Proofs.Ytkehohfgbblokaa
open Go.Eng Go.Plain
set_option maxHeartbeats 32000000
set_option maxRecDepth 20000
attribute [local irreducible] WC RegS RegD SeqQ BlkQ ScoQ RegK CutK Sat SatN FnIs LoopQ au OpIs
def outO (o:POp) (b:Int):Bool:=decide (o.index<0)||decide (b≤o.index)
def badO (o:POp) (b:Int):Bool:=if o.kind=1 then outO o b else if o.kind=2 then outO o b || !decide (o.data.length=32) else !decide (o.kind=3)
theorem y9 (o:POp):decide (((byI o.data).length:Int)=32)=decide (o.data.length=32):=by
 rw[fD]
 by_cases h:o.data.length=32
 ·rw[dT h,dT (by omega)]
 ·rw[dF h,dF (by omega)]
theorem xM (o:POp) (b:Int) (hk:o.kind=1) (c1 c2 c3:Bool) (h1:decide (o.index<0)=c1) (h2:decide (b≤o.index)=c2) (h3:decide (((byI o.data).length:Int)=32)=c3):FnIs Try.prog 38 [.d (cr o),.int .i64 b] [] (.bool (c1||c2)) []:=by
 have hk1:decide (o.kind=1)=true:=dT (by omega)
 refine aE aa Try.func38 rfl rfl rfl ?_
 cases c1 <;> cases c2 <;> cases c3
 ·refine sR<|rN ?_;refine rC<|nR ?_;refine rC ?_;refine rQ iB ?_;refine zD ?_;refine rO ?_;refine rC ?_;refine rO ?_;refine rQ iB ?_;refine rO ?_;refine rC ?_;refine rO ?_;refine rC ?_;refine rQ iF ?_;refine rC<|zW ?_;refine rC ?_;refine rQ iB<|zP<|sR ?_;refine zD ?_;refine zI<|sR ?_;refine zD<|zT<|zB ?_
  simp only[h1,h2]
  exact⟨trivial,[],lf⟩
 ·refine sR<|rN ?_;refine rC<|nR ?_;refine rC ?_;refine rQ iB ?_;refine zD ?_;refine rO ?_;refine rC ?_;refine rO ?_;refine rQ iB ?_;refine rO ?_;refine rC ?_;refine rO ?_;refine rC ?_;refine rQ iF ?_;refine rC<|zW ?_;refine rC ?_;refine rQ iB<|zP<|sR ?_;refine zD ?_;refine zI<|sR ?_;refine zD<|zT<|zB ?_
  simp only[h1,h2]
  exact⟨trivial,[],lf⟩
 ·refine sR<|rN ?_;refine rC<|nR ?_;refine rC ?_;refine rQ iB ?_;refine zD ?_;refine rO ?_;refine rC ?_;refine rO ?_;refine rQ iB ?_;refine rO ?_;refine rC ?_;refine rO ?_;refine rC ?_;refine rQ iF ?_;refine rC<|zW ?_;refine rC ?_;refine rQ iB<|zP<|sR ?_;refine zD ?_;refine zI<|sR ?_;refine zD<|zT<|zB ?_
  simp only[h1,h2]
  exact⟨trivial,[],lf⟩
 ·refine sR<|rN ?_;refine rC<|nR ?_;refine rC ?_;refine rQ iB ?_;refine zD ?_;refine rO ?_;refine rC ?_;refine rO ?_;refine rQ iB ?_;refine rO ?_;refine rC ?_;refine rO ?_;refine rC ?_;refine rQ iF ?_;refine rC<|zW ?_;refine rC ?_;refine rQ iB<|zP<|sR ?_;refine zD ?_;refine zI<|sR ?_;refine zD<|zT<|zB ?_
  simp only[h1,h2]
  exact⟨trivial,[],lf⟩
 ·refine sR<|rN ?_;refine rC<|nR ?_;refine rC ?_;refine rQ iB ?_;refine zD ?_
  iterate 4 refine rS ?_
  refine rQ iT ?_;refine rC<|zW ?_;refine rC ?_;refine rQ iB<|zP<|sR ?_;refine zD ?_;refine zI<|sR ?_;refine zD<|zT<|zB ?_
  simp only[h1,h2]
  exact⟨trivial,[],lf⟩
 ·refine sR<|rN ?_;refine rC<|nR ?_;refine rC ?_;refine rQ iB ?_;refine zD ?_
  iterate 4 refine rS ?_
  refine rQ iT ?_;refine rC<|zW ?_;refine rC ?_;refine rQ iB<|zP<|sR ?_;refine zD ?_;refine zI<|sR ?_;refine zD<|zT<|zB ?_
  simp only[h1,h2]
  exact⟨trivial,[],lf⟩
 ·refine sR<|rN ?_;refine rC<|nR ?_;refine rC ?_;refine rQ iB ?_;refine zD ?_
  iterate 4 refine rS ?_
  refine rQ iT ?_;refine rC<|zW ?_;refine rC ?_;refine rQ iB<|zP<|sR ?_;refine zD ?_;refine zI<|sR ?_;refine zD<|zT<|zB ?_
  simp only[h1,h2]
  exact⟨trivial,[],lf⟩
 ·refine sR<|rN ?_;refine rC<|nR ?_;refine rC ?_;refine rQ iB ?_;refine zD ?_
  iterate 4 refine rS ?_
  refine rQ iT ?_;refine rC<|zW ?_;refine rC ?_;refine rQ iB<|zP<|sR ?_;refine zD ?_;refine zI<|sR ?_;refine zD<|zT<|zB ?_
  simp only[h1,h2]
  exact⟨trivial,[],lf⟩
theorem vE (o:POp) (b:Int) (hk:o.kind=2) (c1 c2 c3:Bool) (h1:decide (o.index<0)=c1) (h2:decide (b≤o.index)=c2) (h3:decide (((byI o.data).length:Int)=32)=c3):FnIs Try.prog 38 [.d (cr o),.int .i64 b] [] (.bool (c1||c2 || !c3)) []:=by
 have hk1:decide (o.kind=1)=false:=dF (by omega)
 have hk2:decide (o.kind=2)=true:=dT (by omega)
 refine aE aa Try.func38 rfl rfl rfl ?_
 cases c1 <;> cases c2 <;> cases c3
 ·refine sR<|rN ?_;refine rC<|nR ?_;refine rC ?_;refine rQ iB ?_;refine zD ?_;refine rO ?_;refine rC ?_;refine rO ?_;refine rQ iB ?_;refine rO ?_;refine rC ?_;refine rO ?_;refine rC ?_;refine rQ iF ?_;refine rC<|zW ?_;refine rC ?_;refine rQ iB<|zP<|sR ?_;refine zD ?_;refine zG<|sR ?_;refine zD ?_;refine zI<|sR ?_;refine zD ?_;refine rO ?_;refine rC ?_;refine rO ?_;refine rQ iB ?_;refine rO ?_;refine rQ iE ?_;refine rO ?_;refine rC ?_;refine rQ iF ?_;refine rC<|zT<|zB ?_
  simp only[h1,h2,h3]
  exact⟨trivial,[],lf⟩
 ·refine sR<|rN ?_;refine rC<|nR ?_;refine rC ?_;refine rQ iB ?_;refine zD ?_;refine rO ?_;refine rC ?_;refine rO ?_;refine rQ iB ?_;refine rO ?_;refine rC ?_;refine rO ?_;refine rC ?_;refine rQ iF ?_;refine rC<|zW ?_;refine rC ?_;refine rQ iB<|zP<|sR ?_;refine zD ?_;refine zG<|sR ?_;refine zD ?_;refine zI<|sR ?_;refine zD ?_;refine rO ?_;refine rC ?_;refine rO ?_;refine rQ iB ?_;refine rO ?_;refine rQ iE ?_;refine rO ?_;refine rC ?_;refine rQ iF ?_;refine rC<|zT<|zB ?_
  simp only[h1,h2,h3]
  exact⟨trivial,[],lf⟩
 ·refine sR<|rN ?_;refine rC<|nR ?_;refine rC ?_;refine rQ iB ?_;refine zD ?_;refine rO ?_;refine rC ?_;refine rO ?_;refine rQ iB ?_;refine rO ?_;refine rC ?_;refine rO ?_;refine rC ?_;refine rQ iF ?_;refine rC<|zW ?_;refine rC ?_;refine rQ iB<|zP<|sR ?_;refine zD ?_;refine zG<|sR ?_;refine zD ?_;refine zI<|sR ?_;refine zD ?_
  iterate 4 refine rS ?_
  refine rQ iT ?_;refine rC<|zT<|zB ?_
  simp only[h1,h2,h3]
  exact⟨trivial,[],lf⟩
 ·refine sR<|rN ?_;refine rC<|nR ?_;refine rC ?_;refine rQ iB ?_;refine zD ?_;refine rO ?_;refine rC ?_;refine rO ?_;refine rQ iB ?_;refine rO ?_;refine rC ?_;refine rO ?_;refine rC ?_;refine rQ iF ?_;refine rC<|zW ?_;refine rC ?_;refine rQ iB<|zP<|sR ?_;refine zD ?_;refine zG<|sR ?_;refine zD ?_;refine zI<|sR ?_;refine zD ?_
  iterate 4 refine rS ?_
  refine rQ iT ?_;refine rC<|zT<|zB ?_
  simp only[h1,h2,h3]
  exact⟨trivial,[],lf⟩
 ·refine sR<|rN ?_;refine rC<|nR ?_;refine rC ?_;refine rQ iB ?_;refine zD ?_
  iterate 4 refine rS ?_
  refine rQ iT ?_;refine rC<|zW ?_;refine rC ?_;refine rQ iB<|zP<|sR ?_;refine zD ?_;refine zG<|sR ?_;refine zD ?_;refine zI<|sR ?_;refine zD ?_
  iterate 4 refine rT ?_
  refine rQ iU ?_;refine rC<|zT<|zB ?_
  simp only[h1,h2,h3]
  exact⟨trivial,[],lf⟩
 ·refine sR<|rN ?_;refine rC<|nR ?_;refine rC ?_;refine rQ iB ?_;refine zD ?_
  iterate 4 refine rS ?_
  refine rQ iT ?_;refine rC<|zW ?_;refine rC ?_;refine rQ iB<|zP<|sR ?_;refine zD ?_;refine zG<|sR ?_;refine zD ?_;refine zI<|sR ?_;refine zD ?_
  iterate 4 refine rT ?_
  refine rQ iU ?_;refine rC<|zT<|zB ?_
  simp only[h1,h2,h3]
  exact⟨trivial,[],lf⟩
 ·refine sR<|rN ?_;refine rC<|nR ?_;refine rC ?_;refine rQ iB ?_;refine zD ?_
  iterate 4 refine rS ?_
  refine rQ iT ?_;refine rC<|zW ?_;refine rC ?_;refine rQ iB<|zP<|sR ?_;refine zD ?_;refine zG<|sR ?_;refine zD ?_;refine zI<|sR ?_;refine zD ?_
  iterate 4 refine rT ?_
  refine rQ iU ?_;refine rC<|zT<|zB ?_
  simp only[h1,h2,h3]
  exact⟨trivial,[],lf⟩
 ·refine sR<|rN ?_;refine rC<|nR ?_;refine rC ?_;refine rQ iB ?_;refine zD ?_
  iterate 4 refine rS ?_
  refine rQ iT ?_;refine rC<|zW ?_;refine rC ?_;refine rQ iB<|zP<|sR ?_;refine zD ?_;refine zG<|sR ?_;refine zD ?_;refine zI<|sR ?_;refine zD ?_
  iterate 4 refine rT ?_
  refine rQ iU ?_;refine rC<|zT<|zB ?_
  simp only[h1,h2,h3]
  exact⟨trivial,[],lf⟩
theorem vF (o:POp) (b:Int) (hk1:¬o.kind=1) (hk2:¬o.kind=2) (c1 c2:Bool) (h1:decide (o.index<0)=c1) (h2:decide (b≤o.index)=c2):FnIs Try.prog 38 [.d (cr o),.int .i64 b] [] (.bool (!decide (o.kind=3))) []:=by
 have hk1:decide (o.kind=1)=false:=dF (by omega)
 have hk2:decide (o.kind=2)=false:=dF (by omega)
 refine aE aa Try.func38 rfl rfl rfl ?_
 cases c1 <;> cases c2
 ·refine sR<|rN ?_;refine rC<|nR ?_;refine rC ?_;refine rQ iB ?_;refine zD ?_;refine rO ?_;refine rC ?_;refine rO ?_;refine rQ iB ?_;refine rO ?_;refine rC ?_;refine rO ?_;refine rC ?_;refine rQ iF ?_;refine rC<|zW ?_;refine rC ?_;refine rQ iB<|zP<|sR ?_;refine zD ?_;refine zG<|sR ?_;refine zD ?_;refine zG<|aN<|zC<|sR ?_;refine rC ?_;refine rQ iB ?_;refine zD<|zT ?_
  exact⟨trivial,[],lf⟩
 ·refine sR<|rN ?_;refine rC<|nR ?_;refine rC ?_;refine rQ iB ?_;refine zD ?_;refine rO ?_;refine rC ?_;refine rO ?_;refine rQ iB ?_;refine rO ?_;refine rC ?_;refine rO ?_;refine rC ?_;refine rQ iF ?_;refine rC<|zW ?_;refine rC ?_;refine rQ iB<|zP<|sR ?_;refine zD ?_;refine zG<|sR ?_;refine zD ?_;refine zG<|aN<|zC<|sR ?_;refine rC ?_;refine rQ iB ?_;refine zD<|zT ?_
  exact⟨trivial,[],lf⟩
 ·refine sR<|rN ?_;refine rC<|nR ?_;refine rC ?_;refine rQ iB ?_;refine zD ?_
  iterate 4 refine rS ?_
  refine rQ iT ?_;refine rC<|zW ?_;refine rC ?_;refine rQ iB<|zP<|sR ?_;refine zD ?_;refine zG<|sR ?_;refine zD ?_;refine zG<|aN<|zC<|sR ?_;refine rC ?_;refine rQ iB ?_;refine zD<|zT ?_
  exact⟨trivial,[],lf⟩
 ·refine sR<|rN ?_;refine rC<|nR ?_;refine rC ?_;refine rQ iB ?_;refine zD ?_
  iterate 4 refine rS ?_
  refine rQ iT ?_;refine rC<|zW ?_;refine rC ?_;refine rQ iB<|zP<|sR ?_;refine zD ?_;refine zG<|sR ?_;refine zD ?_;refine zG<|aN<|zC<|sR ?_;refine rC ?_;refine rQ iB ?_;refine zD<|zT ?_
  exact⟨trivial,[],lf⟩
theorem AE (o:POp) (b:Int):FnIs Try.prog 38 [.d (cr o),.int .i64 b] [] (.bool (badO o b)) []:=by
 by_cases k1:o.kind=1
 ·have:=xM o b k1 _ _ _ rfl rfl rfl
  rwa [show badO o b=(decide (o.index<0)||decide (b≤o.index)) by rw[badO,if_pos k1,outO]]
 ·by_cases k2:o.kind=2
  ·have:=vE o b k2 _ _ _ rfl rfl rfl
   rwa [show badO o b=(decide (o.index<0)||decide (b≤o.index) || !decide (((byI o.data).length:Int)=32)) by rw[badO,if_neg k1,if_pos k2,outO,y9]]
  ·have:=vF o b k1 k2 _ _ rfl rfl
   rwa [show badO o b = !decide (o.kind=3) by rw[badO,if_neg k1,if_neg k2]]
def preO (l:List (List POp)) (i:Nat) (p:List POp) (j:Nat):List POp:=(l.take i).flatten++p.take j
def cK (k:Int) (l:List POp):Nat:=l.countP fun o=>decide (o.kind=k)
def cO (l:List POp):Nat:=l.countP fun o => !decide (o.kind=1) && !decide (o.kind=2) && !decide (o.kind=3)
def CL (l:List (List POp)):Prop:=l.length≤12∧l.flatten.length≤200∧∀p∈l,p.length≤66∧∀o∈p,o.data.length≤70
def CG (l:List (List POp)):Bool:=decide (l.length≤12)&&decide (l.flatten.length≤200)&&l.all fun p=>decide (p.length≤66)&&p.all fun o=>decide (o.data.length≤70)
abbrev r01 (b:Bool):AV :=.d (i6 (if b=true then 1 else 0))
theorem uO (o:POp) (b:Int) (hk:o.kind=1) (c1 c2 c3:Bool) (h1:decide (0≤o.index) = !c1) (h2:decide (o.index<b) = !c2) (h3:decide (((byI o.data).length:Int)=32)=c3):FnIs Try.prog 34 [.d (cr o),.int .i64 b] [] (r01 (c1||c2)) []:=by
 have hk3:decide (o.kind=3)=false:=dF (by omega)
 have hk1:decide (o.kind=1)=true:=dT (by omega)
 refine aE aa Try.func34 rfl rfl rfl ?_
 cases c1 <;> cases c2 <;> cases c3
 ·refine sR<|rN ?_;refine rC<|zW ?_;refine rC ?_;refine rQ iB<|zP<|sR ?_;refine zD ?_;refine zG<|qR ?_;refine zD ?_;refine zI<|kS ?_;refine wT<|sR ?_;refine rC ?_;refine rQ iB ?_;refine zD ?_;refine rO ?_;refine rC ?_;refine rO ?_;refine rQ iB ?_;refine rO ?_;refine rC ?_;refine rO ?_;refine rC ?_;refine rQ iT ?_;refine rC ?_;refine rO ?_;refine rC ?_;refine rO ?_;refine rQ iB ?_;refine rO ?_;refine rC ?_;refine rO ?_;refine rC ?_;iterate 4 refine rS ?_
  refine rO ?_;iterate 2 refine rQ iT ?_
  refine zO<|sR ?_;refine rC<|zT<|zB ?_
  exact⟨trivial,[],lf⟩
 ·refine sR<|rN ?_;refine rC<|zW ?_;refine rC ?_;refine rQ iB<|zP<|sR ?_;refine zD ?_;refine zG<|qR ?_;refine zD ?_;refine zI<|kS ?_;refine wT<|sR ?_;refine rC ?_;refine rQ iB ?_;refine zD ?_;refine rO ?_;refine rC ?_;refine rO ?_;refine rQ iB ?_;refine rO ?_;refine rC ?_;refine rO ?_;refine rC ?_;refine rQ iT ?_;refine rC ?_;refine rO ?_;refine rC ?_;refine rO ?_;refine rQ iB ?_;refine rO ?_;refine rC ?_;refine rO ?_;refine rC ?_;iterate 4 refine rS ?_
  refine rO ?_;iterate 2 refine rQ iT ?_
  refine zO<|sR ?_;refine rC<|zT<|zB ?_
  exact⟨trivial,[],lf⟩
 ·refine sR<|rN ?_;refine rC<|zW ?_;refine rC ?_;refine rQ iB<|zP<|sR ?_;refine zD ?_;refine zG<|qR ?_;refine zD ?_;refine zI<|kS ?_;refine wT<|sR ?_;refine rC ?_;refine rQ iB ?_;refine zD ?_;refine rO ?_;refine rC ?_;refine rO ?_;refine rQ iB ?_;refine rO ?_;refine rC ?_;refine rO ?_;refine rC ?_;refine rQ iT ?_;refine rC ?_;iterate 4 refine rS ?_
  iterate 4 refine rU ?_
  refine rS ?_;refine rQ iF ?_;refine zJ<|aN<|zC<|sR ?_;refine rC<|zT ?_
  exact⟨trivial,[],lf⟩
 ·refine sR<|rN ?_;refine rC<|zW ?_;refine rC ?_;refine rQ iB<|zP<|sR ?_;refine zD ?_;refine zG<|qR ?_;refine zD ?_;refine zI<|kS ?_;refine wT<|sR ?_;refine rC ?_;refine rQ iB ?_;refine zD ?_;refine rO ?_;refine rC ?_;refine rO ?_;refine rQ iB ?_;refine rO ?_;refine rC ?_;refine rO ?_;refine rC ?_;refine rQ iT ?_;refine rC ?_;iterate 4 refine rS ?_
  iterate 4 refine rU ?_
  refine rS ?_;refine rQ iF ?_;refine zJ<|aN<|zC<|sR ?_;refine rC<|zT ?_
  exact⟨trivial,[],lf⟩
 ·refine sR<|rN ?_;refine rC<|zW ?_;refine rC ?_;refine rQ iB<|zP<|sR ?_;refine zD ?_;refine zG<|qR ?_;refine zD ?_;refine zI<|kS ?_;refine wT<|sR ?_;refine rC ?_;refine rQ iB ?_;refine zD ?_
  iterate 4 refine rS ?_
  refine rQ iF ?_;refine rC ?_;iterate 4 refine rT ?_
  iterate 4 refine rU ?_
  refine rT ?_;refine rQ iG ?_;refine zJ<|aN<|zC<|sR ?_;refine rC<|zT ?_
  exact⟨trivial,[],lf⟩
 ·refine sR<|rN ?_;refine rC<|zW ?_;refine rC ?_;refine rQ iB<|zP<|sR ?_;refine zD ?_;refine zG<|qR ?_;refine zD ?_;refine zI<|kS ?_;refine wT<|sR ?_;refine rC ?_;refine rQ iB ?_;refine zD ?_
  iterate 4 refine rS ?_
  refine rQ iF ?_;refine rC ?_;iterate 4 refine rT ?_
  iterate 4 refine rU ?_
  refine rT ?_;refine rQ iG ?_;refine zJ<|aN<|zC<|sR ?_;refine rC<|zT ?_
  exact⟨trivial,[],lf⟩
 ·refine sR<|rN ?_;refine rC<|zW ?_;refine rC ?_;refine rQ iB<|zP<|sR ?_;refine zD ?_;refine zG<|qR ?_;refine zD ?_;refine zI<|kS ?_;refine wT<|sR ?_;refine rC ?_;refine rQ iB ?_;refine zD ?_
  iterate 4 refine rS ?_
  refine rQ iF ?_;refine rC ?_;iterate 4 refine rT ?_
  iterate 4 refine rU ?_
  refine rT ?_;refine rQ iG ?_;refine zJ<|aN<|zC<|sR ?_;refine rC<|zT ?_
  exact⟨trivial,[],lf⟩
 ·refine sR<|rN ?_;refine rC<|zW ?_;refine rC ?_;refine rQ iB<|zP<|sR ?_;refine zD ?_;refine zG<|qR ?_;refine zD ?_;refine zI<|kS ?_;refine wT<|sR ?_;refine rC ?_;refine rQ iB ?_;refine zD ?_
  iterate 4 refine rS ?_
  refine rQ iF ?_;refine rC ?_;iterate 4 refine rT ?_
  iterate 4 refine rU ?_
  refine rT ?_;refine rQ iG ?_;refine zJ<|aN<|zC<|sR ?_;refine rC<|zT ?_
  exact⟨trivial,[],lf⟩
theorem sE (o:POp) (b:Int) (hk:o.kind=2) (c1 c2 c3:Bool) (h1:decide (0≤o.index) = !c1) (h2:decide (o.index<b) = !c2) (h3:decide (((byI o.data).length:Int)=32)=c3):FnIs Try.prog 34 [.d (cr o),.int .i64 b] [] (r01 (c1||c2 || !c3)) []:=by
 have hk3:decide (o.kind=3)=false:=dF (by omega)
 have hk1:decide (o.kind=1)=false:=dF (by omega)
 have hk2:decide (o.kind=2)=true:=dT (by omega)
 refine aE aa Try.func34 rfl rfl rfl ?_
 cases c1 <;> cases c2 <;> cases c3
 ·refine sR<|rN ?_;refine rC<|zW ?_;refine rC ?_;refine rQ iB<|zP<|sR ?_;refine zD ?_;refine zG<|qR ?_;refine zD ?_;refine zG<|aj ?_;refine zD ?_;refine zI<|sR ?_;refine rC ?_;refine rQ iB ?_;refine zD ?_;refine rO ?_;refine rC ?_;refine rO ?_;refine rQ iB ?_;refine rO ?_;refine rC ?_;refine rO ?_;refine rC ?_;refine rQ iT ?_;refine rC ?_;refine rO ?_;refine rC ?_;refine rO ?_;refine rQ iB ?_;refine rO ?_;refine rC ?_;refine rO ?_;refine rC ?_;refine rO ?_;refine rC ?_;refine rO ?_;refine rQ iB ?_;refine rO ?_;refine rQ iE ?_;refine rO ?_;refine rC ?_;refine rO ?_;refine rQ iF ?_;refine rQ iT ?_;refine zG<|aN<|zC<|sR ?_;refine rC<|zT ?_
  exact⟨trivial,[],lf⟩
 ·refine sR<|rN ?_;refine rC<|zW ?_;refine rC ?_;refine rQ iB<|zP<|sR ?_;refine zD ?_;refine zG<|qR ?_;refine zD ?_;refine zG<|aj ?_;refine zD ?_;refine zI<|sR ?_;refine rC ?_;refine rQ iB ?_;refine zD ?_;refine rO ?_;refine rC ?_;refine rO ?_;refine rQ iB ?_;refine rO ?_;refine rC ?_;refine rO ?_;refine rC ?_;refine rQ iT ?_;refine rC ?_;refine rO ?_;refine rC ?_;refine rO ?_;refine rQ iB ?_;refine rO ?_;refine rC ?_;refine rO ?_;refine rC ?_;refine rO ?_;refine rC ?_;refine rO ?_;refine rQ iB ?_;refine rO ?_;refine rQ iE ?_;refine rO ?_;refine rC ?_;refine rO ?_;refine rQ iF ?_;refine rQ iT ?_;refine zI<|sR ?_;refine rC<|zT<|nP<|bA ?_
  exact⟨trivial,[],lf⟩
 ·refine sR<|rN ?_;refine rC<|zW ?_;refine rC ?_;refine rQ iB<|zP<|sR ?_;refine zD ?_;refine zG<|qR ?_;refine zD ?_;refine zG<|aj ?_;refine zD ?_;refine zI<|sR ?_;refine rC ?_;refine rQ iB ?_;refine zD ?_;refine rO ?_;refine rC ?_;refine rO ?_;refine rQ iB ?_;refine rO ?_;refine rC ?_;refine rO ?_;refine rC ?_;refine rQ iT ?_;refine rC ?_;iterate 4 refine rS ?_
  iterate 4 refine rU ?_
  refine rS ?_;refine rQ iF ?_;refine zJ<|aN<|zC<|sR ?_;refine rC<|zT ?_
  exact⟨trivial,[],lf⟩
 ·refine sR<|rN ?_;refine rC<|zW ?_;refine rC ?_;refine rQ iB<|zP<|sR ?_;refine zD ?_;refine zG<|qR ?_;refine zD ?_;refine zG<|aj ?_;refine zD ?_;refine zI<|sR ?_;refine rC ?_;refine rQ iB ?_;refine zD ?_;refine rO ?_;refine rC ?_;refine rO ?_;refine rQ iB ?_;refine rO ?_;refine rC ?_;refine rO ?_;refine rC ?_;refine rQ iT ?_;refine rC ?_;iterate 4 refine rS ?_
  iterate 4 refine rU ?_
  refine rS ?_;refine rQ iF ?_;refine zJ<|aN<|zC<|sR ?_;refine rC<|zT ?_
  exact⟨trivial,[],lf⟩
 ·refine sR<|rN ?_;refine rC<|zW ?_;refine rC ?_;refine rQ iB<|zP<|sR ?_;refine zD ?_;refine zG<|qR ?_;refine zD ?_;refine zG<|aj ?_;refine zD ?_;refine zI<|sR ?_;refine rC ?_;refine rQ iB ?_;refine zD ?_
  iterate 4 refine rS ?_
  refine rQ iF ?_;refine rC ?_;iterate 4 refine rT ?_
  iterate 4 refine rU ?_
  refine rT ?_;refine rQ iG ?_;refine zJ<|aN<|zC<|sR ?_;refine rC<|zT ?_
  exact⟨trivial,[],lf⟩
 ·refine sR<|rN ?_;refine rC<|zW ?_;refine rC ?_;refine rQ iB<|zP<|sR ?_;refine zD ?_;refine zG<|qR ?_;refine zD ?_;refine zG<|aj ?_;refine zD ?_;refine zI<|sR ?_;refine rC ?_;refine rQ iB ?_;refine zD ?_
  iterate 4 refine rS ?_
  refine rQ iF ?_;refine rC ?_;iterate 4 refine rT ?_
  iterate 4 refine rU ?_
  refine rT ?_;refine rQ iG ?_;refine zJ<|aN<|zC<|sR ?_;refine rC<|zT ?_
  exact⟨trivial,[],lf⟩
 ·refine sR<|rN ?_;refine rC<|zW ?_;refine rC ?_;refine rQ iB<|zP<|sR ?_;refine zD ?_;refine zG<|qR ?_;refine zD ?_;refine zG<|aj ?_;refine zD ?_;refine zI<|sR ?_;refine rC ?_;refine rQ iB ?_;refine zD ?_
  iterate 4 refine rS ?_
  refine rQ iF ?_;refine rC ?_;iterate 4 refine rT ?_
  iterate 4 refine rU ?_
  refine rT ?_;refine rQ iG ?_;refine zJ<|aN<|zC<|sR ?_;refine rC<|zT ?_
  exact⟨trivial,[],lf⟩
 ·refine sR<|rN ?_;refine rC<|zW ?_;refine rC ?_;refine rQ iB<|zP<|sR ?_;refine zD ?_;refine zG<|qR ?_;refine zD ?_;refine zG<|aj ?_;refine zD ?_;refine zI<|sR ?_;refine rC ?_;refine rQ iB ?_;refine zD ?_
  iterate 4 refine rS ?_
  refine rQ iF ?_;refine rC ?_;iterate 4 refine rT ?_
  iterate 4 refine rU ?_
  refine rT ?_;refine rQ iG ?_;refine zJ<|aN<|zC<|sR ?_;refine rC<|zT ?_
  exact⟨trivial,[],lf⟩
theorem sG (o:POp) (b:Int) (hk:o.kind=3):FnIs Try.prog 34 [.d (cr o),.int .i64 b] [] (r01 false) []:=by
 have hk3:decide (o.kind=3)=true:=dT (by omega)
 refine aE aa Try.func34 rfl rfl rfl ?_;refine sR<|rN ?_;refine rC<|zW ?_;refine rC ?_;refine rQ iB<|zP<|sR ?_;refine zD ?_;refine zI<|sR ?_;refine rC<|zT<|zB ?_
 exact⟨trivial,[],lf⟩
theorem sF (o:POp) (b:Int) (hk1:¬o.kind=1) (hk2:¬o.kind=2) (hk3:¬o.kind=3):FnIs Try.prog 34 [.d (cr o),.int .i64 b] [] (r01 true) []:=by
 have hk3:decide (o.kind=3)=false:=dF (by omega)
 have hk1:decide (o.kind=1)=false:=dF (by omega)
 have hk2:decide (o.kind=2)=false:=dF (by omega)
 refine aE aa Try.func34 rfl rfl rfl ?_;refine sR<|rN ?_;refine rC<|zW ?_;refine rC ?_;refine rQ iB<|zP<|sR ?_;refine zD ?_;refine zG<|qR ?_;refine zD ?_;refine zG<|aj ?_;refine zD ?_;refine zG<|aN<|zC<|sR ?_;refine rC<|zT ?_
 exact⟨trivial,[],lf⟩
theorem pG (o:POp) (b:Int):FnIs Try.prog 34 [.d (cr o),.int .i64 b] [] (r01 (badO o b)) []:=by
 have n1:decide (0≤o.index) = !decide (o.index<0):=by
  by_cases h:o.index<0
  ·rw[dT h,dF (by omega)]; rfl
  ·rw[dF h,dT (by omega)]; rfl
 have n2:decide (o.index<b) = !decide (b≤o.index):=by
  by_cases h:b≤o.index
  ·rw[dT h,dF (by omega)]; rfl
  ·rw[dF h,dT (by omega)]; rfl
 by_cases k1:o.kind=1
 ·have:=uO o b k1 _ _ _ n1 n2 rfl
  rwa [show badO o b=(decide (o.index<0)||decide (b≤o.index)) by rw[badO,if_pos k1,outO]]
 ·by_cases k2:o.kind=2
  ·have:=sE o b k2 _ _ _ n1 n2 rfl
   rwa [show badO o b=(decide (o.index<0)||decide (b≤o.index) || !decide (((byI o.data).length:Int)=32)) by rw[badO,if_neg k1,if_pos k2,outO,y9]]
  ·by_cases k3:o.kind=3
   ·have:=sG o b k3
    rwa [show badO o b=false by rw[badO,if_neg k1,if_neg k2,dT k3]; rfl]
   ·have:=sF o b k1 k2 k3
    rwa [show badO o b=true by rw[badO,if_neg k1,if_neg k2,dF k3]; rfl]
abbrev k4 (l:List POp):D :=.cons (i6 (cK 1 l)) (.cons (i6 (cK 2 l)) (.cons (i6 (cK 3 l)) (.cons (i6 (cO l)) .nil)))
def AN (n:Int) (s:List Int×Bool) (x:Int):List Int×Bool :=
 let t:=if s.2=false∧n≤x then (s.1++[n],true) else s
 (if x=n then t.1 else t.1++[x],t.2)
def wPre (n:Int) (l:List Int):List Int×Bool:=l.foldl (AN n) ([],false)
def AM (l:List Int) (n:Int):List Int:=if (wPre n l).2=true then (wPre n l).1 else (wPre n l).1++[n]
def bi (b:Bool):Int:=if b then 1 else 0
abbrev rowI (l:List Int):Row :=.ds 3 1 false i6 l
end Go.Proofs.Ytkehohfgbblokaa
namespace Go.Proofs.Ytkehohfgbblokaa
open Go.Eng Go.Plain
set_option maxHeartbeats 32000000
set_option maxRecDepth 20000
def uB:Bool→Nat
 | true=>0
 | false=>1
def touB (b:Int) (o:POp):Bool := !decide (o.kind=3) && !badO o b
def touS (b:Int) (acc:List Int) (o:POp):List Int:=if touB b o=true then AM acc o.index else acc
def touL (b:Int) (l:List POp):List Int:=l.foldl (touS b) []
end Go.Proofs.Ytkehohfgbblokaa
namespace Go.Proofs.Ytkehohfgbblokaa
open Go.Eng Go.Plain
set_option maxHeartbeats 32000000
set_option maxRecDepth 20000
attribute [local irreducible] WC RegS RegD SeqQ BlkQ ScoQ RegK CutK Sat SatN FnIs LoopQ au OpIs
end Go.Proofs.Ytkehohfgbblokaa
namespace Go.Eng
open Go.RowKit
theorem Enc.arx_arr {w:World} {X:Nat→Prop} {α:Type} {s:Nat} {enc enc':α→D} {xs:List α} (h:∀x c,Enc w X (enc x) c→Enc w X (enc' x) c):∀cs,Enc w X (.arx s enc xs) cs→Enc w X (.arr s enc' xs) cs:=by
 intro cs hc
 rcases hc with ⟨rfl,a,rfl⟩ | ⟨a,rfl,h1,f,hf⟩
 ·cases a with
  | none=>exact .inl ⟨rfl,rfl⟩
  | some a=>exact .inr ⟨a,0,rfl,Nat.le_refl _,Nat.zero_le _,fun _=>[],fun i hi=>absurd hi (Nat.not_lt_zero _)⟩
 ·exact .inr ⟨a,xs.length,rfl,Nat.le_refl _,h1,f,fun i hi=>⟨h _ _ (hf i hi).1,(hf i hi).2⟩⟩
theorem AVLe.of_enc {x y:D} (hx:x.isAgg=false) (hy:y.isAgg=false) (h:∀(w:World) (X:Nat→Prop) cs,Enc w X x cs→Enc w X y cs):AVLe (.d x) (.d y):=by
 intro σ w X v hv
 unfold RelV at hv ⊢
 rw[if_neg (by simp[AV.isAgg,hx])]at hv
 rw[if_neg (by simp[AV.isAgg,hy])]
 exact h w X _ hv
end Go.Eng
namespace Go.Proofs.Ytkehohfgbblokaa
open Go.Eng Go.Plain
set_option maxHeartbeats 32000000
set_option maxRecDepth 20000
attribute [local irreducible] WC RegS RegD SeqQ BlkQ ScoQ RegK CutK Sat SatN FnIs LoopQ au OpIs
def decD:List UInt8:=[48,49,50,51,52,53,54,55,56,57]
end Go.Proofs.Ytkehohfgbblokaa
namespace Go.Plain
open Go.Eng Go.Lib
end Go.Plain
namespace Go.Proofs.Ytkehohfgbblokaa
open Go.Eng Go.Plain
set_option maxHeartbeats 32000000
set_option maxRecDepth 20000
attribute [local irreducible] WC RegS RegD SeqQ BlkQ ScoQ RegK CutK Sat SatN FnIs LoopQ au OpIs
def o1 {α:Type} (o:Option α):Int:=match o with
 | some _=>1
 | none=>0
abbrev CH (o:Option Int):AV :=.tup (.acons (.int .i64 (o.getD 0)) (.acons (.int .i64 (o1 o)) .anil))
def nV (l:List UInt8):Nat:=l.foldl (fun n c=>n*16+nibV c) 0
abbrev byR (o:Option (List UInt8)):AV :=.tup (.acons (.d (encB (o.getD []))) (.acons (.int .i64 (o1 o)) .anil))
end Go.Proofs.Ytkehohfgbblokaa
namespace Go.Proofs.Ytkehohfgbblokaa
open Go.Eng Go.Plain
set_option maxHeartbeats 32000000
set_option maxRecDepth 20000
set_option linter.unusedVariables false
set_option linter.unusedSimpArgs false
attribute [local irreducible] WC RegS RegD SeqQ BlkQ ScoQ RegK CutK Sat SatN FnIs LoopQ au OpIs
abbrev readA (o:Option POp):AV :=.tup (.acons (.d (cr (o.getD wN))) (.acons (.int .i64 (o1 o)) .anil))
def finR (s:List UInt8) (o:Option POp):Option POp:=match o with
 | some o=>if tK o=s then some o else none
 | none=>none
def op4 (o:Option Int) (x y:List UInt8):Option POp:=match o with
 | some k=>Plain.opR k x y
 | none=>none
end Go.Proofs.Ytkehohfgbblokaa
namespace Go.Eng
open Go.RowKit Go.Sort
abbrev CK (n:Int):D :=.sc (.int .i64 n)
variable {P : Program}
end Go.Eng
namespace Go.Eng
open Go.RowKit
variable {P : Program} {f : FuncId} {avs avs' : List AV} {h0 : List (Nat × Row)} {res : AV}
def pn (avs:List AV) (h0:List (Nat×Row)) (avs':List AV) (h0':List (Nat×Row)):Prop :=
 ∀(C:Ctx) (G:Nat→Prop) (σ:aJ) (w:World) (a:Act),aH C G (inSt avs h0) σ w a→aH C G (inSt avs' h0') σ w a
theorem pn.refl (avs:List AV) (h0:List (Nat×Row)):pn avs h0 avs h0:=fun _ _ _ _ _ h=>h
theorem pn.freeze {h0' h1:List (Nat×Row)} {avs1:List AV} (r:Nat) (row:Row) (hrow:aX (aF h0) r=some row) (hE:gT r row (ec 0 avs) (ec 0 avs')) (hH:ed r row (aF h0) (aF h0')) (hl:avs'.length=avs.length)
  (h:pn avs' h0' avs1 h1):pn avs h0 avs1 h1:=by
 intro C G σ w a hst
 refine h C G σ w a (hst.freeze (st':=inSt avs' h0') r row (by rw[←bq]; exact hrow) (gT.out _ hE) (fun q x' hq=>?_) hl rfl)
 rw[←bq]at hq
 obtain⟨h1,x,h2,h3⟩:=ed.out _ hH q x' hq
 exact⟨h1,x,by rw[←bq]; exact h2,h3⟩
def mG (res:AV):Prop:=(∀(σ σ':aJ) (w w':World) (X X':Nat→Prop) (v:Value),RelV σ w X res v→RelV σ' w' X' res v)∧∀G:Nat→Prop,res.within G
theorem mG.sc (v:Value):mG (.d (.sc v)):=⟨fun _ _ _ _ _ _ _ h=>RelV.sc.2 (RelV.sc.1 h),fun _=>trivial⟩
theorem FnIs.lend (ht:pn avs h0 avs' []) (hf:mG res) (h:FnIs P f avs' [] res []):FnIs P f avs h0 res h0:=by
  refine⟨h.1,fun C σ w vs hbs hB hw hσ hro hst=>?_⟩
  have h1:=ht _ _ _ _ _ hst
  have hc:aH { C with M:=fun _=>False } (fun r=>r<64) (inSt avs' []) σ w ⟨vs.toArray,[]⟩:=
    { env:=h1.env
      envG:=h1.envG
      rows:=h1.rows
      rowsG:=h1.rowsG
      inj:=h1.inj
      high:=fun r row b c hr=>by simp[inSt,aF,St.row,lk]at hr
      size:=h1.size
      below:=by show fh C.B _ C.w0 w; rw[hw]; exact fh.refl _ _ _
      defers:=trivial
      sz:=h1.sz
      x0:=fun b hb=>⟨(h1.x0 b hb).1,id⟩
      agree:=h1.agree
      baseG:=h1.baseG
      bs:=h1.bs
      rok:=h1.rok
      glob:=fun x hx=>⟨(h1.glob x hx).1,(h1.glob x hx).2.1,id⟩ }
  refine (h.2 { C with M:=fun _=>False } σ w vs hbs hB hw hσ hro hc).mono ?_
  rintro e w' ⟨v,σ',rfl,hr⟩
  refine⟨v,σ,rfl,?_⟩
  have hbm:fh C.B (fun _=>False) w w':=by have:=hr.below; rw[←hw]; exact this
  have hheap:∀k,k<w.heap.size→w'.heap[k]?=w.heap[k]?:=fun k hk=>hbm.block k (by omega) id
  have hX:(dZ res h0).X C.X0 σ=(inSt avs h0).X C.X0 σ:=rfl
  have hk:∀(a:Addr) (u:Value),w.cell? a=some u→¬(inSt avs h0).X C.X0 σ a.block→w'.cell? a=some u∧¬(dZ res h0).X C.X0 σ a.block:=fun a u hc hx =>
    ⟨by rw[World.cell?_of_block (hheap _ (World.block_lt_of_cell? w a hc))]; exact hc,hx⟩
  obtain⟨u,hu,hv⟩:=hr.env 0 _ rfl
  exact
    { env:=fun i x hi=>by
        by_cases e:i=0
        · subst e
          simp only[dZ,aT,if_pos,Option.some.injEq]at hi
          subst hi
          refine⟨v,rfl,?_⟩
          have hu':v=u:=by simpa using hu
          subst hu'
          exact hf.1 _ _ _ _ _ _ _ hv
        · simp only[dZ,aT,if_neg (Ne.symm e),lk]at hi
          cases hi
      envG:=fun i x hi=>by
        by_cases e:i=0
        · subst e
          simp only[dZ,aT,if_pos,Option.some.injEq]at hi
          subst hi
          exact hf.2 _
        · simp only[dZ,aT,if_neg (Ne.symm e),lk]at hi
          cases hi
      rows:=fun r row hr'=>bE.mono (fun _ _=>rfl) hk (hst.rowsG r row hr').1 (hst.rowsG r row hr').2 (fun b c hs=>hheap b (hst.lt hr' hs)) (hst.rows r row hr')
      rowsG:=fun r row hr'=>by
        obtain⟨g1,g2⟩:=hst.rowsG r row hr'
        refine⟨Nat.lt_of_lt_of_le g1 (by decide),?_⟩
        cases row with
        | box t x=>exact AV.within.mono (fun r hr=>Nat.lt_of_lt_of_le hr (by decide)) x g2
        | ds=>trivial
        | lits t s n ex x=>exact AV.within.mono (fun r hr=>Nat.lt_of_lt_of_le hr (by decide)) x g2
        | mo x=>exact AV.within.mono (fun r hr=>Nat.lt_of_lt_of_le hr (by decide)) x g2
        | si=>trivial
        | mq=>trivial
        | mi x=>exact AV.within.mono (fun r hr=>Nat.lt_of_lt_of_le hr (by decide)) x g2
      inj:=hst.inj
      high:=hst.high
      size:=hr.size
      below:=by rw[hw]; exact⟨hbm.os,hbm.tape,hbm.output,hbm.size,fun k hk _=>hbm.block k hk id,hbm.book⟩
      defers:=trivial
      sz:=rfl
      x0:=hst.x0
      agree:=hst.agree
      baseG:=fun r hr=>by have:=hst.baseG r hr; exact Nat.lt_of_lt_of_le this (by decide)
      bs:=hst.bs
      rok:=fun l hl=>by rw[hro]at hl; cases hl
      glob:=hst.glob }
end Go.Eng
namespace Go.Eng
open Go.RowKit
theorem aR.ds_take {t:TypeId} {s m:Nat} {ex:Bool} {α:Type} {enc:α→D} {xs:List α}:aR (.ds t s ex enc xs) (.ds t s false enc (xs.take m)):=by
 intro σ w X r h
 rcases h with ⟨h1,rfl⟩ | ⟨b,c,cur,h1,_,h2,h3,h4,h5,f,hf,h6⟩
 ·exact .inl ⟨h1,by simp⟩
 ·have hle:(xs.take m).length≤xs.length:=by rw[List.length_take]; omega
  refine .inr ⟨b,c,cur,h1,(fun h=>by cases h),h2,h3,by omega,h5,f,fun i hi=>?_,?_⟩
  ·have hi':i<xs.length:=by omega
   rw[List.getElem_take]
   exact hf i hi'
  ·obtain⟨k,hk⟩:∃k,xs.length=(xs.take m).length+k:=⟨xs.length-(xs.take m).length,by omega⟩
   have hl:=cE (xs.take m).length (fun i hi=>(hf i (by omega)).2)
   have h7:=congrArg (List.take ((xs.take m).length*s)) h6
   rw[List.take_take,Nat.min_eq_left (Nat.mul_le_mul_right s hle)]at h7
   rw[h7]
   conv=>lhs; rw[hk,fC]
   rw[List.take_append_of_le_length (by rw[hl]; exact Nat.le_refl _),List.take_of_length_le (by rw[hl]; exact Nat.le_refl _)]
theorem Frz.row_le {r:Nat} {row row':Row} {a a':AV} (h:aR row row') (hf:Frz r row' a a'):Frz r row a a' :=
 ⟨hf.1,hf.2.1,hf.2.2.1,fun σ w X X' hx hn hr cs hc=>hf.2.2.2 σ w X X' hx hn (h σ w X r hr) cs hc⟩
end Go.Eng
namespace Go.Proofs.Ytkehohfgbblokaa
open Go.Eng Go.Plain
set_option maxHeartbeats 32000000
set_option maxRecDepth 20000
set_option linter.unusedVariables false
attribute [local irreducible] WC RegS RegD SeqQ BlkQ ScoQ RegK CutK Sat SatN FnIs LoopQ au OpIs
abbrev rpR (x:List (List POp)×Nat×Int):AV :=.tup (.acons (.d (Co x.1)) (.acons (.int .i64 (x.2.1:Nat)) (.acons (.int .i64 x.2.2) .anil)))
def QInv (W:List (List UInt8)):Option (List (List POp)×List POp)×Nat→Prop
 | (q,i)=>i≤W.length∧pK (W.drop i) i (toL q)=pK W 0 []∧chkP (toL q)=0
end Go.Proofs.Ytkehohfgbblokaa
namespace Go.Plain
open Go.Lib
abbrev sortI (l:List Int):List Int:=l.mergeSort fun x y=>decide (x≤y)
end Go.Plain
namespace Go.Proofs.Ytkehohfgbblokaa
open Go.Eng Go.Plain Go.Lib
set_option maxHeartbeats 32000000
set_option maxRecDepth 20000
def insL (n:Int):List Int→List Int
 | []=>[n]
 | x::l=>if n≤x then n::(x::l).filter (fun y=>decide (y≠n)) else x::insL n l
def wOut (n:Int) (s:List Int×Bool):List Int:=if s.2=true then s.1 else s.1++[n]
def idxL (b:Int) (l:List POp):List Int:=(l.filter (touB b)).map POp.index
end Go.Proofs.Ytkehohfgbblokaa
namespace Go.Proofs.Ytkehohfgbblokaa
open Go.Eng Go.Plain Go.RowKit
set_option maxHeartbeats 32000000
set_option maxRecDepth 20000
attribute [local irreducible] WC RegS RegD SeqQ BlkQ ScoQ RegK CutK Sat SatN FnIs LoopQ au OpIs
end Go.Proofs.Ytkehohfgbblokaa
namespace Go.Proofs.Ytkehohfgbblokaa
open Go.Eng Go.Plain
set_option maxHeartbeats 32000000
set_option maxRecDepth 20000
attribute [local irreducible] WC RegS RegD SeqQ BlkQ ScoQ RegK CutK Sat SatN FnIs LoopQ au OpIs
@[reducible] def accA:List Int→AV
 | []=>.d (.sc nil_)
 | x::xs=>.own 65 0 (xs.length+1) 1 none
@[reducible] def accH:List Int→Upds
 | []=>[]
 | x::xs=>[(65,some (rowI (x::xs)))]
end Go.Proofs.Ytkehohfgbblokaa
namespace Go.Proofs.Ytkehohfgbblokaa
open Go.Eng Go.Plain
set_option maxHeartbeats 32000000
set_option maxRecDepth 20000
def encV:Bool×POp→D
 | (true,o)=>.cons (u8s o.kind) (.cons (i6 o.index) (.cons (.sc nil_) .nil))
 | (false,o)=>cr o
def VOk (x:Bool×POp):Prop:=x.1=true→x.2.data=[]
theorem yI {w:World} {X:Nat→Prop} {x:Bool×POp} (hx:VOk x) {cs:List Value} (h:Enc w X (encV x) cs):Enc w X (cr x.2) cs:=by
 obtain⟨b,o⟩:=x
 cases b with
 | false=>exact h
 | true =>
  have hd:o.data=[]:=hx rfl
  obtain⟨c1,r1,rfl,h1,c2,r2,rfl,h2,c3,r3,rfl,h3,h4⟩:=h
  exact⟨c1,_,rfl,h1,c2,_,rfl,h2,c3,r3,rfl,.inl ⟨by rw[hd]; rfl,h3.1⟩,h4⟩
theorem yK {α β:Type} {s:Nat} {enc:α→D} {enc':β→D} {g:α→β} {xs:List α} {ys:List β} (hy:ys=xs.map g) (h:∀x∈xs,DLe (enc x) (enc' (g x))):DLe (.arr s enc xs) (.arr s enc' ys):=by
 subst hy
 rintro w X cs (⟨rfl,rfl⟩ | ⟨a,c,rfl,h1,h2,f,hf⟩)
 ·exact .inl ⟨rfl,rfl⟩
 ·refine .inr ⟨a,c,by rw[List.length_map],by rw[List.length_map]; exact h1,h2,f,fun i hi=>?_⟩
  rw[List.length_map]at hi
  obtain⟨g1,g2,g3⟩:=hf i hi
  refine⟨?_,g2,g3⟩
  rw[List.getElem_map]
  exact h _ (List.getElem_mem _) _ _ _ g1
abbrev encPV (l:List (Bool×POp)):D :=.arr 3 encV l
end Go.Proofs.Ytkehohfgbblokaa
namespace Go.Proofs.Ytkehohfgbblokaa
open Go.Eng Go.Plain
set_option maxHeartbeats 32000000
set_option maxRecDepth 20000
attribute [local irreducible] WC RegS RegD SeqQ BlkQ ScoQ RegK CutK Sat SatN FnIs LoopQ au OpIs
def pairV:List (List (Bool×POp)):=[[(true,⟨1,3,[]⟩),(false,⟨2,1,[0,255]⟩)],[(true,⟨3,0,[]⟩)]]
def pairL:List (List POp):=[[⟨1,3,[]⟩,⟨2,1,[0,255]⟩],[⟨3,0,[]⟩]]
abbrev vA:Bool×POp:=(true,⟨1,3,[]⟩)
abbrev vB:Bool×POp:=(false,⟨2,1,[0,255]⟩)
abbrev vC:Bool×POp:=(true,⟨3,0,[]⟩)
abbrev vAB:List (Bool×POp):=[vA,vB]
abbrev vC1:List (Bool×POp):=[vC]
end Go.Proofs.Ytkehohfgbblokaa
namespace Go.Eng
open Go.RowKit
section
variable {P : Program} {T : Tab} {env : Env} {h : Upds} {n : Nat}
theorem pi (hT:ay P T) {t e r L cap:Nat} {re:TyR} {s:Nat} {α:Type} {enc:α→D} (z:α) {x:Operand} {p:List Step} {row row':Row} (ht:bz T t=some (.slice e)) (he:lk T e=some re) (hs:Nat.beq re.size s=true) (hs0:Nat.blt 0 s=true) (hz:re.zero=enc z)
  (hx:aB env x=some (.asl r p L cap)) (hrow:aX h r=some row) (hL:Nat.blt 0 L=true) (hu:RUpd row p (.d (.vec L s enc (List.replicate L z))) row') :
  au P (.call { callee :=.builtin .clear,args := #[x],argTypes := #[t] }) env h n none [(r,some row')]:=.of_comes fun C G st σ w a o ho hA hd hst hn=>by
 have hs0:=Nat.le_of_ble_eq_true hs0
 have hL:=Nat.le_of_ble_eq_true hL
 have hs:=Nat.eq_of_beq_eq_true hs
 obtain⟨ud,hud,hdd⟩:=bw hT ht
 cases hdd
 obtain⟨hx1,hx2⟩:=aC hst (hA.ev hx)
 have hrow:=hA.row _ _ hrow
 obtain⟨b,c,hb,hux⟩:=RelV.asl.1 hx1
 obtain⟨zv,hzr,hzv⟩:=(hT e re he).run_zero w
 have hzl:zv.cells.toList.length=s:=by
  have h1:=Enc.len _ _ (Enc.closed w (fun _=>False) _ (hT e re he).zero)
  rw[hzv,(hT e re he).zsize,hs]at h1
  exact h1
 have henc:Enc w (st.X C.X0 σ) (enc z) zv.cells.toList:=by rw[←hz,←hzv]; exact Enc.closed _ _ _ (hT e re he).zero
 have hm':Rel σ w (st.X C.X0 σ) (.d (.vec L s enc (List.replicate L z))) false (cat (fun _=>zv.cells.toList) L):=
  ⟨by simp,fun _=>zv.cells.toList,fun i hi=>⟨by simpa using henc,hzl⟩,rfl⟩
 obtain⟨b',c',cur,t2,A,m,C',hb',hh,⟨hcur,hA2⟩,hml,hnew⟩:=RUpd.cells hu (hst.rows r row hrow) rfl hm' (hst.rowsG r row hrow).2 trivial
 rw[hb]at hb'
 cases hb'
 have hw:=hst.write (new:=(A++cat (fun _=>zv.cells.toList) L++C').toArray) hrow hb hh (RUpd.within (hst.rowsG r row hrow).2 (show (AV.d (.vec L s enc (List.replicate L z))).within G from trivial) hu) (fun w' ht hd' hh'=>hnew w' ht hd' hh')
 have hfl:(cat (fun _=>zv.cells.toList) L).length=L*s:=cE _ fun _ _=>hzl
 have hone:∀u∈cat (fun _=>zv.cells.toList) L,u.oneCell'=true:=fun u hu=>by
  obtain⟨k,hk,hu⟩:=iN _ hu
  exact Enc.one _ _ henc u hu
 have hmade:(Builtin.zeroCells zv.cells L).toList=cat (fun _=>zv.cells.toList) L:=by
  have:=kg zv.cells.toList (by omega) L
  rw[lQ,←this]
  simp[Builtin.zeroCells]
 have hst1:(storeCells ⟨b,a9 p,none⟩ (cat (fun _=>zv.cells.toList) L) 0).run P w=.ok () (w.setRow b (A++cat (fun _=>zv.cells.toList) L++C').toArray):=by
  have hcl:cur.size=A.length+m.length+C'.length:=by
   have:=congrArg List.length hcur
   simp at this; omega
  rw[run_storeCells_at P b (a9 p) t2 _ 0 cur w hh (by omega) hone]
  congr 3
  rw[hcur]
  have e1:List.take (a9 p+0) (A++m++C')=A:=by rw[←hA2]; simp
  have e2:List.drop (a9 p+0+(cat (fun _=>zv.cells.toList) L).length) (A++m++C')=C':=by
   rw[←hml,←hA2,Nat.add_zero,←List.length_append,List.drop_left]
  rw[e1,e2]
 have hrun:(Builtin.clear_ #[t] o.type #[a.eval x]).run P w=.ok (.tuple #[]) (w.setRow b (A++cat (fun _=>zv.cells.toList) L++C').toArray):=by
  obtain⟨k,rfl⟩:∃k,L=k+1:=⟨L-1,by omega⟩
  simp[Builtin.clear_,hux,run_underlying hud,hzr,hmade,hst1]
 refine⟨none,_,.value (.tuple #[]),undef,w.setRow b (A++cat (fun _=>zv.cells.toList) L++C').toArray,σ,G,⟨rfl,rfl⟩,?_,.inl rfl,?_,fun _ h=>h,fun _ h=>.inl h⟩
 ·simp[execOp,ho,resolve,invoke,builtin,hrun]
 ·rw[St.put_upd]
  exact hw.set hd (v:=none) (eA _ _ _) trivial
theorem AA {f:Operand} {args:Array Operand} {ts:Array TypeId} {g:FuncId} {first caps:AV} {bs9 avs:List AV} {h0 rows:List (Nat×Row)} {res v:AV} {u:Upds} (l:bH)
  (hfn:FnIs P g avs h0 res rows) (hf:aB env f=some (.fn (.func g) first caps)) (hl:evL (aB env) args.toList=some bs9) (hc1:first.chain=true) (hc2:caps.chain=true)
  (ha:b6 (aX h) (rho l) (bC first++(bs9++bC caps)) avs) (hr:bX (aX h) l h0) (hi:eM (rho l) (ba h0)=true) (hk:fM l h0=true)
  (hm:cn (bC first++(bs9++bC caps)) avs=true∨h0=[]∧cN res rows) (hv:res.ren (dW l n)=v) (hu:bG l n h0 rows=u) :
  au P (.call { callee :=.value f,args:=args,argTypes:=ts }) env h n (some v) u:=by
 have:=au.call (n:=n) (ts:=ts) (h0:=h0) (rows:=rows) (res:=res) l hfn hf hl hc1 hc2 ha hr hi hk hm
 rw[hv,hu]at this
 exact this
theorem um {look:Nat→Option Row} {ρ:Nat→Option Nat} {f:Fn} {r k:Nat} {p:List Step} {bs9 avs:List AV} (hr:ρ r=some k) (h64:Nat.blt r 64=true) (h:b6 look ρ bs9 avs) :
  b6 look ρ (.fn f (.acons (.ptr k p) .anil) .anil::bs9) (.fn f (.acons (.ptr r p) .anil) .anil::avs):=
 ⟨_,avs,rfl,⟨rfl,by simp[AV.lt,h64]⟩,AVLe.of_eq (by simp only[AV.ren,hr]),h⟩
end
theorem aR.ds_map {t:TypeId} {s:Nat} {ex:Bool} {α β:Type} {enc:α→D} {enc':β→D} (g:α→β) {xs:List α} {ys:List β} (hy:ys=xs.map g) (hg:∀x∈xs,DLe (enc x) (enc' (g x))):aR (.ds t s ex enc xs) (.ds t s ex enc' ys):=by
 subst hy
 intro σ w X r h
 rcases h with ⟨h1,rfl⟩ | ⟨b,c,cur,h1,h0,h2,h3,h4,h5,f,hf,h6⟩
 ·exact .inl ⟨h1,rfl⟩
 ·refine .inr ⟨b,c,cur,h1,by rw[List.length_map]; exact h0,h2,h3,by rw[List.length_map]; exact h4,h5,f,fun i hi=>?_,by rw[List.length_map]; exact h6⟩
  rw[List.length_map]at hi
  refine⟨?_,(hf i hi).2⟩
  rw[List.getElem_map]
  exact hg _ (List.getElem_mem _) _ _ _ (hf i hi).1
end Go.Eng
namespace Go.Eng
open Go.RowKit
variable {P : Program} {op : Op} {env : Env} {h : Upds} {n : Nat} {av av' : AV} {row : Row}
theorem au.frozen (hs:au P op env h n (some av) [(n,some row)]) (hf:Frz n row av av'):au P op env h n (some av') []:=by
 intro C G st σ w a o ho hA hd hst hn hb next Q hnext
 refine hs C G st σ w a o ho hA hd hst hn hb next Q fun x w' σ' G' hst' h1 h2=>?_
 have hnr:∀q row',st.row q=some row'→q≠n:=fun q row' hq e=>by
  subst e
  exact hn q (Nat.le_refl _) (by omega) (hst.rowsG _ _ hq).1
 have hrow:(st.put o.dst (some av) [(n,some row)]).row n=some row:=by
  simp[St.put,St.row,aT]
 have hrow2:∀q row',q≠n→st.row q=some row'→(st.put o.dst (some av) [(n,some row)]).row q=some row':=fun q row' hq hr=>by
  simp only[St.put,St.row,List.cons_append,List.nil_append,aT,if_neg (Ne.symm hq)]
  exact hr
 refine hnext x w' σ' G' (hst'.freeze (st':=st.put o.dst (some av') []) n row hrow (fun i v' hi=>?_) (fun q x' hq=>?_) rfl rfl) h1 h2
 ·cases hdst:o.dst with
  | none =>
   simp only[St.put,hdst]at hi ⊢
   exact⟨v',hi,.refl _⟩
  | some d =>
   simp only[St.put,hdst,aT]at hi ⊢
   split at hi
   ·rename_i e
    rw[if_pos e]
    simp only[Option.some.injEq]at hi
    exact⟨av,rfl,by rw[←hi]; exact hf⟩
   ·rename_i e
    rw[if_neg e]
    exact⟨v',hi,.refl _⟩
 ·have hq':st.row q=some x':=hq
  exact⟨hnr q x' hq',x',hrow2 q x' (hnr q x' hq') hq',.refl _⟩
end Go.Eng
namespace Go.Eng
open Go.RowKit
variable {P : Program} {T : Tab} {env : Env} {h : Upds} {n : Nat}
def ng (e s:Nat):Nat→List (Nat×Nat)
 | 0=>[]
 | k+1=>ng e s k++[(k*s,e)]
theorem jB (e s:Nat):∀k,(ng e s k).length=k
 | 0=>rfl
 | k+1=>by rw[ng,List.length_append,jB e s k]; rfl
theorem oO {e s:Nat}:∀(m k o t:Nat),(ng e s m)[k]?=some (o,t)→t=e∧o=k*s
 | 0,k,o,t,h=>by simp[ng]at h
 | m+1,k,o,t,h=>by
  rw[ng]at h
  rcases Nat.lt_or_ge k m with hk | hk
  ·rw[List.getElem?_append_left (by rw[jB]; exact hk)]at h
   exact oO m k o t h
  ·rw[List.getElem?_append_right (by rw[jB]; exact hk),jB]at h
   have:k-m=0:=by
    rcases Nat.eq_zero_or_pos (k-m)with e | e
    ·exact e
    ·rw[List.getElem?_eq_none (by simp; omega)]at h; cases h
   rw[this]at h
   simp only[List.getElem?_cons_zero,Option.some.injEq,Prod.mk.injEq]at h
   have e:k=m:=by omega
   subst e
   exact⟨h.2.symm,h.1.symm⟩
theorem jP (hT:ay P T) {t e len:Nat} {r re:TyR} {parts:Array (Nat×Operand)} {q:AV} (ht:lk T t=some r) (hd:r.desc=.array len e) (he:lk T e=some re) (hq:jo T (ng e re.size len) (aB env) parts.toList (.d r.zero)=some q) (hag:q.isAgg=true) :
  au P (.build t parts) env h n (some q) []:=.of_comes fun C G st σ w a o ho hA hdst hst hn=>by
 obtain⟨u,hu,hdu⟩:=(hT t r ht).und
 rw[hd]at hdu
 cases hdu
 obtain⟨z,hz,hzc⟩:=(hT t r ht).run_zero w
 have henc:Rel σ w (st.X C.X0 σ) (.d r.zero) false z.cells.toList:=by rw[←hzc]; exact Enc.closed _ _ _ (hT t r ht).zero
 obtain⟨cs',hfill,h1,h2,h3⟩:=fW hT hst hA (pl:=fun k=>some (k*re.size,re.size)) (fun k o t' r' ho hr'=>by
  obtain⟨rfl,rfl⟩:=oO _ _ _ _ ho
  rw[he]at hr'
  cases hr'
  rfl) parts.toList (.d r.zero) q z.cells.toList hq rfl trivial henc
 refine .quiet (u :=.agg cs'.toArray) hst hdst ⟨rfl,rfl⟩ ?_ (by unfold RelV; rw[if_pos hag]; exact⟨cs',rfl,h1⟩) h3
 have hcs:z.cells.toList.toArray=z.cells:=by simp
 have hpt:(parts.map fun x=>(x.1,a.eval x.2)).toList=parts.toList.map fun x=>(x.1,a.eval x.2):=by simp
 rw[hcs,←hpt]at hfill
 have hb:(Instr.build t (parts.map fun x=>(x.1,a.eval x.2))).run P w=.ok (.agg cs'.toArray) w:=by
  simp only[Instr.build,Sem.run_bind,hz,Result.andThen_ok,run_underlying hu,(hT e re he).run_size,hfill,Sem.run_pure]
 simp only[execOp,ho,Sem.run_bind]
 rw[show (parts.map fun (x:Nat×Operand)=>match x with | (i,x)=>(i,a.eval x))=parts.map fun x=>(x.1,a.eval x.2) from rfl,hb]
 rfl
end Go.Eng
namespace Go.Eng
open Go.RowKit
theorem Frz.ownxe {r te s:Nat} {α:Type} {enc:α→D} {xs:List α} {len:Nat} (hl:len=xs.length):Frz r (.ds te s true enc xs) (.own r 0 len s none) (.d (.arx s enc xs)):=by
 subst hl
 refine⟨rfl,fun _=>rfl,fun _ _=>trivial,fun σ w X X' hx hn hr cs h=>?_⟩
 rcases h with ⟨h0,_,hl,_,rfl⟩ | ⟨b,c,ad,hb,rfl,hle1,hle2,hle3,had⟩
 ·exact .inl ⟨List.eq_nil_of_length_eq_zero hl,none,rfl⟩
 ·rcases hr with ⟨h0,rfl⟩ | ⟨b',c',cur,hb',hex,hh,hsz,hlen,hmax,f,hf,htake⟩
  ·rw[hb]at h0; cases h0
  ·rw[hb]at hb'
   cases hb'
   have hc:c=xs.length:=hex rfl
   subst hc
   refine .inr ⟨ad,by simp,hmax,f,fun i hi=>?_⟩
   obtain⟨h1,h2⟩:=hf i hi
   have hoff:ad=⟨b,0*s,none⟩:=had (by omega)
   subst hoff
   refine⟨Enc.sub hx _ _ h1,h2,fun j u hj=>⟨?_,hn b _ hb⟩⟩
   rw[eW,cell_of_row w b _ cur te (0,0) hh]
   have hjs:j<s:=by rw[←h2]; exact (List.getElem?_eq_some_iff.1 hj).1
   have hcg:=eR (f:=f) (s:=s) xs.length (fun i hi=>(hf i hi).2) i j hi hjs
   rw[←htake,hj,List.getElem?_take]at hcg
   have hlt2:i*s+j<xs.length*s:=by
    have:(i+1)*s≤xs.length*s:=Nat.mul_le_mul_right s hi
    rw[Nat.add_mul]at this; omega
   rw[if_pos hlt2]at hcg
   rw[←Array.getElem?_toList,Nat.zero_mul,Nat.zero_add]
   exact hcg
section
variable {P : Program} {T : Tab} {env : Env} {h : Upds} {n : Nat}
end
end Go.Eng
namespace Go.Proofs.Ytkehohfgbblokaa
open Go.Eng Go.Plain
set_option maxHeartbeats 32000000
set_option maxRecDepth 20000
attribute [local irreducible] WC RegS RegD SeqQ BlkQ ScoQ RegK CutK Sat SatN FnIs LoopQ au OpIs
theorem yE (l:List Int) (hp:0<l.length) (hlen:l.length≤1048576):FnIs Try.prog 96 [.d (.arr 1 cU l)] [] (.own 64 0 l.length 1 none) [(64,.ds 5 1 true cU l)]:=by
 have hd:decide ((l.length:Int)=0)=false:=dF (by omega)
 have hcp:l.take (List.replicate l.length (0:Int)).length++(List.replicate l.length (0:Int)).drop l.length=l:=by simp
 have hmin:min l.length (List.replicate l.length (0:Int)).length=l.length:=by simp
 refine aE aa Try.func96 rfl rfl rfl ?_;refine sR<|rC<|zW ?_;refine rC ?_;refine rQ iE ?_;refine rC ?_;refine zG<|kS<|sR ?_;refine rC ?_;refine rQ iE ?_;refine aW (dB (enc:=cU) (s:=1) (N:=l.length) aa 0 rfl rfl rfl rfl rfl rfl rfl hlen rfl) rfl ?_;refine rC<|nR ?_;refine zD ?_;refine aW (rr (r:=64+8+8+8+8+8+8) (xs:=List.replicate l.length (0:Int)) (ys:=l) (enc:=cU) (zs:=l) (m:=l.length) aa rfl rfl rfl rfl (by rw[List.length_replicate]; rfl) rfl rfl hcp hmin) rfl<|nR ?_;refine zD<|zT ?_
 exact⟨trivial,[(64,some _)],lg zV ⟨zR,trivial⟩⟩
theorem As (l:List UInt8) (hlen:l.length≤1048576):FnIs Try.prog 96 [.d (encB l)] [] (.d (encB l)) []:=by
 cases l with
 | nil =>
  have hd:decide ((0:Int)=0)=true:=rfl
  refine aE aa Try.func96 rfl rfl rfl ?_;refine sR<|rC<|zW ?_;refine rC ?_;refine rQ iE ?_;refine rC ?_;refine zO<|sR ?_;refine rC<|zT<|bA ?_
  exact⟨trivial,[],lg ⟨⟨_,rfl,nil_arr _ _⟩,rfl,trivial⟩ trivial⟩
 | cons a l=>exact (yE (byI (a::l)) (by simp[byI]) (by rw[fD]; exact hlen)).freeze_out 64 _ rfl (Frz.own rfl) trivial
def zPOp:D :=.cons (u8s 0) (.cons (i6 0) (.cons (.sc (.slice none 0 0)) .nil))
def pa:Option HOp→D
 | none=>.cons (i6 0) (.cons (i6 0) (.cons (i6 0) (.cons zPOp (.cons (i6 0) (.cons (i6 0) (.cons (.vec 32 1 cU (List.replicate 32 0)) (.cons (i6 0) .nil)))))))
 | some x=>bt x
def encEN:Option HEv→D
 | none=>.cons (u8s 0) (.cons (i6 0) (.cons zPOp (.cons (.vec 32 1 cU (List.replicate 32 0)) (.cons (i6 0) .nil))))
 | some x=>bY x
abbrev fe (l:List HOp):D :=.arx 41 bt l
abbrev Cq (l:List HEv):D :=.arx 38 bY l
def CJ:Option (List HEv)→D
 | none=>.sc (.slice none 0 0)
 | some x=>Cq x
theorem z6 (l:List HOp):gp [.d (cD l)] [.d (.arr 41 pa (l.map some))]:=⟨⟨AVLe.d (yK rfl fun _ _ _ _ _ h=>h) rfl,fun _ _=>trivial⟩,trivial⟩
theorem yi (l:List HOp):aR (.ds 30 41 true pa (l.map some)) (.ds 30 41 true bt l):=
 aR.ds_map (fun o=>match o with | some x=>x | none=>⟨0,0,0,zOp,0,0,[],0⟩) (by rw[List.map_map]; exact (List.map_id _).symm) fun x hx=>by
  obtain⟨y,_,rfl⟩:=List.mem_map.1 hx
  exact fun _ _ _ h=>h
theorem yD (l:List (Option HOp)) (hp:0<l.length) (hlen:l.length≤1048576):FnIs Try.prog 78 [.d (.arr 41 pa l)] [] (.own 64 0 l.length 41 none) [(64,.ds 30 41 true pa l)]:=by
 have hd:decide ((l.length:Int)=0)=false:=dF (by omega)
 have hcp:l.take (List.replicate l.length (none:Option HOp)).length++(List.replicate l.length (none:Option HOp)).drop l.length=l:=by simp
 have hmin:min l.length (List.replicate l.length (none:Option HOp)).length=l.length:=by simp
 refine aE aa Try.func78 rfl rfl rfl ?_;refine sR<|rC<|zW ?_;refine rC ?_;refine rQ iE ?_;refine rC ?_;refine zG<|kS<|sR ?_;refine rC ?_;refine rQ iE ?_;refine aW (dB (enc:=pa) (s:=41) (N:=l.length) aa none rfl rfl rfl rfl rfl rfl rfl hlen rfl) rfl ?_;refine rC<|nR ?_;refine zD ?_;refine aW (rr (r:=64+8+8+8+8+8+8) (xs:=List.replicate l.length none) (ys:=l) (enc:=pa) (zs:=l) (m:=l.length) aa rfl rfl rfl rfl (by rw[List.length_replicate]; rfl) rfl rfl hcp hmin) rfl<|nR ?_;refine zD<|zT ?_
 exact⟨trivial,[(64,some _)],lg zV ⟨zR,trivial⟩⟩
theorem Ar (l:List HOp) (hlen:l.length≤1048576):FnIs Try.prog 78 [.d (.arr 41 bt l)] [] (.d (.arx 41 bt l)) []:=by
 cases l with
 | nil =>
  have hd:decide ((0:Int)=0)=true:=rfl
  refine aE aa Try.func78 rfl rfl rfl ?_;refine sR<|rC<|zW ?_;refine rC ?_;refine rQ iE ?_;refine rC ?_;refine zO<|sR ?_;refine rC<|zT<|bA ?_
  exact⟨trivial,[],lg ⟨⟨_,rfl,io _ _⟩,rfl,trivial⟩ trivial⟩
 | cons a l=>exact FnIs.args_le (z6 (a::l)) ((yD ((a::l).map some) (by simp) (by rw[List.length_map]; exact hlen)).freeze_out 64 _ rfl (Frz.row_le (yi (a::l)) (Frz.ownxe (by simp))) trivial)
theorem yR (x:POp) (c1 c2:Bool) (h1:decide (x.kind=0)=c1) (h2:decide (x.index=0)=c2):FnIs Try.prog 97 [.d (cr x)] [] (.bool (c1&&c2&&decide (((byI x.data).length:Int)=0))) []:=by
 refine aE aa Try.func97 rfl rfl rfl ?_;refine sR<|rN ?_;refine rC<|nR ?_;refine rC ?_;refine rQ iB ?_;refine zD ?_
 cases c1 with
 | false =>
  iterate 3 refine rS ?_
  refine rQ iF ?_;refine rC ?_;iterate 4 refine rT ?_
  refine rQ iG ?_;refine rC<|zT ?_
  exact⟨trivial,[],lf⟩
 | true =>
  refine rO ?_;refine rC ?_;refine rO ?_;refine rQ iB ?_;refine rO ?_;refine rC ?_;refine rQ iT ?_;refine rC ?_
  cases c2 with
  | false =>
   iterate 4 refine rS ?_
   refine rQ iF ?_;refine rC<|zT ?_
   exact⟨trivial,[],lf⟩
  | true =>
   refine rO ?_;refine rC ?_;refine rO ?_;refine rQ iB ?_;refine rO ?_;refine rQ iE ?_;refine rO ?_;refine rC ?_;refine rQ iT ?_;refine rC<|zT ?_
   exact⟨trivial,[],lf⟩
theorem xT (x:POp):(decide (x.kind=0)&&decide (x.index=0)&&decide (((byI x.data).length:Int)=0))=decide (x=zOp):=by
 obtain⟨k,i,d⟩:=x
 rw[fD]
 have:decide (((d.length:Nat):Int)=0)=decide (d=[]):=decide_eq_decide.2 (by rw[←List.length_eq_zero_iff]; omega)
 simp only[this,zOp,POp.mk.injEq]
 by_cases h1:k=0 <;> by_cases h2:i=0 <;> by_cases h3:d=[] <;> simp[h1,h2,h3]
theorem nT (x:POp):FnIs Try.prog 97 [.d (cr x)] [] (.bool (decide (x=zOp))) []:=by
 have:=yR x _ _ rfl rfl
 rwa [xT]at this
theorem zu:DLe (.cons (.sc (.int .u8 0)) (.cons (.sc (.int .i64 0)) (.cons (.sc nil_) .nil))) (cr zOp):=by
 rintro w X cs ⟨c1,r1,rfl,h1,c2,r2,rfl,h2,c3,r3,rfl,h3,h4⟩
 exact⟨c1,_,rfl,h1,c2,_,rfl,h2,c3,r3,rfl,.inl ⟨rfl,h3.1⟩,h4⟩
def befB (a b:HOp):Bool:=if a.era=b.era then decide (0≤a.returned)&&decide (a.returned<b.invoked) else decide (a.era<b.era)
theorem jQ (a b:HOp):FnIs Try.prog 45 [.d (bt a),.d (bt b)] [] (.bool (befB a b)) []:=by
 refine aE aa Try.func45 rfl rfl rfl ?_
 unfold befB
 refine sR ?_;iterate 2 refine rN ?_
 refine rC<|zW ?_;refine rC ?_;refine rQ iB ?_;refine rC ?_;refine rQ iB ?_;refine rC<|nS ?_
 by_cases h:a.era=b.era
 ·have hd:(!decide (a.era=b.era))=false:=by rw[dT h]; rfl
  rw[if_pos h]
  obtain⟨c,hc⟩:∃c,decide (0≤a.returned)=c:=⟨_,rfl⟩
  rw[hc]
  refine wF<|kS<|sR ?_;refine rC ?_;refine rQ iB ?_;refine zD ?_
  cases c with
  | true =>
   refine rO ?_;refine rC ?_;refine rO ?_;refine rQ iB ?_;refine rO ?_;refine rC ?_;refine rO ?_;refine rQ iB ?_;refine rO ?_;refine rC ?_;refine rQ iT ?_;refine rC<|zT ?_
   exact⟨trivial,[],lf⟩
  | false =>
   iterate 5 refine rS ?_
   refine rQ iF ?_;refine rC<|zT ?_
   exact⟨trivial,[],lf⟩
 ·have hd:(!decide (a.era=b.era))=true:=by rw[dF h]; rfl
  rw[if_neg h]
  refine wT<|sR ?_;refine rC ?_;refine rQ iB ?_;refine rC ?_;refine rQ iB ?_;refine zD<|zT<|bA ?_
  exact⟨trivial,[],lf⟩
theorem uN (a b:HOp) (c1 c2 c3 c4:Bool) (h1:decide (a.era<b.era)=c1) (h2:decide (a.era=b.era)=c2) (h3:decide (-1<a.returned)=c3) (h4:decide (a.returned<b.invoked)=c4):FnIs Try.prog 50 [.d (bt a),.d (bt b)] [] (.d (i6 (if c1||c2&&c3&&c4 then 1 else 0))) []:=by
 refine aE aa Try.func50 rfl rfl rfl ?_;refine sR ?_;iterate 2 refine rN ?_
 refine rC<|zW ?_;refine rC ?_;refine rQ iB ?_;refine rC ?_;refine rQ iB ?_;refine zD ?_
 cases c1 with
 | true =>
  iterate 6 refine rS ?_
  iterate 3 refine rU ?_
  iterate 2 refine rS ?_
  iterate 5 refine rU ?_
  refine rS ?_;refine rQ iT ?_;refine zO<|sR ?_;refine rC<|zT<|bA ?_
  exact⟨trivial,[],lf⟩
 | false =>
  refine rO ?_;refine rC ?_;refine rO ?_;refine rQ iB ?_;refine rO ?_;refine rC ?_;refine rO ?_;refine rQ iB ?_;refine rO ?_;refine rC ?_;refine rO ?_;refine rC ?_
  cases c2 with
  | false =>
   iterate 3 refine rS ?_
   refine rO ?_;refine rQ iF ?_;refine rO ?_;refine rC ?_;iterate 5 refine rT ?_
   refine rO ?_;refine rQ iG ?_;refine rQ iF ?_;refine zJ<|kS<|sR ?_;refine rC<|zT ?_
   exact⟨trivial,[],lf⟩
  | true =>
   refine rO ?_;refine rC ?_;refine rO ?_;refine rQ iB ?_;refine rO ?_;refine rC ?_;refine rO ?_;refine rQ iT ?_;refine rO ?_;refine rC ?_
   cases c3 with
   | false =>
    iterate 5 refine rS ?_
    refine rO ?_;iterate 2 refine rQ iF ?_
    refine zJ<|kS<|sR ?_;refine rC<|zT ?_
    exact⟨trivial,[],lf⟩
   | true =>
    refine rO ?_;refine rC ?_;refine rO ?_;refine rQ iB ?_;refine rO ?_;refine rC ?_;refine rO ?_;refine rQ iB ?_;refine rO ?_;refine rC ?_;refine rO ?_;refine rQ iT ?_;refine rQ iF<|nS ?_
    cases c4 with
    | false =>
     refine wF<|kS<|sR ?_;refine rC<|zT ?_
     exact⟨trivial,[],lf⟩
    | true =>
     refine wT<|sR ?_;refine rC<|zT<|bA ?_
     exact⟨trivial,[],lf⟩
theorem j7 (a b:HOp):FnIs Try.prog 50 [.d (bt a),.d (bt b)] [] (.d (i6 (if befB a b then 1 else 0))) []:=by
 have:=uN a b _ _ _ _ rfl rfl rfl rfl
 have e:(decide (a.era<b.era)||decide (a.era=b.era)&&decide (-1<a.returned)&&decide (a.returned<b.invoked))=befB a b:=by
  unfold befB
  have e1:decide (-1<a.returned)=decide (0≤a.returned):=decide_eq_decide.2 (by omega)
  rw[e1]
  by_cases h:a.era=b.era
  ·rw[if_pos h,dT h,dF (by omega:¬a.era<b.era)]; simp
  ·rw[if_neg h,dF h]; simp
 rwa [e]at this
theorem Ad (n:Int) (xs:List Int) (hL:xs.length≤1000000000):FnIs Try.prog 99 [.d (.arr 1 i6 xs),.int .i64 n] [] (.int .i64 (idxF (fun y=>decide (n=y)) xs)) []:=by
 refine aE aa Try.func99 rfl rfl rfl ?_;refine sR<|rC<|zW ?_;refine rC ?_;refine rQ iE ?_;refine rC<|zP ?_
 refine wc_inv (fun i:Nat=>⟨[(8,.int .i64 i),(7,.int .i64 xs.length),(1,.int .i64 n),(0,.d (.arr 1 i6 xs))],[],72,Try.f99.ntmps,64⟩) (fun i=>i≤xs.length∧∀j,j<i→∀y,xs[j]?=some y→decide (n=y)=false) (fun i=>xs.length-i) 0 [] ⟨Nat.zero_le _,fun j hj=>absurd hj (Nat.not_lt_zero _)⟩
  (lg zi trivial) ?_
 rintro i ⟨hi,hno⟩
 refine bM<|sR ?_;refine rC<|nQ ?_
 refine gu rfl (fun h2=>?_) (fun h2=>?_)
 ·have hlt:i<xs.length:=by have:=of_decide_eq_true h2; omega
  obtain⟨x,hx⟩:∃u,xs[i]?=some u:=⟨_,List.getElem?_eq_getElem hlt⟩
  have hx':xs[((i:Int)).toNat]?=some x:=by rw[Int.toNat_natCast]; exact hx
  cases hp:decide (n=x) with
  | true =>
   refine zQ<|zS<|zD<|nR ?_;refine zU ?_;refine rQ (ao aa rfl rfl rfl rfl rfl (by omega) hx') ?_;refine rQ iL ?_;refine rC ?_;refine zI<|sR ?_;refine zD<|zT<|zB<|ci<|zB ?_
   exact⟨trivial,[],lg ⟨⟨_,rfl,AVLe.of_eq (by rw[ve (p:=fun y=>decide (n=y)) hx hp hno]; rfl)⟩,rfl,trivial⟩ trivial⟩
  | false =>
   refine zQ<|zS<|zD<|nR ?_;refine zU ?_;refine rQ (ao aa rfl rfl rfl rfl rfl (by omega) hx') ?_;refine rQ iL ?_;refine rC ?_;refine zG<|aN<|zC ?_
   refine aj<|rQ iD ?_;refine rC<|aw ?_;refine aI (i+1) [] ⟨hlt,fun j hj y hy=>?_⟩ (by omega) ?_
   ·by_cases e:j=i
    ·subst e
     rw[hx]at hy
     cases hy
     exact hp
    ·exact hno j (by omega) y hy
   ·exact lg zi trivial
 ·have he:i=xs.length:=by have:=of_decide_eq_false h2; omega
  refine zX<|sR<|rC<|zT ?_
  exact⟨trivial,[],lg ⟨⟨_,rfl,AVLe.of_eq (by
   rw[vf (p:=fun y=>decide (n=y)) fun j y hy=>hno j (by have:=(List.getElem?_eq_some_iff.1 hy).1; omega) y hy]
   rfl)⟩,rfl,trivial⟩ trivial⟩
theorem xx (n:Int) (xs:List Int) (hL:xs.length≤1000000000):FnIs Try.prog 98 [.d (.arr 1 i6 xs),.int .i64 n] [] (.bool (xs.any fun y=>decide (n=y))) []:=by
 refine aE aa Try.func98 rfl rfl rfl ?_;refine sR<|rC<|nR ?_;refine zD ?_;refine rQ (aq (Ad n xs hL) rfl rfl (ak (ak ai)) (.inl rfl) (fun _=>rfl)) ?_;refine zD<|zT ?_
 exact⟨trivial,[],lg ⟨⟨_,rfl,AVLe.of_eq (by rw[←xd]; rfl)⟩,rfl,trivial⟩ trivial⟩
end Go.Proofs.Ytkehohfgbblokaa
namespace Go.Proofs.Ytkehohfgbblokaa
open Go.Eng Go.Plain
set_option maxHeartbeats 32000000
set_option maxRecDepth 20000
structure RdS where
 busy:List Int
 number:List Int
 era:Int
 read:Int
 all:List HOp
def fa:List Int:=[0,0,0,0,0,0,0,0]
def rd0:RdS:=⟨fa,fa,0,0,[]⟩
def kn4 (e:Int):Bool:=decide (e=0)||decide (e=1)||decide (e=8)||decide (e=9)
def inv1 (s:RdS) (x:HEv):Bool:=decide (0≤x.client)&&decide (x.client<8)&&decide (s.busy[x.client.toNat]?=some 0)&&decide (x.op.data.length≤64)&&decide (x.value=zBk)&&decide (x.err=0)
def opOf (s:RdS) (x:HEv):Option HOp:=match s.busy[x.client.toNat]? with
 | some b=>s.all[(b-1).toNat]?
 | none=>none
def ret1 (s:RdS) (x:HEv):Bool:=decide (0≤x.client)&&decide (x.client<8) && !decide (s.busy[x.client.toNat]?=some 0)&&decide (x.op=zOp)&&kn4 x.err&&(decide (x.value=zBk)||(match opOf s x with | some o=>decide (o.op.kind=1)&&decide (x.err=0) | none=>false))
def pX (x:HEv):Bool:=decide (x.client=0)&&decide (x.op=zOp)&&decide (x.value=zBk)&&decide (x.err=0)
def bW (s:RdS) (x:HEv):RdS×Bool :=
 let c:=x.client.toNat
 if x.kind=1 then
  if inv1 s x then (⟨s.busy.set c (s.all.length+1),s.number.set c ((s.number[c]?.getD 0)+1),s.era,s.read+1,s.all++[⟨x.client,s.number[c]?.getD 0,s.era,x.op,s.read,-1,zBk,0⟩]⟩,true)
  else ({ s with read:=s.read+1 },false)
 else if x.kind=2 then
  if ret1 s x then (⟨s.busy.set c 0,s.number,s.era,s.read+1,match opOf s x with | some o=>s.all.set ((s.busy[c]?.getD 0)-1).toNat { o with returned:=s.read,value:=x.value,err:=x.err } | none=>s.all⟩,true)
  else ({ s with read:=s.read+1 },false)
 else if x.kind=3 then (⟨fa,s.number,s.era+1,s.read+1,s.all⟩,pX x)
 else ({ s with read:=s.read+1 },false)
structure RdS.Ok (s:RdS) (n:Nat):Prop where
 blen:s.busy.length=8
 nlen:s.number.length=8
 busy:∀b∈s.busy,0≤b∧b≤s.all.length
 number:∀b∈s.number,0≤b∧b≤n
 era:0≤s.era∧s.era≤n
 read:s.read=n
 all:s.all.length≤n
theorem pF:rd0.Ok 0:=⟨rfl,rfl,by decide,by decide,by decide,rfl,by decide⟩
theorem RdS.Ok.next {s:RdS} {n:Nat} (h:s.Ok n) (x:HEv):(bW s x).1.Ok (n+1):=by
 have mset:∀ {l:List Int} {c:Nat} {v b:Int},b∈l.set c v→b=v∨b∈l:=fun hb=>by
  rcases List.mem_or_eq_of_mem_set hb with h | h
  ·exact .inr h
  ·exact .inl h
 have hnum:∀c:Nat,0≤s.number[c]?.getD 0∧s.number[c]?.getD 0≤n:=fun c=>by
  cases hc:s.number[c]? with
  | none=>simp
  | some b=>exact h.number b (List.mem_of_getElem? hc)
 have hbase:({ s with read:=s.read+1 }:RdS).Ok (n+1):=⟨h.blen,h.nlen,h.busy,fun b hb=>by have:=h.number b hb; omega,by have:=h.era; constructor <;> simp only <;> omega,by have:=h.read; simp only; omega,by have:=h.all; simp only; omega⟩
 have h1:=h.era
 have h2:=h.read
 have h3:=h.all
 unfold bW
 simp only
 by_cases k1:x.kind=1
 ·rw[if_pos k1]
  cases hi:inv1 s x with
  | false=>simpa using hbase
  | true =>
   simp only[if_pos]
   refine⟨by simp[h.blen],by simp[h.nlen],fun b hb=>?_,fun b hb=>?_,by constructor <;> simp only <;> omega,by simp only; omega,by simp; omega⟩
   ·rcases mset hb with rfl | hb
    ·constructor
     ·omega
     ·simp
    ·have:=h.busy b hb
     simp; omega
   ·rcases mset hb with rfl | hb
    ·have:=hnum x.client.toNat
     omega
    ·have:=h.number b hb; omega
 ·rw[if_neg k1]
  by_cases k2:x.kind=2
  ·rw[if_pos k2]
   cases hi:ret1 s x with
   | false=>simpa using hbase
   | true =>
    simp only[if_pos]
    have hl:(match opOf s x with | some o=>s.all.set ((s.busy[x.client.toNat]?.getD 0)-1).toNat { o with returned:=s.read,value:=x.value,err:=x.err } | none=>s.all).length=s.all.length:=by
     cases opOf s x <;> simp
    refine⟨by simp[h.blen],h.nlen,fun b hb=>?_,fun b hb=>by have:=h.number b hb; omega,by constructor <;> simp only <;> omega,by simp only; omega,by simp only[hl]; omega⟩
    simp only[hl]
    rcases mset hb with rfl | hb
    ·omega
    ·exact h.busy b hb
  ·rw[if_neg k2]
   by_cases k3:x.kind=3
   ·rw[if_pos k3]
    refine⟨rfl,h.nlen,fun b hb=>?_,fun b hb=>by have:=h.number b hb; omega,by constructor <;> simp only <;> omega,by simp only; omega,by simp only; omega⟩
    have:b=0:=by simpa[fa]using hb
    simp only
    omega
   ·rw[if_neg k3]; exact hbase
end Go.Proofs.Ytkehohfgbblokaa
namespace Go.Proofs.Ytkehohfgbblokaa
open Go.Eng Go.Plain
set_option maxHeartbeats 32000000
set_option maxRecDepth 20000
attribute [local irreducible] WC RegS RegD SeqQ BlkQ ScoQ RegK CutK Sat SatN FnIs LoopQ au OpIs
abbrev gY (s:RdS) (r:Nat):Row :=.box 157 (.acons (.d (.vec 8 1 i6 s.busy)) (.acons (.d (.vec 8 1 i6 s.number)) (.acons (.d (i6 s.era)) (.acons (.d (i6 s.read)) (.acons (.own r 0 s.all.length 41 none) .anil)))))
abbrev dL (l:List HOp):Row :=.ds 30 41 false bt l
abbrev iQ (s:RdS) (x:HEv) (s':RdS) (b:Bool):Prop:=FnIs Try.prog 90 [.ptr 0 [],.d (bY x)] [(0,gY s 1),(1,dL s.all)] (.bool b) [(0,gY s' 64),(64,dL s'.all)]
theorem sn (s:RdS) (x:HEv) (n:Nat) (hs:s.Ok n) (hn:n≤1000000) (k1:x.kind≠1) (k2:x.kind≠2) (k3:x.kind≠3) (c0:Bool) (h0:decide (0≤x.client)=c0):iQ s x { s with read:=s.read+1 } false:=by
 have hr:=hs.read
 have d1:decide (x.kind=1)=false:=dF k1
 have d2:decide (x.kind=2)=false:=dF k2
 have d3:decide (x.kind=3)=false:=dF k3
 have hw:IntKind.i64.wrap (s.read+1)=s.read+1:=aV (by omega) (by omega)
 refine aE aa Try.func90 rfl rfl rfl ?_;refine sR<|rN ?_;refine rC<|nR ?_;refine zU ?_;refine rQ iM ?_;refine rC<|nR ?_;refine zU ?_;refine rQ iM ?_;refine rQ iD ?_;refine zD ?_;refine bO (aL aa rfl rfl rfl ⟨_,⟨_,⟨rfl,rfl,rfl⟩,rfl⟩,rfl⟩ rfl)<|nR ?_;refine rC ?_;refine rQ iB ?_;refine zD ?_
 cases c0 with
 | false =>
  iterate 3 refine rS ?_
  refine rQ iF ?_;refine rC<|nR ?_;refine rC ?_;refine rQ iB ?_;refine rQ (bI aa rfl rfl rfl) ?_;refine rQ (dP rfl rfl rfl rfl (by kernel_rfl) (by decide) (cZ x.value zBk)) ?_;refine rC<|nQ<|zS ?_;refine rC ?_;refine rQ iB ?_;refine zD ?_;refine zG<|sR ?_;refine rC ?_;refine rQ iB ?_;refine zD ?_;refine zG<|sR ?_;refine rC ?_;refine rQ iB ?_;refine zD ?_;refine zG<|sR ?_;refine rC<|zT<|zB ?_
  exact⟨trivial,[(64,some 1)],lg zV ⟨zR,zR,trivial⟩⟩
 | true =>
  refine rO ?_;refine rC ?_;refine rO ?_;refine rQ iB ?_;refine rO ?_;refine rC ?_;refine rQ iT ?_;refine rC<|nR ?_;refine rC ?_;refine rQ iB ?_;refine rQ (bI aa rfl rfl rfl) ?_;refine rQ (dP rfl rfl rfl rfl (by kernel_rfl) (by decide) (cZ x.value zBk)) ?_;refine rC<|nQ<|zS ?_;refine rC ?_;refine rQ iB ?_;refine zD ?_;refine zG<|sR ?_;refine rC ?_;refine rQ iB ?_;refine zD ?_;refine zG<|sR ?_;refine rC ?_;refine rQ iB ?_;refine zD ?_;refine zG<|sR ?_;refine rC<|zT<|zB ?_
  exact⟨trivial,[(64,some 1)],lg zV ⟨zR,zR,trivial⟩⟩
theorem so (s:RdS) (x:HEv) (n:Nat) (hs:s.Ok n) (hn:n≤1000000) (k3:x.kind=3) (c0 c1 c2 c3:Bool) (h0:decide (0≤x.client)=c0) (h1:decide (x.client=0)=c1) (h2:decide (x.op=zOp)=c2) (h3:decide (x.value=zBk)=c3):iQ s x ⟨fa,s.number,s.era+1,s.read+1,s.all⟩ (c1&&c2&&c3&&decide (x.err=0)):=by
 have hr:=hs.read
 have he:=hs.era
 have d1:decide (x.kind=1)=false:=dF (by omega)
 have d2:decide (x.kind=2)=false:=dF (by omega)
 have d3:decide (x.kind=3)=true:=dT k3
 have hw:IntKind.i64.wrap (s.read+1)=s.read+1:=aV (by omega) (by omega)
 have hw2:IntKind.i64.wrap (s.era+1)=s.era+1:=aV (by omega) (by omega)
 refine aE aa Try.func90 rfl rfl rfl ?_;refine sR<|rN ?_;refine rC<|nR ?_;refine zU ?_;refine rQ iM ?_;refine rC<|nR ?_;refine zU ?_;refine rQ iM ?_;refine rQ iD ?_;refine zD ?_;refine bO (aL aa rfl rfl rfl ⟨_,⟨_,⟨rfl,rfl,rfl⟩,rfl⟩,rfl⟩ rfl)<|nR ?_;refine rC ?_;refine rQ iB ?_;refine zD ?_
 cases c0 with
 | false =>
  have e1:c1=false:=by rw[←h1]; exact dF (by have:=of_decide_eq_false h0; omega)
  subst e1
  iterate 3 refine rS ?_
  refine rQ iF ?_;refine rC<|nR ?_;refine rC ?_;refine rQ iB ?_;refine rQ (bI aa rfl rfl rfl) ?_;refine rQ (dP rfl rfl rfl rfl (by kernel_rfl) (by decide) (cZ x.value zBk)) ?_;refine rC<|nQ<|zS ?_;refine rC ?_;refine rQ iB ?_;refine zD ?_;refine zG<|sR ?_;refine rC ?_;refine rQ iB ?_;refine zD ?_;refine zG<|sR ?_;refine rC ?_;refine rQ iB ?_;refine zD ?_;refine zI<|sR ?_;refine zU ?_;refine rQ (lz aa rfl rfl rfl) ?_;refine bK rfl (pi (enc:=i6) (s:=1) (L:=8) aa (0:Int) rfl rfl rfl rfl rfl rfl rfl rfl ⟨_,⟨_,⟨rfl,rfl,rfl⟩,rfl⟩,rfl⟩) rfl rfl<|nR ?_;refine zU ?_;refine rQ iM ?_;refine rQ iD ?_;refine zD ?_;refine bO (aL aa rfl rfl rfl ⟨_,⟨_,⟨rfl,rfl,rfl⟩,rfl⟩,rfl⟩ rfl)<|nR ?_;refine rC ?_;refine rQ iB ?_;refine zD ?_
  iterate 3 refine rS ?_
  refine rQ iF ?_;refine rC ?_;refine rT ?_;refine rQ iG ?_;refine rC ?_;iterate 3 refine rT ?_
  refine rQ iG ?_;refine rC<|zT<|zB ?_
  exact⟨trivial,[(64,some 1)],lg zV ⟨zR,zR,trivial⟩⟩
 | true =>
  refine rO ?_;refine rC ?_;refine rO ?_;refine rQ iB ?_;refine rO ?_;refine rC ?_;refine rQ iT ?_;refine rC<|nR ?_;refine rC ?_;refine rQ iB ?_;refine rQ (bI aa rfl rfl rfl) ?_;refine rQ (dP rfl rfl rfl rfl (by kernel_rfl) (by decide) (cZ x.value zBk)) ?_;refine rC<|nQ<|zS ?_;refine rC ?_;refine rQ iB ?_;refine zD ?_;refine zG<|sR ?_;refine rC ?_;refine rQ iB ?_;refine zD ?_;refine zG<|sR ?_;refine rC ?_;refine rQ iB ?_;refine zD ?_;refine zI<|sR ?_;refine zU ?_;refine rQ (lz aa rfl rfl rfl) ?_;refine bK rfl (pi (enc:=i6) (s:=1) (L:=8) aa (0:Int) rfl rfl rfl rfl rfl rfl rfl rfl ⟨_,⟨_,⟨rfl,rfl,rfl⟩,rfl⟩,rfl⟩) rfl rfl<|nR ?_;refine zU ?_;refine rQ iM ?_;refine rQ iD ?_;refine zD ?_;refine bO (aL aa rfl rfl rfl ⟨_,⟨_,⟨rfl,rfl,rfl⟩,rfl⟩,rfl⟩ rfl)<|nR ?_;refine rC ?_;refine rQ iB ?_;refine zD ?_
  cases c1 with
  | false =>
   iterate 3 refine rS ?_
   refine rQ iF ?_;refine rC ?_;refine rT ?_;refine rQ iG ?_;refine rC ?_;iterate 3 refine rT ?_
   refine rQ iG ?_;refine rC<|zT<|zB ?_
   exact⟨trivial,[(64,some 1)],lg zV ⟨zR,zR,trivial⟩⟩
  | true =>
   refine rO ?_;refine rC ?_;refine rO ?_;refine rQ iB ?_;refine rO ?_;refine rQ (aq (nT x.op) rfl rfl (ak ai) (.inl rfl) (fun _=>rfl)) ?_;refine rQ iT ?_;refine rC ?_
   cases c2 with
   | false =>
    refine rS ?_;refine rQ iF ?_;refine rC ?_;iterate 3 refine rT ?_
    refine rQ iG ?_;refine rC<|zT<|zB ?_
    exact⟨trivial,[(64,some 1)],lg zV ⟨zR,zR,trivial⟩⟩
   | true =>
    refine rO ?_;refine rC ?_;refine rQ iT ?_;refine rC ?_
    cases c3 with
    | false =>
     iterate 3 refine rS ?_
     refine rQ iF ?_;refine rC<|zT<|zB ?_
     exact⟨trivial,[(64,some 1)],lg zV ⟨zR,zR,trivial⟩⟩
    | true =>
     refine rO ?_;refine rC ?_;refine rO ?_;refine rQ iB ?_;refine rO ?_;refine rC ?_;refine rQ iT ?_;refine rC<|zT<|zB ?_
     exact⟨trivial,[(64,some 1)],lg zV ⟨zR,zR,trivial⟩⟩
theorem vP (s:RdS) (x:HEv) (n:Nat) (hs:s.Ok n) (hn:n≤1000000) (k1:x.kind=1) (m:Int) (hc0:0≤x.client) (hc8:x.client<8) (hbg:s.busy[x.client.toNat]?=some 0) (hng:s.number[x.client.toNat]?=some m) (hd64:x.op.data.length≤64) (hval:x.value=zBk) (herr:x.err=0) :
  iQ s x ⟨s.busy.set x.client.toNat ((s.all.length+1:Nat):Int),s.number.set x.client.toNat (m+1),s.era,s.read+1,s.all++[⟨x.client,m,s.era,x.op,s.read,-1,zBk,0⟩]⟩ true:=by
 have hr:=hs.read
 have ha:=hs.all
 have hm:=hs.number m (List.mem_of_getElem? hng)
 have d1:decide (x.kind=1)=true:=dT k1
 have c0:decide (0≤x.client)=true:=dT hc0
 have c8:decide (x.client<8)=true:=dT hc8
 have n8:(!decide (x.client<8))=false:=by rw[c8]; rfl
 have b0:decide ((0:Int)<0)=false:=rfl
 have l64:decide ((64:Int)<((byI x.op.data).length:Int))=false:=dF (by rw[fD]; omega)
 have v0:(!decide (x.value=zBk))=false:=by rw[dT hval]; rfl
 have e0:(!decide (x.err=0))=false:=by rw[dT herr]; rfl
 have hw:IntKind.i64.wrap (s.read+1)=s.read+1:=aV (by omega) (by omega)
 have hwm:IntKind.i64.wrap (m+1)=m+1:=aV (by omega) (by omega)
 have hlen:x.op.data.length≤1048576:=by omega
 have hal:s.all.length+1≤1048576:=by omega
 simp only[iQ,gY,List.length_append,List.length_cons,List.length_nil,Nat.zero_add]
 refine aE aa Try.func90 rfl rfl rfl ?_;refine sR<|rN ?_;refine rC<|nR ?_;refine zU ?_;refine rQ iM ?_;refine rC<|nR ?_;refine zU ?_;refine rQ iM ?_;refine rQ iD ?_;refine zD ?_;refine bO (aL aa rfl rfl rfl ⟨_,⟨_,⟨rfl,rfl,rfl⟩,rfl⟩,rfl⟩ rfl)<|nR ?_;refine rC ?_;refine rQ iB ?_;refine zD ?_;refine rO ?_;refine rC ?_;refine rO ?_;refine rQ iB ?_;refine rO ?_;refine rC ?_;refine rQ iT ?_;refine rC<|nR ?_;refine rC ?_;refine rQ iB ?_;refine rQ (bI aa rfl rfl rfl) ?_;refine rQ (dP rfl rfl rfl rfl (by kernel_rfl) (by decide) (cZ x.value zBk)) ?_;refine rC<|nQ<|zS ?_;refine rC ?_;refine rQ iB ?_;refine zD ?_;refine zI ?_;iterate 2 refine aS ?_
 refine aA (by kernel_rfl) ?_;refine dC [6] [] ?_;refine dC [37] [] ?_;refine dC [38] [] ?_;refine ab [39,0] [] rfl rfl (by assumption) rfl (an aa (fun K hk=>hk)) ?_;refine ab [39,3] [] rfl rfl (by assumption) rfl (an aa (fun K hk=>hk)) ?_;refine ab [39,41] [64] rfl rfl (by assumption) rfl (aK aa rfl rfl ⟨_,rfl,rfl⟩ rfl) ?_;refine ab [39,40] [] rfl rfl (by assumption) rfl (an aa (fun K hk=>hk)) ?_;refine ab [39,43] [] rfl rfl (by assumption) rfl (an aa (fun K hk=>hk)) ?_;refine ab [39,44,42] [] rfl rfl (by assumption) rfl (an aa (fun K hk=>⟨by omega,by omega,hk⟩)) ?_;refine ab [39,45] [0] rfl rfl (by assumption) rfl (aK aa rfl rfl ⟨_,⟨rfl,_,hbg,rfl⟩,rfl⟩ rfl) ?_;refine ab [39,46] [] rfl rfl (by assumption) rfl (an aa (fun K hk=>hk)) ?_;refine dQ [39,47] [] iF ?_;refine dC [48] [] ?_;refine ab [49,3] [] rfl rfl rfl rfl (an aa (fun K hk=>hk)) ?_;refine ab [49,50] [] rfl rfl rfl rfl (an aa (fun K hk=>hk)) ?_;refine ab [49,51] [64] rfl rfl rfl rfl (aK aa rfl rfl ⟨_,rfl,rfl⟩ rfl) ?_;refine ab [49,52] [] rfl rfl rfl rfl (jE aa rfl rfl) ?_;refine ab [49,53] [] rfl rfl rfl rfl (an aa (fun K hk=>hk)) ?_;refine dQ [49,54] [] iG ?_;refine dC [55] [] ?_;refine ab [56,7] [] rfl rfl (by assumption) rfl (an aa (fun K hk=>hk)) ?_;refine ab [56,57] [] rfl rfl (by assumption) rfl (an aa (fun K hk=>hk)) ?_;refine dQ [56,58] [] iF ?_;refine dC [59] [] ?_;refine ab [60,3] [] rfl rfl (by assumption) rfl (an aa (fun K hk=>hk)) ?_;refine ab [60,61] [64] rfl rfl (by assumption) rfl (aK aa rfl rfl ⟨_,rfl,rfl⟩ rfl) ?_;refine ab [60,62] [] rfl rfl (by assumption) rfl (an aa (fun K hk=>hk)) ?_;refine dQ [60,63] [] iF ?_;refine am (by kernel_rfl)<|aG ?_;refine wF<|kS<|sR ?_;refine zD ?_;refine rQ iB ?_;refine rQ (aq (As x.op.data hlen) rfl rfl (ak ai) (.inl rfl) (fun _=>rfl)) ?_;refine zD ?_;refine bO (aL aa rfl rfl rfl ⟨_,⟨_,⟨_,⟨_,⟨rfl,rfl,rfl⟩,rfl⟩,rfl⟩,rfl⟩,rfl⟩ rfl)<|nQ ?_;refine aA (by kernel_rfl) ?_;iterate 2 refine dC [0] [] ?_
 refine dC [72] [] ?_;refine dC [73] [] ?_;refine dQ [74] [0] iM ?_;refine dC [3] [] ?_;refine dQ [76] [64] iB ?_;refine dC [0] [] ?_;refine dC [3] [] ?_;refine dQ [79] [64] iB ?_;refine dC [78] [] ?_;refine dC [81] [] ?_;refine dQ [82,80] [] (an aa (fun K hk=>⟨by omega,by omega,hk⟩)) ?_;refine dQ [83] [0] (aK aa rfl rfl ⟨_,⟨rfl,_,hng,rfl⟩,rfl⟩ rfl) ?_;refine dC [0] [] ?_;refine dC [85] [] ?_;refine dC [86] [] ?_;refine dQ [87] [0] iM ?_;refine dC [3] [] ?_;refine dQ [89] [64] iB ?_;refine dC [5] [] ?_;refine dQ [77,84,88,90,91] [] iS ?_;refine cY [92] [] rfl (aD (s:=41) aa rfl rfl rfl rfl rfl rfl rfl rfl) ?_;refine iH [75,93] [1,784] rfl (aQ (enc:=bt) (s:=41) (xs:=s.all) aa ⟨x.client,m,s.era,x.op,s.read,-1,zBk,0⟩ rfl rfl rfl rfl rfl rfl rfl rfl rfl hal rfl) ?_;refine dC [71] [] ?_;refine dC [95] [] ?_;refine bu [96,94] [0] (aL aa rfl rfl rfl ⟨_,⟨_,⟨rfl,rfl,rfl⟩,rfl⟩,rfl⟩ rfl) ?_;refine am (by kernel_rfl)<|aG<|aS ?_;refine aA (by kernel_rfl) ?_;refine dC [0] [] ?_;refine dC [3] [] ?_;refine dQ [98] [64] iB ?_;refine dC [97] [] ?_;refine dC [100] [] ?_;refine dQ [101,99] [] (an aa (fun K hk=>⟨by omega,by omega,hk⟩)) ?_;refine dQ [102] [0] (aK aa rfl rfl ⟨_,⟨rfl,_,hng,rfl⟩,rfl⟩ rfl) ?_;refine dQ [103] [] iD ?_;refine dC [97] [] ?_;refine dC [105] [] ?_;refine dQ [106,99] [] (an aa (fun K hk=>⟨by omega,by omega,hk⟩)) ?_;refine bu [107,104] [0] (aL aa rfl rfl rfl ⟨_,⟨_,⟨_,⟨rfl,_,m+1,hng,⟨rfl,rfl,rfl⟩,rfl⟩,rfl⟩,rfl⟩,rfl⟩ rfl) ?_;refine am (by kernel_rfl)<|aG ?_;refine aA (by kernel_rfl) ?_;refine dC [0] [] ?_;refine dC [3] [] ?_;refine dQ [109] [64] iB ?_;refine dC [0] [] ?_;refine dC [111] [] ?_;refine dC [112] [] ?_;refine dQ [113] [0] iM ?_;refine dQ [114] [792] (bS aa rfl rfl) ?_;refine dC [108] [] ?_;refine dC [116] [] ?_;refine dQ [117,110] [] (an aa (fun K hk=>⟨by omega,by omega,hk⟩)) ?_;refine bu [118,115] [0] (aL aa rfl rfl rfl ⟨_,⟨_,⟨_,⟨rfl,_,((s.all.length+1:Nat):Int),hbg,⟨rfl,rfl,rfl⟩,rfl⟩,rfl⟩,rfl⟩,rfl⟩ rfl) ?_;refine am (by kernel_rfl)<|zC<|sR ?_;refine rC<|zT ?_
 exact⟨trivial,[(64,some _)],lg zV ⟨zR,zR,trivial⟩⟩
theorem qf (s:RdS) (x:HEv) (n:Nat) (hs:s.Ok n) (hn:n≤1000000) (k1:x.kind=1) (hno:inv1 s x=false):iQ s x { s with read:=s.read+1 } false:=by
 have hr:=hs.read
 have d1:decide (x.kind=1)=true:=dT k1
 have hw:IntKind.i64.wrap (s.read+1)=s.read+1:=aV (by omega) (by omega)
 refine aE aa Try.func90 rfl rfl rfl ?_;refine sR<|rN ?_;refine rC<|nR ?_;refine zU ?_;refine rQ iM ?_;refine rC<|nR ?_;refine zU ?_;refine rQ iM ?_;refine rQ iD ?_;refine zD ?_;refine bO (aL aa rfl rfl rfl ⟨_,⟨_,⟨rfl,rfl,rfl⟩,rfl⟩,rfl⟩ rfl)<|nR ?_;refine rC ?_;refine rQ iB ?_;refine zD ?_
 by_cases hc0:0≤x.client
 ·have c0:decide (0≤x.client)=true:=dT hc0
  refine rO ?_;refine rC ?_;refine rO ?_;refine rQ iB ?_;refine rO ?_;refine rC ?_;refine rQ iT ?_;refine rC<|nR ?_;refine rC ?_;refine rQ iB ?_;refine rQ (bI aa rfl rfl rfl) ?_;refine rQ (dP rfl rfl rfl rfl (by kernel_rfl) (by decide) (cZ x.value zBk)) ?_;refine rC<|nQ<|zS ?_;refine rC ?_;refine rQ iB ?_;refine zD ?_;refine zI ?_;iterate 2 refine aS ?_
  refine aA (by kernel_rfl) ?_;refine dC [6] [] ?_;refine dC [37] [] ?_;refine dC [38] [] ?_
  by_cases hc8:x.client<8
  ·have c8:decide (x.client<8)=true:=dT hc8
   have n8:(!decide (x.client<8))=false:=by rw[c8]; rfl
   obtain⟨b,hbg⟩:∃b,s.busy[x.client.toNat]?=some b:=⟨_,List.getElem?_eq_getElem (by rw[hs.blen]; omega)⟩
   have hb:=hs.busy b (List.mem_of_getElem? hbg)
   refine ab [39,0] [] rfl rfl (by assumption) rfl (an aa (fun K hk=>hk)) ?_;refine ab [39,3] [] rfl rfl (by assumption) rfl (an aa (fun K hk=>hk)) ?_;refine ab [39,41] [64] rfl rfl (by assumption) rfl (aK aa rfl rfl ⟨_,rfl,rfl⟩ rfl) ?_;refine ab [39,40] [] rfl rfl (by assumption) rfl (an aa (fun K hk=>hk)) ?_;refine ab [39,43] [] rfl rfl (by assumption) rfl (an aa (fun K hk=>hk)) ?_;refine ab [39,44,42] [] rfl rfl (by assumption) rfl (an aa (fun K hk=>⟨by omega,by omega,hk⟩)) ?_;refine ab [39,45] [0] rfl rfl (by assumption) rfl (aK aa rfl rfl ⟨_,⟨rfl,_,hbg,rfl⟩,rfl⟩ rfl) ?_;refine ab [39,46] [] rfl rfl (by assumption) rfl (an aa (fun K hk=>hk)) ?_;refine dQ [39,47] [] iF ?_;refine dC [48] [] ?_
   by_cases hb0:b=0
   ·have b0:decide (0<b)=false:=dF (by omega)
    refine ab [49,3] [] rfl rfl (by assumption) rfl (an aa (fun K hk=>hk)) ?_;refine ab [49,50] [] rfl rfl (by assumption) rfl (an aa (fun K hk=>hk)) ?_;refine ab [49,51] [64] rfl rfl (by assumption) rfl (aK aa rfl rfl ⟨_,rfl,rfl⟩ rfl) ?_;refine ab [49,52] [] rfl rfl (by assumption) rfl (jE aa rfl rfl) ?_;refine ab [49,53] [] rfl rfl (by assumption) rfl (an aa (fun K hk=>hk)) ?_;refine dQ [49,54] [] iF ?_;refine dC [55] [] ?_
    by_cases hd:x.op.data.length≤64
    ·have l64:decide ((64:Int)<((byI x.op.data).length:Int))=false:=dF (by rw[fD]; omega)
     refine ab [56,7] [] rfl rfl (by assumption) rfl (an aa (fun K hk=>hk)) ?_;refine ab [56,57] [] rfl rfl (by assumption) rfl (an aa (fun K hk=>hk)) ?_;refine dQ [56,58] [] iF ?_;refine dC [59] [] ?_
     by_cases hv:x.value=zBk
     ·have v0:(!decide (x.value=zBk))=false:=by rw[dT hv]; rfl
      have e0:(!decide (x.err=0))=true:=by
       skip
       cases h:decide (x.err=0) with
       | false=>rfl
       | true =>
        rw[inv1,c0,c8,hbg,hb0,dT hd,dT hv,h]at hno
        cases hno
      refine ab [60,3] [] rfl rfl (by assumption) rfl (an aa (fun K hk=>hk)) ?_;refine ab [60,61] [64] rfl rfl (by assumption) rfl (aK aa rfl rfl ⟨_,rfl,rfl⟩ rfl) ?_;refine ab [60,62] [] rfl rfl (by assumption) rfl (an aa (fun K hk=>hk)) ?_;refine dQ [60,63] [] iF ?_;refine am (by kernel_rfl)<|aG ?_;refine wT<|sR ?_;refine rC<|zT<|bA<|zB ?_
      exact⟨trivial,[(64,some 1)],lg zV ⟨zR,zR,trivial⟩⟩
     ·have v0:(!decide (x.value=zBk))=true:=by rw[dF hv]; rfl
      refine ae [60,3] rfl rfl (by assumption) rfl ?_;refine ae [60,61] rfl rfl (by assumption) rfl ?_;refine ae [60,62] rfl rfl (by assumption) rfl ?_;refine dQ [60,63] [] iT ?_;refine am (by kernel_rfl)<|aG ?_;refine wV<|sR ?_;refine rC<|zT<|bA<|zB ?_
      exact⟨trivial,[(64,some 1)],lg zV ⟨zR,zR,trivial⟩⟩
    ·have l64:decide ((64:Int)<((byI x.op.data).length:Int))=true:=dT (by rw[fD]; omega)
     refine ae [56,7] rfl rfl (by assumption) rfl ?_;refine ae [56,57] rfl rfl (by assumption) rfl ?_;refine dQ [56,58] [] iT ?_;refine dC [59] [] ?_;refine ae [60,3] rfl rfl rfl rfl ?_;refine ae [60,61] rfl rfl rfl rfl ?_;refine ae [60,62] rfl rfl rfl rfl ?_;refine dQ [60,63] [] iU ?_;refine am (by kernel_rfl)<|aG ?_;refine wV<|sR ?_;refine rC<|zT<|bA<|zB ?_
     exact⟨trivial,[(64,some 1)],lg zV ⟨zR,zR,trivial⟩⟩
   ·have b0:decide (0<b)=true:=dT (by omega)
    refine ae [49,3] rfl rfl (by assumption) rfl ?_;refine ae [49,50] rfl rfl (by assumption) rfl ?_;refine ae [49,51] rfl rfl (by assumption) rfl ?_;refine ae [49,52] rfl rfl (by assumption) rfl ?_;refine ae [49,53] rfl rfl (by assumption) rfl ?_;refine dQ [49,54] [] iT ?_;refine dC [55] [] ?_;refine ae [56,7] rfl rfl rfl rfl ?_;refine ae [56,57] rfl rfl rfl rfl ?_;refine dQ [56,58] [] iU ?_;refine dC [59] [] ?_;refine ae [60,3] rfl rfl rfl rfl ?_;refine ae [60,61] rfl rfl rfl rfl ?_;refine ae [60,62] rfl rfl rfl rfl ?_;refine dQ [60,63] [] iU ?_;refine am (by kernel_rfl)<|aG ?_;refine wV<|sR ?_;refine rC<|zT<|bA<|zB ?_
    exact⟨trivial,[(64,some 1)],lg zV ⟨zR,zR,trivial⟩⟩
  ·have c8:decide (x.client<8)=false:=dF hc8
   have n8:(!decide (x.client<8))=true:=by rw[c8]; rfl
   refine ae [39,0] rfl rfl (by assumption) rfl ?_;refine ae [39,3] rfl rfl (by assumption) rfl ?_;refine ae [39,41] rfl rfl (by assumption) rfl ?_;refine ae [39,40] rfl rfl (by assumption) rfl ?_;refine ae [39,43] rfl rfl (by assumption) rfl ?_;refine ae [39,44,42] rfl rfl (by assumption) rfl ?_;refine ae [39,45] rfl rfl (by assumption) rfl ?_;refine ae [39,46] rfl rfl (by assumption) rfl ?_;refine dQ [39,47] [] iT ?_;refine dC [48] [] ?_;refine ae [49,3] rfl rfl rfl rfl ?_;refine ae [49,50] rfl rfl rfl rfl ?_;refine ae [49,51] rfl rfl rfl rfl ?_;refine ae [49,52] rfl rfl rfl rfl ?_;refine ae [49,53] rfl rfl rfl rfl ?_;refine dQ [49,54] [] iU ?_;refine dC [55] [] ?_;refine ae [56,7] rfl rfl rfl rfl ?_;refine ae [56,57] rfl rfl rfl rfl ?_;refine dQ [56,58] [] iU ?_;refine dC [59] [] ?_;refine ae [60,3] rfl rfl rfl rfl ?_;refine ae [60,61] rfl rfl rfl rfl ?_;refine ae [60,62] rfl rfl rfl rfl ?_;refine dQ [60,63] [] iU ?_;refine am (by kernel_rfl)<|aG ?_;refine wV<|sR ?_;refine rC<|zT<|bA<|zB ?_
   exact⟨trivial,[(64,some 1)],lg zV ⟨zR,zR,trivial⟩⟩
 ·have c0:decide (0≤x.client)=false:=dF hc0
  iterate 3 refine rS ?_
  refine rQ iF ?_;refine rC<|nR ?_;refine rC ?_;refine rQ iB ?_;refine rQ (bI aa rfl rfl rfl) ?_;refine rQ (dP rfl rfl rfl rfl (by kernel_rfl) (by decide) (cZ x.value zBk)) ?_;refine rC<|nQ<|zS ?_;refine rC ?_;refine rQ iB ?_;refine zD ?_;refine zI ?_;iterate 2 refine aS ?_
  refine aA (by kernel_rfl) ?_;refine dC [6] [] ?_;refine dC [37] [] ?_;refine dC [38] [] ?_;refine ae [39,0] rfl rfl rfl rfl ?_;refine ae [39,3] rfl rfl rfl rfl ?_;refine ae [39,41] rfl rfl rfl rfl ?_;refine ae [39,40] rfl rfl rfl rfl ?_;refine ae [39,43] rfl rfl rfl rfl ?_;refine ae [39,44,42] rfl rfl rfl rfl ?_;refine ae [39,45] rfl rfl rfl rfl ?_;refine ae [39,46] rfl rfl rfl rfl ?_;refine dQ [39,47] [] iU ?_;refine dC [48] [] ?_;refine ae [49,3] rfl rfl rfl rfl ?_;refine ae [49,50] rfl rfl rfl rfl ?_;refine ae [49,51] rfl rfl rfl rfl ?_;refine ae [49,52] rfl rfl rfl rfl ?_;refine ae [49,53] rfl rfl rfl rfl ?_;refine dQ [49,54] [] iU ?_;refine dC [55] [] ?_;refine ae [56,7] rfl rfl rfl rfl ?_;refine ae [56,57] rfl rfl rfl rfl ?_;refine dQ [56,58] [] iU ?_;refine dC [59] [] ?_;refine ae [60,3] rfl rfl rfl rfl ?_;refine ae [60,61] rfl rfl rfl rfl ?_;refine ae [60,62] rfl rfl rfl rfl ?_;refine dQ [60,63] [] iU ?_;refine am (by kernel_rfl)<|aG ?_;refine wV<|sR ?_;refine rC<|zT<|bA<|zB ?_
  exact⟨trivial,[(64,some 1)],lg zV ⟨zR,zR,trivial⟩⟩
theorem tM (e:Int):([0,1,8,9]:List Int).any (fun y=>decide (e=y))=kn4 e:=by simp[kn4,Bool.or_assoc]
theorem sl (s:RdS) (x:HEv) (n:Nat) (hs:s.Ok n) (hn:n≤1000000) (k2:x.kind=2) (b:Int) (o:HOp) (hc0:0≤x.client) (hc8:x.client<8) (hbg:s.busy[x.client.toNat]?=some b) (hb0:b≠0) (hog:s.all[(b-1).toNat]?=some o) (hz:x.op=zOp) (c1 c2 c3:Bool) (h1:(!([0,1,8,9]:List Int).any (fun y=>decide (x.err=y)))=c1) (h2:(!decide (x.value=zBk))=c2) (h3:(!decide (o.op.kind=1))=c3) (h4:(c1||c2&&(c3 || !decide (x.err=0)))=false) :
  iQ s x ⟨s.busy.set x.client.toNat 0,s.number,s.era,s.read+1,s.all.set (b-1).toNat { o with returned:=s.read,value:=x.value,err:=x.err }⟩ true:=by
 have hr:=hs.read
 have ha:=hs.all
 have hb:=hs.busy b (List.mem_of_getElem? hbg)
 have d1:decide (x.kind=1)=false:=dF (by omega)
 have d2:decide (x.kind=2)=true:=dT k2
 have c0:decide (0≤x.client)=true:=dT hc0
 have c8:decide (x.client<8)=true:=dT hc8
 have n8:(!decide (x.client<8))=false:=by rw[c8]; rfl
 have b0:decide (b=0)=false:=dF hb0
 have z0:(!decide (x.op=zOp))=false:=by rw[dT hz]; rfl
 have hw:IntKind.i64.wrap (s.read+1)=s.read+1:=aV (by omega) (by omega)
 have hwb:IntKind.i64.wrap (b-1)=b-1:=aV (by omega) (by omega)
 have hlt:b-1<(s.all.length:Int):=by omega
 have hge:0≤b-1:=by omega
 have hjl:=(List.getElem?_eq_some_iff.1 hog).1
 have hog1:(s.all.set (b-1).toNat { o with returned:=s.read })[(b-1).toNat]?=some { o with returned:=s.read }:=List.getElem?_set_self hjl
 have hog2:(s.all.set (b-1).toNat { o with returned:=s.read,value:=x.value })[(b-1).toNat]?=some { o with returned:=s.read,value:=x.value }:=List.getElem?_set_self hjl
 simp only[iQ,gY,List.length_set]
 refine aE aa Try.func90 rfl rfl rfl ?_;refine sR<|rN ?_;refine rC<|nR ?_;refine zU ?_;refine rQ iM ?_;refine rC<|nR ?_;refine zU ?_;refine rQ iM ?_;refine rQ iD ?_;refine zD ?_;refine bO (aL aa rfl rfl rfl ⟨_,⟨_,⟨rfl,rfl,rfl⟩,rfl⟩,rfl⟩ rfl)<|nR ?_;refine rC ?_;refine rQ iB ?_;refine zD ?_;refine rO ?_;refine rC ?_;refine rO ?_;refine rQ iB ?_;refine rO ?_;refine rC ?_;refine rQ iT ?_;refine rC<|nR ?_;refine rC ?_;refine rQ iB ?_;refine rQ (bI aa rfl rfl rfl) ?_;refine rQ (dP rfl rfl rfl rfl (by kernel_rfl) (by decide) (cZ x.value zBk)) ?_;refine rC<|nQ<|zS ?_;refine rC ?_;refine rQ iB ?_;refine zD ?_;refine zG<|sR ?_;refine rC ?_;refine rQ iB ?_;refine zD ?_;refine zI ?_;iterate 2 refine aS ?_
 refine aA (by kernel_rfl) ?_;refine dC [6] [] ?_;refine dC [123] [] ?_;refine dC [124] [] ?_;refine ab [125,0] [] rfl rfl (by assumption) rfl (an aa (fun K hk=>hk)) ?_;refine ab [125,3] [] rfl rfl (by assumption) rfl (an aa (fun K hk=>hk)) ?_;refine ab [125,127] [64] rfl rfl (by assumption) rfl (aK aa rfl rfl ⟨_,rfl,rfl⟩ rfl) ?_;refine ab [125,126] [] rfl rfl (by assumption) rfl (an aa (fun K hk=>hk)) ?_;refine ab [125,129] [] rfl rfl (by assumption) rfl (an aa (fun K hk=>hk)) ?_;refine ab [125,130,128] [] rfl rfl (by assumption) rfl (an aa (fun K hk=>⟨by omega,by omega,hk⟩)) ?_;refine ab [125,131] [0] rfl rfl (by assumption) rfl (aK aa rfl rfl ⟨_,⟨rfl,_,hbg,rfl⟩,rfl⟩ rfl) ?_;refine ab [125,132] [] rfl rfl (by assumption) rfl (an aa (fun K hk=>hk)) ?_;refine dQ [125,133] [] iF ?_;refine dC [134] [] ?_;refine ab [135,3] [] rfl rfl (by assumption) rfl (an aa (fun K hk=>hk)) ?_;refine ab [135,136] [64] rfl rfl (by assumption) rfl (aK aa rfl rfl ⟨_,rfl,rfl⟩ rfl) ?_;refine ab [135,137] [] rfl rfl (by assumption) rfl (aq (nT x.op) rfl rfl (ak ai) (.inl rfl) (fun _=>rfl)) ?_;refine ab [135,138] [] rfl rfl (by assumption) rfl (an aa (fun K hk=>hk)) ?_;refine dQ [135,139] [] iF ?_;refine am (by kernel_rfl)<|aG ?_;refine wF<|zQ ?_;refine aA (by kernel_rfl) ?_;refine dC [0] [] ?_;refine dC [141] [] ?_;refine dC [142] [] ?_;refine dQ [143] [0] iM ?_;refine dC [0] [] ?_;refine dC [3] [] ?_;refine dQ [146] [64] iB ?_;refine dC [145] [] ?_;refine dC [148] [] ?_;refine dQ [149,147] [] (an aa (fun K hk=>⟨by omega,by omega,hk⟩)) ?_;refine dQ [150] [0] (aK aa rfl rfl ⟨_,⟨rfl,_,hbg,rfl⟩,rfl⟩ rfl) ?_;refine dQ [151] [] (ce aa rfl rfl hwb) ?_;refine dQ [144,152] [] (aP aa rfl rfl rfl rfl rfl (by omega) (by omega)) ?_;refine dC [153] [] ?_;refine am (by kernel_rfl)<|aG<|sR ?_;refine rQ (au.frozen (aD (s:=1) aa rfl rfl rfl rfl rfl rfl rfl rfl) (Frz.litsN (enc:=i6) [0,1,8,9] rfl (fun _ _=>rfl))) ?_;refine rC ?_;refine rQ iB ?_;refine rQ (aq (xx x.err [0,1,8,9] (by decide)) rfl rfl (ak (ak ai)) (.inl rfl) (fun _=>rfl)) ?_;refine rC<|zW ?_;refine zU ?_
 cases c1 with
 | true=>cases h4
 | false =>
  refine rO ?_;refine rC ?_;refine rO ?_;refine rC ?_;refine rO ?_;refine rC ?_
  cases c2 with
  | false =>
   iterate 7 refine rS ?_
   iterate 3 refine rU ?_
   refine rS ?_;refine rO ?_;iterate 2 refine rQ iF ?_
   refine zJ<|zQ ?_;refine aA (by kernel_rfl) ?_;iterate 3 refine dC [8] [] ?_
   refine dC [5] [] ?_;refine dC [3] [] ?_;refine dQ [181] [64] iB ?_;refine dC [3] [] ?_;refine dQ [183] [64] iB ?_;refine dC [177] [] ?_;refine dC [185] [] ?_;refine bu [186,180] [1] (aL (row':=dL (s.all.set (b-1).toNat { o with returned:=s.read })) aa rfl rfl rfl ⟨rfl,o, { o with returned:=s.read },hog,⟨_,⟨rfl,rfl,rfl⟩,rfl⟩,rfl⟩ rfl) ?_;refine dC [178] [] ?_;refine dC [187] [] ?_;refine bu [188,182] [1] (aL (row':=dL (s.all.set (b-1).toNat { o with returned:=s.read,value:=x.value })) aa rfl rfl rfl ⟨rfl,_, { o with returned:=s.read,value:=x.value },hog1,⟨_,⟨rfl,rfl,rfl⟩,rfl⟩,(by rw[List.set_set])⟩ rfl) ?_;refine dC [179] [] ?_;refine dC [189] [] ?_;refine bu [190,184] [1] (aL (row':=dL (s.all.set (b-1).toNat { o with returned:=s.read,value:=x.value,err:=x.err })) aa rfl rfl rfl ⟨rfl,_, { o with returned:=s.read,value:=x.value,err:=x.err },hog2,⟨_,⟨rfl,rfl,rfl⟩,rfl⟩,(by rw[List.set_set])⟩ rfl) ?_;refine am (by kernel_rfl)<|aG ?_;refine aA (by kernel_rfl) ?_;refine dC [0] [] ?_;refine dC [3] [] ?_;refine dQ [192] [64] iB ?_;refine dC [191] [] ?_;refine dC [194] [] ?_;refine dQ [195,193] [] (an aa (fun K hk=>⟨by omega,by omega,hk⟩)) ?_;refine bu [196] [0] (aL aa rfl rfl rfl ⟨_,⟨_,⟨_,⟨rfl,_,0,hbg,⟨rfl,rfl,rfl⟩,rfl⟩,rfl⟩,rfl⟩,rfl⟩ rfl) ?_;refine am (by kernel_rfl)<|zC<|sR ?_;refine rC<|zT ?_
   exact⟨trivial,[(64,some 1)],lg zV ⟨zR,zR,trivial⟩⟩
  | true =>
   refine rO ?_;refine rC ?_;refine rO ?_;refine rC ?_;refine rO ?_;refine rC ?_;refine rO ?_;refine rC ?_;refine rO ?_;refine rQ (bd aa rfl rfl ⟨rfl,o,hog,_,rfl,rfl⟩ rfl) ?_;refine rO ?_;refine rC ?_;refine rO ?_;refine rC ?_
   cases c3 with
   | true=>cases h4
   | false =>
    have e0:(!decide (x.err=0))=false:=h4
    refine rO ?_;refine rC ?_;refine rO ?_;refine rQ iB ?_;refine rO ?_;refine rC ?_;refine rO ?_;refine rQ iF ?_;refine rO ?_;refine rQ iT ?_;refine rQ iF<|nS ?_;refine wF<|zQ ?_;refine aA (by kernel_rfl) ?_;iterate 3 refine dC [8] [] ?_
    refine dC [5] [] ?_;refine dC [3] [] ?_;refine dQ [181] [64] iB ?_;refine dC [3] [] ?_;refine dQ [183] [64] iB ?_;refine dC [177] [] ?_;refine dC [185] [] ?_;refine bu [186,180] [1] (aL (row':=dL (s.all.set (b-1).toNat { o with returned:=s.read })) aa rfl rfl rfl ⟨rfl,o, { o with returned:=s.read },hog,⟨_,⟨rfl,rfl,rfl⟩,rfl⟩,rfl⟩ rfl) ?_;refine dC [178] [] ?_;refine dC [187] [] ?_;refine bu [188,182] [1] (aL (row':=dL (s.all.set (b-1).toNat { o with returned:=s.read,value:=x.value })) aa rfl rfl rfl ⟨rfl,_, { o with returned:=s.read,value:=x.value },hog1,⟨_,⟨rfl,rfl,rfl⟩,rfl⟩,(by rw[List.set_set])⟩ rfl) ?_;refine dC [179] [] ?_;refine dC [189] [] ?_;refine bu [190,184] [1] (aL (row':=dL (s.all.set (b-1).toNat { o with returned:=s.read,value:=x.value,err:=x.err })) aa rfl rfl rfl ⟨rfl,_, { o with returned:=s.read,value:=x.value,err:=x.err },hog2,⟨_,⟨rfl,rfl,rfl⟩,rfl⟩,(by rw[List.set_set])⟩ rfl) ?_;refine am (by kernel_rfl)<|aG ?_;refine aA (by kernel_rfl) ?_;refine dC [0] [] ?_;refine dC [3] [] ?_;refine dQ [192] [64] iB ?_;refine dC [191] [] ?_;refine dC [194] [] ?_;refine dQ [195,193] [] (an aa (fun K hk=>⟨by omega,by omega,hk⟩)) ?_;refine bu [196] [0] (aL aa rfl rfl rfl ⟨_,⟨_,⟨_,⟨rfl,_,0,hbg,⟨rfl,rfl,rfl⟩,rfl⟩,rfl⟩,rfl⟩,rfl⟩ rfl) ?_;refine am (by kernel_rfl)<|zC<|sR ?_;refine rC<|zT ?_
    exact⟨trivial,[(64,some 1)],lg zV ⟨zR,zR,trivial⟩⟩
theorem qe (s:RdS) (x:HEv) (n:Nat) (hs:s.Ok n) (hn:n≤1000000) (k2:x.kind=2) (hno:ret1 s x=false):iQ s x { s with read:=s.read+1 } false:=by
 have hr:=hs.read
 have ha:=hs.all
 have d1:decide (x.kind=1)=false:=dF (by omega)
 have d2:decide (x.kind=2)=true:=dT k2
 have hw:IntKind.i64.wrap (s.read+1)=s.read+1:=aV (by omega) (by omega)
 refine aE aa Try.func90 rfl rfl rfl ?_;refine sR<|rN ?_;refine rC<|nR ?_;refine zU ?_;refine rQ iM ?_;refine rC<|nR ?_;refine zU ?_;refine rQ iM ?_;refine rQ iD ?_;refine zD ?_;refine bO (aL aa rfl rfl rfl ⟨_,⟨_,⟨rfl,rfl,rfl⟩,rfl⟩,rfl⟩ rfl)<|nR ?_;refine rC ?_;refine rQ iB ?_;refine zD ?_
 by_cases hc0:0≤x.client
 ·have c0:decide (0≤x.client)=true:=dT hc0
  refine rO ?_;refine rC ?_;refine rO ?_;refine rQ iB ?_;refine rO ?_;refine rC ?_;refine rQ iT ?_;refine rC<|nR ?_;refine rC ?_;refine rQ iB ?_;refine rQ (bI aa rfl rfl rfl) ?_;refine rQ (dP rfl rfl rfl rfl (by kernel_rfl) (by decide) (cZ x.value zBk)) ?_;refine rC<|nQ<|zS ?_;refine rC ?_;refine rQ iB ?_;refine zD ?_;refine zG<|sR ?_;refine rC ?_;refine rQ iB ?_;refine zD ?_;refine zI ?_;iterate 2 refine aS ?_
  refine aA (by kernel_rfl) ?_;refine dC [6] [] ?_;refine dC [123] [] ?_;refine dC [124] [] ?_
  by_cases hc8:x.client<8
  ·have c8:decide (x.client<8)=true:=dT hc8
   have n8:(!decide (x.client<8))=false:=by rw[c8]; rfl
   obtain⟨b,hbg⟩:∃b,s.busy[x.client.toNat]?=some b:=⟨_,List.getElem?_eq_getElem (by rw[hs.blen]; omega)⟩
   have hb:=hs.busy b (List.mem_of_getElem? hbg)
   refine ab [125,0] [] rfl rfl (by assumption) rfl (an aa (fun K hk=>hk)) ?_;refine ab [125,3] [] rfl rfl (by assumption) rfl (an aa (fun K hk=>hk)) ?_;refine ab [125,127] [64] rfl rfl (by assumption) rfl (aK aa rfl rfl ⟨_,rfl,rfl⟩ rfl) ?_;refine ab [125,126] [] rfl rfl (by assumption) rfl (an aa (fun K hk=>hk)) ?_;refine ab [125,129] [] rfl rfl (by assumption) rfl (an aa (fun K hk=>hk)) ?_;refine ab [125,130,128] [] rfl rfl (by assumption) rfl (an aa (fun K hk=>⟨by omega,by omega,hk⟩)) ?_;refine ab [125,131] [0] rfl rfl (by assumption) rfl (aK aa rfl rfl ⟨_,⟨rfl,_,hbg,rfl⟩,rfl⟩ rfl) ?_;refine ab [125,132] [] rfl rfl (by assumption) rfl (an aa (fun K hk=>hk)) ?_;refine dQ [125,133] [] iF ?_;refine dC [134] [] ?_
   by_cases hb0:b=0
   ·have b0:decide (b=0)=true:=dT hb0
    refine ae [135,3] rfl rfl (by assumption) rfl ?_;refine ae [135,136] rfl rfl (by assumption) rfl ?_;refine ae [135,137] rfl rfl (by assumption) rfl ?_;refine ae [135,138] rfl rfl (by assumption) rfl ?_;refine dQ [135,139] [] iT ?_;refine am (by kernel_rfl)<|aG ?_;refine wV<|sR ?_;refine rC<|zT<|bA<|zB ?_
    exact⟨trivial,[(64,some 1)],lg zV ⟨zR,zR,trivial⟩⟩
   ·have b0:decide (b=0)=false:=dF hb0
    refine ab [135,3] [] rfl rfl (by assumption) rfl (an aa (fun K hk=>hk)) ?_;refine ab [135,136] [64] rfl rfl (by assumption) rfl (aK aa rfl rfl ⟨_,rfl,rfl⟩ rfl) ?_;refine ab [135,137] [] rfl rfl (by assumption) rfl (aq (nT x.op) rfl rfl (ak ai) (.inl rfl) (fun _=>rfl)) ?_;refine ab [135,138] [] rfl rfl (by assumption) rfl (an aa (fun K hk=>hk)) ?_;refine dQ [135,139] [] iF ?_;refine am (by kernel_rfl)<|aG ?_
    by_cases hz:x.op=zOp
    ·have z0:(!decide (x.op=zOp))=false:=by rw[dT hz]; rfl
     have hwb:IntKind.i64.wrap (b-1)=b-1:=aV (by omega) (by omega)
     have hlt:b-1<(s.all.length:Int):=by omega
     have hge:0≤b-1:=by omega
     obtain⟨o,hog⟩:∃o,s.all[(b-1).toNat]?=some o:=⟨_,List.getElem?_eq_getElem (by omega)⟩
     obtain⟨c1,h1⟩:∃c,(!([0,1,8,9]:List Int).any (fun y=>decide (x.err=y)))=c:=⟨_,rfl⟩
     obtain⟨c2,h2⟩:∃c,(!decide (x.value=zBk))=c:=⟨_,rfl⟩
     obtain⟨c3,h3⟩:∃c,(!decide (o.op.kind=1))=c:=⟨_,rfl⟩
     obtain⟨c4,h4⟩:∃c,(!decide (x.err=0))=c:=⟨_,rfl⟩
     have hc:(c1||c2&&(c3||c4))=true:=by
      have hkn:kn4 x.err = !c1:=by rw[←h1,←tM,Bool.not_not]
      have hv2:decide (x.value=zBk) = !c2:=by rw[←h2,Bool.not_not]
      have hk3:decide (o.op.kind=1) = !c3:=by rw[←h3,Bool.not_not]
      have he4:decide (x.err=0) = !c4:=by rw[←h4,Bool.not_not]
      have hb':decide (some b=some (0:Int))=false:=dF (by simpa using hb0)
      have ho:opOf s x=some o:=by rw[opOf,hbg]; exact hog
      rw[ret1,c0,c8,hbg,hb',dT hz,hkn,hv2,ho]at hno
      simp only[hk3,he4]at hno
      revert hno
      cases c1 <;> cases c2 <;> cases c3 <;> cases c4 <;> decide
     refine wF<|zQ ?_;refine aA (by kernel_rfl) ?_;refine dC [0] [] ?_;refine dC [141] [] ?_;refine dC [142] [] ?_;refine dQ [143] [0] iM ?_;refine dC [0] [] ?_;refine dC [3] [] ?_;refine dQ [146] [64] iB ?_;refine dC [145] [] ?_;refine dC [148] [] ?_;refine dQ [149,147] [] (an aa (fun K hk=>⟨by omega,by omega,hk⟩)) ?_;refine dQ [150] [0] (aK aa rfl rfl ⟨_,⟨rfl,_,hbg,rfl⟩,rfl⟩ rfl) ?_;refine dQ [151] [] (ce aa rfl rfl hwb) ?_;refine dQ [144,152] [] (aP aa rfl rfl rfl rfl rfl (by omega) (by omega)) ?_;refine dC [153] [] ?_;refine am (by kernel_rfl)<|aG<|sR ?_;refine rQ (au.frozen (aD (s:=1) aa rfl rfl rfl rfl rfl rfl rfl rfl) (Frz.litsN (enc:=i6) [0,1,8,9] rfl (fun _ _=>rfl))) ?_;refine rC ?_;refine rQ iB ?_;refine rQ (aq (xx x.err [0,1,8,9] (by decide)) rfl rfl (ak (ak ai)) (.inl rfl) (fun _=>rfl)) ?_;refine rC<|zW ?_;refine zU ?_
     cases c1 with
     | true =>
      iterate 3 refine rS ?_
      iterate 11 refine rU ?_
      refine rS ?_;refine rQ iT ?_;refine zO<|sR ?_;refine rC<|zT<|bA<|zB ?_
      exact⟨trivial,[(64,some 1)],lg zV ⟨zR,zR,trivial⟩⟩
     | false =>
      refine rO ?_;refine rC ?_;refine rO ?_;refine rC ?_;refine rO ?_;refine rC ?_
      cases c2 with
      | false=>cases hc
      | true =>
       refine rO ?_;refine rC ?_;refine rO ?_;refine rC ?_;refine rO ?_;refine rC ?_;refine rO ?_;refine rC ?_;refine rO ?_;refine rQ (bd aa rfl rfl ⟨rfl,o,hog,_,rfl,rfl⟩ rfl) ?_;refine rO ?_;refine rC ?_;refine rO ?_;refine rC ?_
       cases c3 with
       | true =>
        iterate 3 refine rS ?_
        refine rO ?_;refine rQ iT ?_;refine rO ?_;refine rQ iT ?_;refine rQ iF ?_;refine zO<|sR ?_;refine rC<|zT<|bA<|zB ?_
        exact⟨trivial,[(64,some 1)],lg zV ⟨zR,zR,trivial⟩⟩
       | false =>
        refine rO ?_;refine rC ?_;refine rO ?_;refine rQ iB ?_;refine rO ?_;refine rC ?_;refine rO ?_;refine rQ iF ?_;refine rO ?_;refine rQ iT ?_;refine rQ iF<|nS ?_
        cases c4 with
        | false=>cases hc
        | true =>
         refine wT<|sR ?_;refine rC<|zT<|bA<|zB ?_
         exact⟨trivial,[(64,some 1)],lg zV ⟨zR,zR,trivial⟩⟩
    ·have z0:(!decide (x.op=zOp))=true:=by rw[dF hz]; rfl
     refine wT<|sR ?_;refine rC<|zT<|bA<|zB ?_
     exact⟨trivial,[(64,some 1)],lg zV ⟨zR,zR,trivial⟩⟩
  ·have c8:decide (x.client<8)=false:=dF hc8
   have n8:(!decide (x.client<8))=true:=by rw[c8]; rfl
   refine ae [125,0] rfl rfl (by assumption) rfl ?_;refine ae [125,3] rfl rfl (by assumption) rfl ?_;refine ae [125,127] rfl rfl (by assumption) rfl ?_;refine ae [125,126] rfl rfl (by assumption) rfl ?_;refine ae [125,129] rfl rfl (by assumption) rfl ?_;refine ae [125,130,128] rfl rfl (by assumption) rfl ?_;refine ae [125,131] rfl rfl (by assumption) rfl ?_;refine ae [125,132] rfl rfl (by assumption) rfl ?_;refine dQ [125,133] [] iT ?_;refine dC [134] [] ?_;refine ae [135,3] rfl rfl rfl rfl ?_;refine ae [135,136] rfl rfl rfl rfl ?_;refine ae [135,137] rfl rfl rfl rfl ?_;refine ae [135,138] rfl rfl rfl rfl ?_;refine dQ [135,139] [] iU ?_;refine am (by kernel_rfl)<|aG ?_;refine wV<|sR ?_;refine rC<|zT<|bA<|zB ?_
   exact⟨trivial,[(64,some 1)],lg zV ⟨zR,zR,trivial⟩⟩
 ·have c0:decide (0≤x.client)=false:=dF hc0
  iterate 3 refine rS ?_
  refine rQ iF ?_;refine rC<|nR ?_;refine rC ?_;refine rQ iB ?_;refine rQ (bI aa rfl rfl rfl) ?_;refine rQ (dP rfl rfl rfl rfl (by kernel_rfl) (by decide) (cZ x.value zBk)) ?_;refine rC<|nQ<|zS ?_;refine rC ?_;refine rQ iB ?_;refine zD ?_;refine zG<|sR ?_;refine rC ?_;refine rQ iB ?_;refine zD ?_;refine zI ?_;iterate 2 refine aS ?_
  refine aA (by kernel_rfl) ?_;refine dC [6] [] ?_;refine dC [123] [] ?_;refine dC [124] [] ?_;refine ae [125,0] rfl rfl rfl rfl ?_;refine ae [125,3] rfl rfl rfl rfl ?_;refine ae [125,127] rfl rfl rfl rfl ?_;refine ae [125,126] rfl rfl rfl rfl ?_;refine ae [125,129] rfl rfl rfl rfl ?_;refine ae [125,130,128] rfl rfl rfl rfl ?_;refine ae [125,131] rfl rfl rfl rfl ?_;refine ae [125,132] rfl rfl rfl rfl ?_;refine dQ [125,133] [] iU ?_;refine dC [134] [] ?_;refine ae [135,3] rfl rfl rfl rfl ?_;refine ae [135,136] rfl rfl rfl rfl ?_;refine ae [135,137] rfl rfl rfl rfl ?_;refine ae [135,138] rfl rfl rfl rfl ?_;refine dQ [135,139] [] iU ?_;refine am (by kernel_rfl)<|aG ?_;refine wV<|sR ?_;refine rC<|zT<|bA<|zB ?_
  exact⟨trivial,[(64,some 1)],lg zV ⟨zR,zR,trivial⟩⟩
theorem xY (s:RdS) (x:HEv) (n:Nat) (hs:s.Ok n) (hn:n≤1000000):iQ s x (bW s x).1 (bW s x).2:=by
 by_cases k1:x.kind=1
 ·cases hi:inv1 s x with
  | false =>
   have h:=qf s x n hs hn k1 hi
   have e:bW s x=({ s with read:=s.read+1 },false):=by simp[bW,k1,hi]
   rw[e]; exact h
  | true =>
   have hi':=hi
   simp only[inv1,Bool.and_eq_true,decide_eq_true_eq]at hi'
   obtain⟨⟨⟨⟨⟨h1,h2⟩,h3⟩,h4⟩,h5⟩,h6⟩:=hi'
   obtain⟨m,hm⟩:∃m,s.number[x.client.toNat]?=some m:=⟨_,List.getElem?_eq_getElem (by rw[hs.nlen]; omega)⟩
   have h:=vP s x n hs hn k1 m h1 h2 h3 hm h4 h5 h6
   have e:bW s x=(⟨s.busy.set x.client.toNat ((s.all.length+1:Nat):Int),s.number.set x.client.toNat (m+1),s.era,s.read+1,s.all++[⟨x.client,m,s.era,x.op,s.read,-1,zBk,0⟩]⟩,true):=by
    simp[bW,k1,hi,hm]
   rw[e]; exact h
 ·by_cases k2:x.kind=2
  ·cases hi:ret1 s x with
   | false =>
    have h:=qe s x n hs hn k2 hi
    have e:bW s x=({ s with read:=s.read+1 },false):=by simp[bW,k2,hi]
    rw[e]; exact h
   | true =>
    have hi':=hi
    simp only[ret1,Bool.and_eq_true,decide_eq_true_eq]at hi'
    obtain⟨⟨⟨⟨⟨h1,h2⟩,h3⟩,h4⟩,h5⟩,h6⟩:=hi'
    obtain⟨b,hbg⟩:∃b,s.busy[x.client.toNat]?=some b:=⟨_,List.getElem?_eq_getElem (by rw[hs.blen]; omega)⟩
    have hb:=hs.busy b (List.mem_of_getElem? hbg)
    have hb0:b≠0:=by rw[hbg]at h3; simpa using h3
    obtain⟨o,hog⟩:∃o,s.all[(b-1).toNat]?=some o:=⟨_,List.getElem?_eq_getElem (by omega)⟩
    have ho:opOf s x=some o:=by rw[opOf,hbg]; exact hog
    rw[ho]at h6
    have h:=sl s x n hs hn k2 b o h1 h2 hbg hb0 hog h4 _ _ _ rfl rfl rfl (by
     rw[tM,h5]
     simp only at h6
     revert h6
     cases decide (x.value=zBk) <;> cases decide (o.op.kind=1) <;> cases decide (x.err=0) <;> decide)
    have e:bW s x=(⟨s.busy.set x.client.toNat 0,s.number,s.era,s.read+1,s.all.set (b-1).toNat { o with returned:=s.read,value:=x.value,err:=x.err }⟩,true):=by
     simp[bW,k2,hi,ho,hbg]
    rw[e]; exact h
  ·by_cases k3:x.kind=3
   ·have h:=so s x n hs hn k3 _ _ _ _ rfl rfl rfl rfl
    have e:bW s x=(⟨fa,s.number,s.era+1,s.read+1,s.all⟩,pX x):=by simp[bW,k3]
    rw[e]; exact h
   ·have h:=sn s x n hs hn k1 k2 k3 _ rfl
    have e:bW s x=({ s with read:=s.read+1 },false):=by simp[bW,k1,k2,k3]
    rw[e]; exact h
abbrev fnT (r:Nat):AV :=.fn (.func 90) (.acons (.ptr r []) .anil) .anil
abbrev fnF (r:Nat):AV :=.fn (.func 95) .anil (.acons (.ptr r []) .anil)
def goS:RdS→List HEv→Nat→RdS×Int
 | s,[],_=>(s,-1)
 | s,x::l,i=>if (bW s x).2 then goS (bW s x).1 l (i+1) else ((bW s x).1,(i:Int))
theorem vn (s:RdS) (x:HEv) (n:Nat) (hs:s.Ok n) (hn:n≤1000000):FnIs Try.prog 95 [.d (bY x),.ptr 0 []] [(0,.box 168 (fnT 1)),(1,gY s 2),(2,dL s.all)] (.bool (!(bW s x).2)) [(0,.box 168 (fnT 1)),(1,gY (bW s x).1 64),(64,dL (bW s x).1.all)]:=by
 refine aE aa Try.func95 rfl rfl rfl ?_;refine sR<|rN ?_;refine rC<|nR ?_;iterate 2 refine rQ iM ?_
 refine bK rfl (AA [(0,some 1),(1,some 2)] (xY s x n hs hn) rfl rfl rfl rfl (aZ rfl rfl (ak ai)) ⟨zH,zH,trivial⟩ rfl rfl (.inl rfl) rfl rfl) rfl rfl ?_;refine zD<|zT ?_
 exact⟨trivial,[(64,some _)],lg zV ⟨zR,zR,zR,trivial⟩⟩
theorem kP {s:RdS} {h:List HEv} {i:Nat} {x:HEv} (hx:h[i]?=some x):goS s (h.drop i) i=if (bW s x).2 then goS (bW s x).1 (h.drop (i+1)) (i+1) else ((bW s x).1,(i:Int)):=by
 have hlt:=(List.getElem?_eq_some_iff.1 hx).1
 rw[List.drop_eq_getElem_cons hlt,(List.getElem?_eq_some_iff.1 hx).2]
 rfl
theorem Ac (h:List HEv) (hL:h.length≤1000000) (s0:RdS) (hs0:s0.Ok 0):FnIs Try.prog 94 [.d (encH h),fnF 0] [(0,.box 168 (fnT 1)),(1,gY s0 2),(2,dL s0.all)] (.int .i64 (goS s0 h 0).2) [(0,.box 168 (fnT 1)),(1,gY (goS s0 h 0).1 64),(64,dL (goS s0 h 0).1.all)]:=by
 refine aE aa Try.func94 rfl rfl rfl ?_;refine sR<|rC<|zW ?_;refine rC ?_;refine rQ iE ?_;refine rC<|zP ?_
 refine wc_inv (fun q:RdS×Nat=>⟨[(8,.int .i64 q.2),(7,.int .i64 h.length),(1,fnF 0),(0,.d (encH h))],[(0,some (.box 168 (fnT 1))),(1,some (gY q.1 65)),(65,some (dL q.1.all))],72,Try.f94.ntmps,64⟩) (fun q=>q.2≤h.length∧q.1.Ok q.2∧goS q.1 (h.drop q.2) q.2=goS s0 h 0) (fun q=>h.length-q.2) (s0,0) [(65,some 2)] ⟨Nat.zero_le _,hs0,rfl⟩
  (lg zi ⟨zR,zR,zR,trivial⟩) ?_
 rintro⟨s,i⟩ ⟨hi,hs,hgo⟩
 refine bM<|sR ?_;refine rC<|nQ ?_
 refine gu rfl (fun h2=>?_) (fun h2=>?_)
 ·have hlt:i<h.length:=by have:=of_decide_eq_true h2; omega
  obtain⟨x,hx⟩:∃u,h[i]?=some u:=⟨_,List.getElem?_eq_getElem hlt⟩
  have hx':h[((i:Int)).toNat]?=some x:=by rw[Int.toNat_natCast]; exact hx
  have hfst:=vn s x i hs (by omega)
  have hst:=kP (s:=s) hx
  rw[hgo]at hst
  cases hb:(bW s x).2 with
  | false =>
   rw[hb]at hst hfst
   rw[hst]
   refine zQ<|zS<|zD<|nR ?_;refine zU ?_;refine rQ (ao aa rfl rfl rfl rfl rfl (by omega) hx') ?_;refine rQ iL ?_;refine bK rfl (bc [(0,some 0),(1,some 1),(2,some 65)] hfst rfl rfl rfl (ak (aZ rfl rfl ai)) ⟨zH,zH,zH,trivial⟩ rfl rfl (.inl rfl) rfl rfl) rfl rfl ?_;refine zO<|sR ?_;refine zD<|zT<|zB<|ci<|zB ?_
   exact⟨trivial,[(64,some _)],lg zV ⟨zR,zR,zR,trivial⟩⟩
  | true =>
   rw[hb]at hst hfst
   refine zQ<|zS<|zD<|nR ?_;refine zU ?_;refine rQ (ao aa rfl rfl rfl rfl rfl (by omega) hx') ?_;refine rQ iL ?_;refine bK rfl (bc [(0,some 0),(1,some 1),(2,some 65)] hfst rfl rfl rfl (ak (aZ rfl rfl ai)) ⟨zH,zH,zH,trivial⟩ rfl rfl (.inl rfl) rfl rfl) rfl rfl ?_;refine zJ<|aN<|zC<|aj ?_;refine rQ iD ?_;refine rC<|aw ?_
   exact aI ((bW s x).1,i+1) [(65,some _)] ⟨hlt,hs.next x,hst.symm⟩ (by show h.length-(i+1)<h.length-i; omega) (lg zi ⟨zR,zR,zR,trivial⟩)
 ·have he:i=h.length:=by have:=of_decide_eq_false h2; omega
  subst he
  rw[List.drop_length]at hgo
  rw[←hgo]
  refine zX<|sR<|rC<|zT ?_
  exact⟨trivial,[(64,some _)],lg zV ⟨zR,zR,zR,trivial⟩⟩
theorem ri (h:List HEv) (hL:h.length≤1000000) (s0:RdS) (hs0:s0.Ok 0):FnIs Try.prog 89 [.d (encH h),fnT 0] [(0,gY s0 1),(1,dL s0.all)] (.int .i64 (goS s0 h 0).2) [(0,gY (goS s0 h 0).1 64),(64,dL (goS s0 h 0).1.all)]:=by
 refine aE aa Try.func89 rfl rfl rfl ?_;refine sR<|rN ?_;refine rC<|nR ?_;refine zD ?_;refine bK rfl (bc [(0,some 64),(1,some 0),(2,some 1)] (Ac h hL s0 hs0) rfl rfl rfl (ak (cR rfl rfl ai)) ⟨zH,zH,zH,trivial⟩ rfl rfl (.inl rfl) rfl rfl) rfl rfl ?_;refine rC<|zT ?_
 exact⟨trivial,[(64,some _)],lg zV ⟨zR,zR,trivial⟩⟩
abbrev ch8:D :=.cons (.sc (.int .i64 0)) (.cons (.sc (.int .i64 0)) (.cons (.sc (.int .i64 0)) (.cons (.sc (.int .i64 0)) (.cons (.sc (.int .i64 0)) (.cons (.sc (.int .i64 0)) (.cons (.sc (.int .i64 0)) (.cons (.sc (.int .i64 0)) .nil)))))))
theorem xE:DLe ch8 (.vec 8 1 i6 fa):=by
 rintro w X cs ⟨a1,r1,rfl,⟨rfl,o1⟩,a2,r2,rfl,⟨rfl,_⟩,a3,r3,rfl,⟨rfl,_⟩,a4,r4,rfl,⟨rfl,_⟩,a5,r5,rfl,⟨rfl,_⟩,a6,r6,rfl,⟨rfl,_⟩,a7,r7,rfl,⟨rfl,_⟩,a8,r8,rfl,⟨rfl,_⟩,rfl⟩
 refine⟨rfl,fun _=>[.int .i64 0],fun i hi=>⟨?_,rfl⟩,rfl⟩
 have hz:∀b∈fa,b=0:=by decide
 rw[hz _ (List.getElem_mem hi)]
 exact⟨rfl,o1⟩
theorem zY:aR (.box 157 (.d (.cons ch8 (.cons ch8 (.cons (.sc (.int .i64 0)) (.cons (.sc (.int .i64 0)) (.cons (.sc (.slice none 0 0)) .nil)))))))
  (.box 157 (.acons (.d (.vec 8 1 i6 fa)) (.acons (.d (.vec 8 1 i6 fa)) (.acons (.d (i6 0)) (.acons (.d (i6 0)) (.acons (.d (.sc nil_)) .anil)))))):=by
 rintro σ w X r ⟨hf,b,cs,h1,h2,a1,r1,h3,h4,a2,r2,rfl,h5,a3,r3,rfl,h6,a4,r4,rfl,h7,a5,r5,rfl,h8,rfl⟩
 exact⟨rfl,b,cs,h1,h2,a1,_,h3,xE _ _ _ h4,a2,_,rfl,xE _ _ _ h5,a3,_,rfl,h6,a4,_,rfl,h7,a5,_,rfl,h8,rfl⟩
def rdH (h:List HEv):RdS:=if 8192<h.length then rd0 else (goS rd0 h 0).1
def chkH (h:List HEv):Int×Int:=if 8192<h.length then (0,3) else if 0≤(goS rd0 h 0).2 then ((goS rd0 h 0).2,18) else (0,0)
theorem yd (h:List HEv) (hh:h.length≤9223372036854775807):FnIs Try.prog 77 [.d (encH h)] [] (.tup (.acons (.ptr 64 []) (.acons (.int .i64 (chkH h).1) (.acons (.int .i64 (chkH h).2) .anil)))) [(64,gY (rdH h) 65),(65,dL (rdH h).all)]:=by
 unfold rdH chkH
 obtain⟨Z,hZ⟩:∃Z,decide ((8192:Int)<(h.length:Int))=Z:=⟨_,rfl⟩
 refine aE aa Try.func77 rfl rfl rfl ?_;refine sR<|zU<|nR ?_;refine rQ iS ?_;refine rN ?_;refine rC<|nS ?_;refine gr (env':=[(2,.ptr 64 []),(0,.d (encH h))]) (h':=[(64,some (gY rd0 65)),(65,some (dL []))]) 72 [(64,some 96),(65,none)] (lg zk ⟨⟨rfl,rfl,_,rfl,zY⟩,⟨rfl,rfl,rfl⟩,trivial⟩) ?_
 cases Z with
 | true =>
  have h8:8192<h.length:=by have:=of_decide_eq_true hZ; omega
  rw[if_pos h8,if_pos h8]
  refine qR<|rC ?_;refine rQ iE ?_;refine rC ?_;refine zI<|sR ?_;iterate 4 refine rC ?_
  refine zT<|bA ?_
  exact⟨trivial,[(64,some _),(65,some _)],lg zV ⟨zR,zR,trivial⟩⟩
 | false =>
  have h8:¬8192<h.length:=by have:=of_decide_eq_false hZ; omega
  have hL:h.length≤1000000:=by omega
  rw[if_neg h8,if_neg h8]
  by_cases h0:0≤(goS rd0 h 0).2
  ·have d0:decide (0≤(goS rd0 h 0).2)=true:=dT h0
   rw[if_pos h0]
   refine qR<|rC ?_;refine rQ iE ?_;refine rC ?_;refine zG<|kS<|qR ?_;refine zU ?_;refine bK rfl (bc [(0,some 64),(1,some 65)] (ri h hL rd0 pF) rfl rfl rfl (ak (um rfl rfl ai)) ⟨zH,zH,trivial⟩ rfl rfl (.inl rfl) rfl rfl) rfl rfl ?_;refine rC<|nR ?_;refine zD ?_;refine zI<|sR ?_;iterate 5 refine rC ?_
   refine zT<|bA ?_
   exact⟨trivial,[(64,some _),(65,some _)],lg zV ⟨zR,zR,trivial⟩⟩
  ·have d0:decide (0≤(goS rd0 h 0).2)=false:=dF h0
   rw[if_neg h0]
   refine qR<|rC ?_;refine rQ iE ?_;refine rC ?_;refine zG<|kS<|qR ?_;refine zU ?_;refine bK rfl (bc [(0,some 64),(1,some 65)] (ri h hL rd0 pF) rfl rfl rfl (ak (um rfl rfl ai)) ⟨zH,zH,trivial⟩ rfl rfl (.inl rfl) rfl rfl) rfl rfl ?_;refine rC<|nR ?_;refine zD ?_;refine zG<|kS<|sR ?_;iterate 4 refine rC ?_
   refine zT ?_
   exact⟨trivial,[(64,some _),(65,some _)],lg zV ⟨zR,zR,trivial⟩⟩
def opsH (h:List HEv):List HOp:=if (chkH h).2=0 then (rdH h).all else[]
theorem tP (h:List HEv) (hh:h.length≤9223372036854775807) (hal:(rdH h).all.length≤1048576):FnIs Try.prog 59 [.d (encH h)] [] (.tup (.acons (.d (fe (opsH h))) (.acons (.int .i64 (chkH h).2) .anil))) []:=by
 unfold opsH
 refine aE aa Try.func59 rfl rfl rfl ?_;refine sR<|zD<|nR ?_;refine rC ?_;refine aO (bc [] (yd h hh) rfl rfl rfl (ak ai) trivial rfl rfl (.inl rfl) rfl rfl) rfl ?_;iterate 7 refine rC ?_
 refine zW<|zD<|nS ?_
 by_cases h0:(chkH h).2=0
 ·have d0:(!decide ((chkH h).2=0))=false:=by rw[dT h0]; rfl
  rw[if_pos h0,h0]
  refine wG<|kS<|sR ?_;refine zU ?_;refine rQ iM ?_;refine sB (env':=[(19,_)]) (h':=[]) 89 _ rfl ⟨⟨_,rfl,Frz.own rfl⟩,trivial⟩ trivial ?_;refine rQ (aq (Ar (rdH h).all hal) rfl rfl (ak ai) (.inl rfl) (fun _=>rfl)) ?_;refine zD<|zT ?_
  exact⟨trivial,[],lf⟩
 ·have d0:(!decide ((chkH h).2=0))=true:=by rw[dF h0]; rfl
  rw[if_neg h0]
  refine wT<|sR ?_;refine zU<|zT<|bA ?_
  exact⟨trivial,[],lg ⟨⟨_,rfl,AVLe.tup1 (io _ _) rfl⟩,rfl,trivial⟩ trivial⟩
def zo:List HEv→List (List HEv)→List HEv→List (List HEv)
 | [],out,era=>out++[era]
 | x::l,out,era=>if x.kind=3 then zo l (out++[era]) [] else zo l out (era++[x])
def projB (c:Int) (x:HEv):Bool:=decide (x.kind=3)||decide (x.client=c)
def projE (c:Int) (h:List HEv):Int:=if (chkH h).2=0 then (if c<0∨8≤c then 1 else 0) else (chkH h).2
def fQ (c:Int) (i:Nat) (a:Int) (x:HEv):Int:=if x.kind=3 then-1 else if x.kind=1 then (if x.client=c then (i:Int) else a) else if x.kind=2 then (if x.client=c then-1 else a) else a
def jU (c:Int):List HEv→Nat→Int→Int
 | [],_,a=>a
 | x::l,i,a=>jU c l (i+1) (fQ c i a x)
def pend (h:List HEv) (c:Int):Int:=jU c h 0 (-1)
theorem m9 (c:Int) (x:HEv):∀(l:List HEv) (i:Nat) (a:Int),jU c (l++[x]) i a=fQ c (i+l.length) (jU c l i a) x
 | [],i,a=>rfl
 | y::l,i,a=>by
  rw[List.cons_append,jU,jU,m9 c x l]
  rw[List.length_cons,show i+1+l.length=i+(l.length+1) by omega]
theorem fq (l:List HEv) (c:Int) (x:HEv):pend (l++[x]) c=fQ c l.length (pend l c) x:=by
 rw[pend,m9,Nat.zero_add]; rfl
theorem uS {h:List HEv} {c:Int} {i:Nat} {x:HEv} (hx:h[i]?=some x):pend (h.take (i+1)) c=fQ c i (pend (h.take i) c) x:=by
 have hlt:=(List.getElem?_eq_some_iff.1 hx).1
 rw[List.take_add_one,hx,Option.toList_some,fq,List.length_take,Nat.min_eq_left (by omega)]
theorem ww (c:Int) (i:Nat) (a:Int) (x:HEv):fQ c i a x = -1∨fQ c i a x=i∨fQ c i a x=a:=by
 unfold fQ
 by_cases h1:x.kind=3
 ·simp[h1]
 ·by_cases h2:x.kind=1
  ·by_cases h3:x.client=c <;> simp[h2,h3]
  ·by_cases h4:x.kind=2
   ·by_cases h3:x.client=c <;> simp[h4,h3]
   ·simp[h1,h2,h4]
theorem tB (c:Int):∀(l:List HEv) (i:Nat) (a:Int),-1≤a∧a<i → -1≤jU c l i a∧jU c l i a<(i+l.length:Nat)
 | [],i,a,h=>by simpa[jU]using h
 | x::l,i,a,h=>by
  have hs:=ww c i a x
  have:=tB c l (i+1) (fQ c i a x) (by omega)
  rw[jU,List.length_cons]
  omega
theorem tD (h:List HEv) (c:Int) : -1≤pend h c∧pend h c<h.length:=by
 have:=tB c h 0 (-1) (by decide)
 rw[Nat.zero_add]at this
 exact this
theorem tC (h:List HEv) (c:Int) (hL:h.length≤9223372036854775807):FnIs Try.prog 39 [.d (encH h),.int .i64 c] [] (.int .i64 (pend h c)) []:=by
 refine aE aa Try.func39 rfl rfl rfl ?_;refine sR<|rC<|nR ?_;refine rC<|zW ?_;refine rC<|zP ?_
 refine wc_inv (fun i:Nat=>⟨[(6,.int .i64 i),(5,.int .i64 (pend (h.take i) c)),(1,.int .i64 c),(0,.d (encH h))],[],72,Try.f39.ntmps,64⟩) (fun i=>i≤h.length) (fun i=>h.length-i) 0 [] (Nat.zero_le _)
  (lg zi trivial) ?_
 intro i hi
 refine bM<|qR ?_;refine zD ?_;refine rQ iE ?_;refine rC<|nS ?_
 refine gu rfl (fun h3=>?_) (fun h3=>?_)
 ·have hlt:i<h.length:=by have:=of_decide_eq_true h3; omega
  obtain⟨x,hx⟩:∃x,h[i]?=some x:=⟨_,List.getElem?_eq_getElem hlt⟩
  have hx':h[((i:Int)).toNat]?=some x:=by rw[Int.toNat_natCast]; exact hx
  have hp:=uS (c:=c) hx
  unfold fQ at hp
  by_cases k3:x.kind=3
  ·have d3:decide (x.kind=3)=true:=dT k3
   have d1:decide (x.kind=1)=false:=dF (by omega)
   have d2:decide (x.kind=2)=false:=dF (by omega)
   rw[if_pos k3]at hp
   refine zQ<|bn<|qR<|zD ?_;refine rQ (ao aa rfl rfl rfl rfl rfl (by omega) hx') ?_;refine rC ?_;refine rQ iL ?_;refine rC ?_;refine zI<|aj ?_;refine rC<|zW ?_;refine zD ?_;refine rQ (ao aa rfl rfl rfl rfl rfl (by omega) hx') ?_;refine rC ?_;refine rQ iL ?_;refine zD ?_
   iterate 7 refine rS ?_
   refine rQ iF ?_;refine zJ<|kS<|sR ?_;refine zD ?_;refine rQ (ao aa rfl rfl rfl rfl rfl (by omega) hx') ?_;refine rC ?_;refine rQ iL ?_;refine zD ?_
   iterate 7 refine rS ?_
   refine rQ iF ?_;refine zJ<|aN<|zC<|aj ?_;refine rC ?_;refine rQ iD ?_;refine rC<|aw ?_
   exact aI (i+1) [] hlt (by omega) (lg ⟨zE,rfl,⟨_,rfl,AVLe.of_eq (congrArg (fun n=>AV.int .i64 n) hp.symm)⟩,rfl,zE,rfl,zE,rfl,trivial⟩ trivial)
  ·have d3:decide (x.kind=3)=false:=dF k3
   rw[if_neg k3]at hp
   by_cases k1:x.kind=1
   ·have d1:decide (x.kind=1)=true:=dT k1
    have d2:decide (x.kind=2)=false:=dF (by omega)
    rw[if_pos k1]at hp
    by_cases kc:x.client=c
    ·have dc:decide (x.client=c)=true:=dT kc
     rw[if_pos kc]at hp
     refine zQ<|bn<|qR<|zD ?_;refine rQ (ao aa rfl rfl rfl rfl rfl (by omega) hx') ?_;refine rC ?_;refine rQ iL ?_;refine rC ?_;refine zG<|kS<|qR ?_;refine zD ?_;refine rQ (ao aa rfl rfl rfl rfl rfl (by omega) hx') ?_;refine rC ?_;refine rQ iL ?_;refine zD ?_;refine rO ?_;refine rC ?_;refine rO ?_;refine rC ?_;refine rO ?_;refine rQ (ao aa rfl rfl rfl rfl rfl (by omega) hx') ?_;refine rO ?_;refine rC ?_;refine rO ?_;refine rQ iL ?_;refine rO ?_;refine rC ?_;refine rO ?_;refine rC ?_;refine rQ iT ?_;refine zI<|aj ?_;refine zD<|nR ?_;refine zD ?_;refine rQ (ao aa rfl rfl rfl rfl rfl (by omega) hx') ?_;refine rC ?_;refine rQ iL ?_;refine zD ?_
     iterate 7 refine rS ?_
     refine rQ iF ?_;refine zJ<|aN<|zC<|aj ?_;refine rC ?_;refine rQ iD ?_;refine rC<|aw ?_
     exact aI (i+1) [] hlt (by omega) (lg ⟨zE,rfl,⟨_,rfl,AVLe.of_eq (congrArg (fun n=>AV.int .i64 n) hp.symm)⟩,rfl,zE,rfl,zE,rfl,trivial⟩ trivial)
    ·have dc:decide (x.client=c)=false:=dF kc
     rw[if_neg kc]at hp
     refine zQ<|bn<|qR<|zD ?_;refine rQ (ao aa rfl rfl rfl rfl rfl (by omega) hx') ?_;refine rC ?_;refine rQ iL ?_;refine rC ?_;refine zG<|kS<|qR ?_;refine zD ?_;refine rQ (ao aa rfl rfl rfl rfl rfl (by omega) hx') ?_;refine rC ?_;refine rQ iL ?_;refine zD ?_;refine rO ?_;refine rC ?_;refine rO ?_;refine rC ?_;refine rO ?_;refine rQ (ao aa rfl rfl rfl rfl rfl (by omega) hx') ?_;refine rO ?_;refine rC ?_;refine rO ?_;refine rQ iL ?_;refine rO ?_;refine rC ?_;refine rO ?_;refine rC ?_;refine rQ iT ?_;refine zG<|kS<|sR ?_;refine zD ?_;refine rQ (ao aa rfl rfl rfl rfl rfl (by omega) hx') ?_;refine rC ?_;refine rQ iL ?_;refine zD ?_
     iterate 7 refine rS ?_
     refine rQ iF ?_;refine zJ<|aN<|zC<|aj ?_;refine rC ?_;refine rQ iD ?_;refine rC<|aw ?_
     exact aI (i+1) [] hlt (by omega) (lg ⟨zE,rfl,⟨_,rfl,AVLe.of_eq (congrArg (fun n=>AV.int .i64 n) hp.symm)⟩,rfl,zE,rfl,zE,rfl,trivial⟩ trivial)
   ·have d1:decide (x.kind=1)=false:=dF k1
    rw[if_neg k1]at hp
    by_cases k2:x.kind=2
    ·have d2:decide (x.kind=2)=true:=dT k2
     rw[if_pos k2]at hp
     by_cases kc:x.client=c
     ·have dc:decide (x.client=c)=true:=dT kc
      rw[if_pos kc]at hp
      refine zQ<|bn<|qR<|zD ?_;refine rQ (ao aa rfl rfl rfl rfl rfl (by omega) hx') ?_;refine rC ?_;refine rQ iL ?_;refine rC ?_;refine zG<|kS<|qR ?_;refine zD ?_;refine rQ (ao aa rfl rfl rfl rfl rfl (by omega) hx') ?_;refine rC ?_;refine rQ iL ?_;refine zD ?_
      iterate 7 refine rS ?_
      refine rQ iF ?_;refine zJ<|kS<|sR ?_;refine zD ?_;refine rQ (ao aa rfl rfl rfl rfl rfl (by omega) hx') ?_;refine rC ?_;refine rQ iL ?_;refine zD ?_;refine rO ?_;refine rC ?_;refine rO ?_;refine rC ?_;refine rO ?_;refine rQ (ao aa rfl rfl rfl rfl rfl (by omega) hx') ?_;refine rO ?_;refine rC ?_;refine rO ?_;refine rQ iL ?_;refine rO ?_;refine rC ?_;refine rO ?_;refine rC ?_;refine rQ iT ?_;refine zI<|aj ?_;refine rC<|aw<|zC<|aj ?_;refine rC ?_;refine rQ iD ?_;refine rC<|aw ?_
      exact aI (i+1) [] hlt (by omega) (lg ⟨zE,rfl,⟨_,rfl,AVLe.of_eq (congrArg (fun n=>AV.int .i64 n) hp.symm)⟩,rfl,zE,rfl,zE,rfl,trivial⟩ trivial)
     ·have dc:decide (x.client=c)=false:=dF kc
      rw[if_neg kc]at hp
      refine zQ<|bn<|qR<|zD ?_;refine rQ (ao aa rfl rfl rfl rfl rfl (by omega) hx') ?_;refine rC ?_;refine rQ iL ?_;refine rC ?_;refine zG<|kS<|qR ?_;refine zD ?_;refine rQ (ao aa rfl rfl rfl rfl rfl (by omega) hx') ?_;refine rC ?_;refine rQ iL ?_;refine zD ?_
      iterate 7 refine rS ?_
      refine rQ iF ?_;refine zJ<|kS<|sR ?_;refine zD ?_;refine rQ (ao aa rfl rfl rfl rfl rfl (by omega) hx') ?_;refine rC ?_;refine rQ iL ?_;refine zD ?_;refine rO ?_;refine rC ?_;refine rO ?_;refine rC ?_;refine rO ?_;refine rQ (ao aa rfl rfl rfl rfl rfl (by omega) hx') ?_;refine rO ?_;refine rC ?_;refine rO ?_;refine rQ iL ?_;refine rO ?_;refine rC ?_;refine rO ?_;refine rC ?_;refine rQ iT ?_;refine zG<|aN<|zC<|aj ?_;refine rC ?_;refine rQ iD ?_;refine rC<|aw ?_
      exact aI (i+1) [] hlt (by omega) (lg ⟨zE,rfl,⟨_,rfl,AVLe.of_eq (congrArg (fun n=>AV.int .i64 n) hp.symm)⟩,rfl,zE,rfl,zE,rfl,trivial⟩ trivial)
    ·have d2:decide (x.kind=2)=false:=dF k2
     rw[if_neg k2]at hp
     refine zQ<|bn<|qR<|zD ?_;refine rQ (ao aa rfl rfl rfl rfl rfl (by omega) hx') ?_;refine rC ?_;refine rQ iL ?_;refine rC ?_;refine zG<|kS<|qR ?_;refine zD ?_;refine rQ (ao aa rfl rfl rfl rfl rfl (by omega) hx') ?_;refine rC ?_;refine rQ iL ?_;refine zD ?_
     iterate 7 refine rS ?_
     refine rQ iF ?_;refine zJ<|kS<|sR ?_;refine zD ?_;refine rQ (ao aa rfl rfl rfl rfl rfl (by omega) hx') ?_;refine rC ?_;refine rQ iL ?_;refine zD ?_
     iterate 7 refine rS ?_
     refine rQ iF ?_;refine zJ<|aN<|zC<|aj ?_;refine rC ?_;refine rQ iD ?_;refine rC<|aw ?_
     exact aI (i+1) [] hlt (by omega) (lg ⟨zE,rfl,⟨_,rfl,AVLe.of_eq (congrArg (fun n=>AV.int .i64 n) hp.symm)⟩,rfl,zE,rfl,zE,rfl,trivial⟩ trivial)
 ·have he:i=h.length:=by have:=of_decide_eq_false h3; omega
  subst he
  rw[List.take_length]
  refine zX<|sR<|zD<|zT ?_
  exact⟨trivial,[],lf⟩
def fit1 (h:List HEv) (x:HEv):Bool:=decide (0≤x.client)&&decide (x.client≤7)&&decide (pend h x.client<0)&&decide (x.op.data.length≤64)&&decide (x.value=zBk)&&decide (x.err=0)
def fit2 (h:List HEv) (x:HEv):Bool:=decide (0≤x.client)&&decide (x.client≤7) && !decide (pend h x.client<0)&&decide (x.op=zOp)&&kn4 x.err&&((match h[(pend h x.client).toNat]? with | some y=>decide (y.op.kind=1)&&decide (x.err=0) | none=>false)||decide (x.value=zBk))
def fitB (h:List HEv) (x:HEv):Bool:=if x.kind=1 then fit1 h x else if x.kind=2 then fit2 h x else if x.kind=3 then pX x else false
abbrev FitIs (h:List HEv) (x:HEv) (b:Bool):Prop:=FnIs Try.prog 61 [.d (encH h),.d (bY x)] [] (.d (i6 (if b then 1 else 0))) []
def oA (h:List HEv):Nat→Nat→Int×Int
 | 0,_=>(0,0)
 | n+1,i=>match h[i]? with
  | none=>(0,0)
  | some x=>if fitB (h.take i) x then oA h n (i+1) else ((i:Int),18)
def rchk (h:List HEv):Int×Int:=if 8192<h.length then (0,3) else oA h h.length 0
def fewB (h:List HEv):Bool:=decide (h.length≤60)&&h.all fun x=>decide (x.op.data.length≤70)
def cntC (l:List HOp) (c:Int):Int:=(l.countP fun o=>decide (o.client=c):Nat)
def l4 (c:Int):List HEv→Nat→Option (Nat×HEv)
 | [],_=>none
 | x::l,k=>if x.kind=3 then none else if x.client=c then some (k,x) else l4 c l (k+1)
def dx (x:HEv) (i:Nat) (era n:Int):HOp:=⟨x.client,n,era,x.op,i,-1,zBk,0⟩
def fc (o:HOp):Option (Nat×HEv)→HOp
 | none=>o
 | some (k,y) => { o with returned:=k,value:=y.value,err:=y.err }
def mkOp (h:List HEv) (i:Nat) (x:HEv) (out:List HOp) (era:Int):HOp:=fc (dx x i era (cntC out x.client)) (l4 x.client (h.drop (i+1)) (i+1))
def fj (h:List HEv):Nat→Nat→List HOp→Int→List HOp
 | 0,_,out,_=>out
 | n+1,i,out,era=>match h[i]? with
  | none=>out
  | some x=>if x.kind=3 then fj h n (i+1) out (era+1) else if x.kind=1 then fj h n (i+1) (out++[mkOp h i x out era]) era else fj h n (i+1) out era
def opsR (h:List HEv):List HOp:=fj h h.length 0 [] 0
theorem vx {l:List HOp} {k:Nat} {o:HOp} (c:Int) (ho:l[k]?=some o):cntC (l.take (k+1)) c=cntC (l.take k) c+(if o.client=c then 1 else 0):=by
 rw[cntC,cntC,List.take_add_one,ho,Option.toList_some,List.countP_append]
 by_cases h:o.client=c <;> simp[h]
theorem yM (l:List HOp) (c:Int):0≤cntC l c∧cntC l c≤l.length:=by
 have:=List.countP_le_length (p:=fun o:HOp=>decide (o.client=c)) (l:=l)
 unfold cntC
 omega
theorem gi {h:List HEv} {k:Nat} {y:HEv} (c:Int) (hy:h[k]?=some y):l4 c (h.drop k) k=if y.kind=3 then none else if y.client=c then some (k,y) else l4 c (h.drop (k+1)) (k+1):=by
 have hlt:=(List.getElem?_eq_some_iff.1 hy).1
 rw[List.drop_eq_getElem_cons hlt,(List.getElem?_eq_some_iff.1 hy).2]
 rfl
theorem wg (h:List HEv) (hL:h.length≤1000000):FnIs Try.prog 26 [.d (encH h)] [] (.own 64 0 (opsR h).length 41 none) [(64,dL (opsR h))]:=by
 refine aE aa Try.func26 rfl rfl rfl ?_;refine sR<|rC<|nR ?_;refine rC<|nR ?_;refine rC<|zW ?_;refine rC<|zP ?_
 refine wc_inv (fun q:Nat×List HOp×Int=>⟨[(5,.int .i64 q.1),(4,.int .i64 q.2.2),(3,.own 65 0 q.2.1.length 41 none),(0,.d (encH h))],[(65,some (dL q.2.1))],72,Try.f26.ntmps,64⟩) (fun q=>q.1≤h.length∧q.2.1.length≤q.1∧0≤q.2.2∧q.2.2≤q.1∧fj h (h.length-q.1) q.1 q.2.1 q.2.2=opsR h) (fun q=>h.length-q.1) (0,[],0) [(65,none)] ⟨Nat.zero_le _,Nat.le_refl _,Int.le_refl _,Int.le_refl _,rfl⟩
  (lg zi ⟨⟨rfl,rfl,rfl⟩,trivial⟩) ?_
 rintro⟨i,out,era⟩ ⟨hi,ho,he0,he1,hgo⟩
 simp only at hi ho he0 he1 hgo
 refine bM<|qR ?_;refine zD ?_;refine rQ iE ?_;refine rC<|nS ?_
 refine gu rfl (fun h2=>?_) (fun h2=>?_)
 ·have hlt:i<h.length:=by have:=of_decide_eq_true h2; omega
  obtain⟨x,hx⟩:∃u,h[i]?=some u:=⟨_,List.getElem?_eq_getElem hlt⟩
  have hx':h[((i:Int)).toNat]?=some x:=by rw[Int.toNat_natCast]; exact hx
  have hw22:IntKind.i64.wrap (era+1)=era+1:=aV (by omega) (by omega)
  obtain⟨n,hn⟩:∃n,h.length-i=n+1:=⟨h.length-i-1,by omega⟩
  have hn':h.length-(i+1)=n:=by omega
  rw[hn,fj,hx]at hgo
  simp only at hgo
  refine zQ<|bn<|qR<|zD ?_;refine rQ (ao aa rfl rfl rfl rfl rfl (by omega) hx') ?_;refine rC ?_;refine rQ iL ?_;refine rC<|nS ?_
  by_cases k3:x.kind=3
  ·have d3:decide (x.kind=3)=true:=dT k3
   have d1:(!decide (x.kind=1))=true:=by rw[dF (by omega)]; rfl
   rw[if_pos k3]at hgo
   refine wT<|aj ?_;refine rC ?_;refine rQ (dq (m:=era+1) aa rfl rfl hw22) ?_;refine rC<|zW ?_;refine zD ?_;refine rQ (ao aa rfl rfl rfl rfl rfl (by omega) hx') ?_;refine rC ?_;refine rQ iL ?_;refine rC ?_;refine zI<|bV<|db<|dj<|aG<|aj ?_;refine rC ?_;refine rQ iD ?_;refine rC<|aw ?_
   exact aI (i+1,out,era+1) [(65,some 65)] ⟨hlt,by simp only; omega,by simp only; omega,by simp only; omega,by simp only[hn']; exact hgo⟩ (by show h.length-(i+1)<h.length-i; omega) (lg zi ⟨zR,trivial⟩)
  ·have d3:decide (x.kind=3)=false:=dF k3
   rw[if_neg k3]at hgo
   refine wF<|kS<|qR ?_;refine zD ?_;refine rQ (ao aa rfl rfl rfl rfl rfl (by omega) hx') ?_;refine rC ?_;refine rQ iL ?_;refine rC<|nS ?_
   by_cases k1:x.kind=1
   ·have d1:(!decide (x.kind=1))=false:=by rw[dT k1]; rfl
    rw[if_pos k1]at hgo
    refine wF<|zQ ?_;refine aA (by kernel_rfl) ?_;refine dC [0] [] ?_;refine dC [5] [] ?_;refine dQ [29,30] [] (ao aa rfl rfl rfl rfl rfl (by omega) hx') ?_;refine dC [31] [] ?_;refine dQ [32] [] iL ?_;refine dC [4] [] ?_;refine dC [0] [] ?_;refine dC [5] [] ?_;refine dQ [35,36] [] (ao aa rfl rfl rfl rfl rfl (by omega) hx') ?_;refine dC [37] [] ?_;refine dQ [38] [] iL ?_;refine dC [5] [] ?_;refine dQ [33,34,39,40] [] iS ?_;refine cY [] [] rfl (an aa (fun K hk=>hk)) ?_;refine bu [6,41] [304] (aL aa rfl rfl rfl ⟨_,⟨rfl,rfl,rfl⟩,rfl⟩ rfl) ?_;refine am (by kernel_rfl)<|aG<|qR ?_;refine rC<|zP ?_
    refine wc_inv (fun k:Nat=>⟨[(7,.int .i64 k),(6,.ptr 66 []),(5,.int .i64 i),(4,.int .i64 era),(3,.own 65 0 out.length 41 none),(0,.d (encH h))],[(65,some (dL out)),(66,some (.box 30 (.d (bt (dx x i era (cntC (out.take k) x.client))))))],72,Try.f26.ntmps,64⟩) (fun k=>k≤out.length) (fun k=>out.length-k) 0 [(65,some 65),(66,some _)] (Nat.zero_le _)
     (lg zg ⟨zR,zR,trivial⟩) ?_
    intro k hk
    refine bM<|qR ?_;refine zD ?_;refine rQ (bS aa rfl rfl) ?_;refine rC<|nS ?_
    refine gu rfl (fun h4=>?_) (fun h4=>?_)
    ·have hkl:k<out.length:=by have:=of_decide_eq_true h4; omega
     obtain⟨q,hq⟩:∃q,out[k]?=some q:=⟨_,List.getElem?_eq_getElem hkl⟩
     have hq':out[((k:Int)).toNat]?=some q:=by rw[Int.toNat_natCast]; exact hq
     have hcn:=vx x.client hq
     have hcl:=yM (out.take k) x.client
     rw[List.length_take]at hcl
     have hw58:IntKind.i64.wrap (cntC (out.take k) x.client+1)=cntC (out.take k) x.client+1:=aV (by omega) (by omega)
     refine zQ<|bn<|aS<|aA (by kernel_rfl) ?_;refine dC [3] [] ?_;refine dC [7] [] ?_;refine dQ [48,49] [] (aP aa rfl rfl rfl rfl rfl (by omega) (by omega)) ?_;refine dC [50] [] ?_;refine dQ [51] [65] (bd aa rfl rfl ⟨rfl,q,hq',_,rfl,rfl⟩ rfl) ?_;refine dC [6] [] ?_;refine dQ [53] [66] iB ?_;refine dC [52,54] [] ?_;refine am (by kernel_rfl)<|aG ?_
     by_cases kc:q.client=x.client
     ·have dc:decide (q.client=x.client)=true:=dT kc
      rw[if_pos kc]at hcn
      refine wT<|aj ?_;refine rC ?_;refine rQ iB ?_;refine rQ (dq aa rfl rfl hw58) ?_;refine rC ?_;refine rX<|aw<|ep<|aG<|aj ?_;refine rC ?_;refine rQ iD ?_;refine rC<|aw ?_
      exact aI (k+1) [(65,some 65),(66,some 66)] hkl (by omega) (lg zg ⟨zR,⟨rfl,rfl,_,rfl,aR.of_eq (congrArg (fun n=>Row.box 30 (.d (bt (dx x i era n)))) hcn.symm)⟩,trivial⟩)
     ·have dc:decide (q.client=x.client)=false:=dF kc
      rw[if_neg kc,Int.add_zero]at hcn
      refine wF<|aN<|zC<|aj ?_;refine rC ?_;refine rQ iD ?_;refine rC<|aw ?_
      exact aI (k+1) [(65,some 65),(66,some 66)] hkl (by omega) (lg zg ⟨zR,⟨rfl,rfl,_,rfl,aR.of_eq (congrArg (fun n=>Row.box 30 (.d (bt (dx x i era n)))) hcn.symm)⟩,trivial⟩)
    ·have hke:k=out.length:=by have:=of_decide_eq_false h4; omega
     subst hke
     rw[List.take_length]
     refine zX<|qR<|rC ?_;refine rQ iD ?_;refine rC<|zP ?_
     have hal:out.length+1≤1048576:=by omega
     refine wc_inv (fun k:Nat=>⟨[(8,.int .i64 k),(6,.ptr 66 []),(5,.int .i64 i),(4,.int .i64 era),(3,.own 65 0 out.length 41 none),(0,.d (encH h))],[(65,some (dL out)),(66,some (.box 30 (.d (bt (dx x i era (cntC out x.client))))))],72,Try.f26.ntmps,64⟩) (fun k=>k≤h.length∧l4 x.client (h.drop k) k=l4 x.client (h.drop (i+1)) (i+1)) (fun k=>h.length-k) (i+1) [(65,some 65),(66,some 66)] ⟨hlt,rfl⟩
      (lg zg ⟨zR,zR,trivial⟩) ?_
     rintro k ⟨hk2,hret⟩
     refine bM<|qR ?_;refine zD ?_;refine rQ iE ?_;refine zD ?_
     by_cases hkl:k<h.length
     ·have d66:decide ((k:Int)<(h.length:Int))=true:=dT (by omega)
      obtain⟨y,hy⟩:∃y,h[k]?=some y:=⟨_,List.getElem?_eq_getElem hkl⟩
      have hy':h[((k:Int)).toNat]?=some y:=by rw[Int.toNat_natCast]; exact hy
      have hst:=gi x.client hy
      rw[hret]at hst
      refine rO ?_;refine rC ?_;refine rO ?_;refine rC ?_;refine rO ?_;refine rQ (ao aa rfl rfl rfl rfl rfl (by omega) hy') ?_;refine rO ?_;refine rC ?_;refine rO ?_;refine rQ iL ?_;refine rO ?_;refine rC ?_;refine rQ iT<|nS ?_
      by_cases y3:y.kind=3
      ·have dy:(!decide (y.kind=3))=false:=by rw[dT y3]; rfl
       rw[if_pos y3]at hst
       have hmk:mkOp h i x out era=fc (dx x i era (cntC out x.client)) none:=by rw[mkOp,hst]
       rw[hmk]at hgo
       have hl1:out.length+1=(out++[fc (dx x i era (cntC out x.client)) none]).length:=by simp
       refine wF<|zX<|aj ?_;refine rC ?_;refine rQ iM ?_;refine aW (aD (s:=41) aa rfl rfl rfl rfl rfl rfl rfl rfl) rfl ?_;refine aO (aQ (enc:=bt) (s:=41) (xs:=out) aa (fc (dx x i era (cntC out x.client)) none) rfl rfl rfl rfl rfl rfl rfl rfl rfl hal rfl) rfl ?_;refine rC<|aw<|zC<|aj ?_;refine rC ?_;refine rQ iD ?_;refine rC<|aw ?_
       exact aI (i+1,out++[fc (dx x i era (cntC out x.client)) none],era) [(65,some _)] ⟨hlt,by simp; omega,by simp only; omega,by simp only; omega,by simp only[hn']; exact hgo⟩ (by show h.length-(i+1)<h.length-i; omega) (lg ⟨zE,rfl,zE,rfl,⟨_,rfl,AVLe.of_eq (congrArg (fun n=>AV.own _ 0 n 41 none) hl1)⟩,rfl,zE,rfl,trivial⟩ ⟨zR,trivial⟩)
      ·have dy:(!decide (y.kind=3))=true:=by rw[dF y3]; rfl
       rw[if_neg y3]at hst
       refine wT<|zQ<|bn<|aS ?_;refine aA (by kernel_rfl) ?_;refine dC [0] [] ?_;refine dC [8] [] ?_;refine dQ [76,77] [] (ao aa rfl rfl rfl rfl rfl (by omega) hy') ?_;refine dC [78] [] ?_;refine dQ [79] [] iL ?_;refine dC [6] [] ?_;refine dQ [81] [66] iB ?_;refine dC [80,82] [] ?_;refine am (by kernel_rfl)<|aG ?_
       by_cases yc:y.client=x.client
       ·have dc:decide (y.client=x.client)=true:=dT yc
        rw[if_pos yc]at hst
        have hmk:mkOp h i x out era=fc (dx x i era (cntC out x.client)) (some (k,y)):=by rw[mkOp,hst]
        rw[hmk]at hgo
        have hl1:out.length+1=(out++[fc (dx x i era (cntC out x.client)) (some (k,y))]).length:=by simp
        refine wT<|sR ?_;refine zD ?_;refine rX<|nR ?_;refine zD ?_;refine rQ (ao aa rfl rfl rfl rfl rfl (by omega) hy') ?_;refine rC ?_;refine rQ iL ?_;refine rC ?_;refine rX<|nR ?_;refine zD ?_;refine rQ (ao aa rfl rfl rfl rfl rfl (by omega) hy') ?_;refine rC ?_;refine rQ iL ?_;refine rC ?_;refine rX<|nS<|bV ?_;refine Cv rfl<|db<|dY<|dj<|aG<|aj ?_;refine rC ?_;refine rQ iM ?_;refine aW (aD (s:=41) aa rfl rfl rfl rfl rfl rfl rfl rfl) rfl ?_;refine aO (aQ (enc:=bt) (s:=41) (xs:=out) aa (fc (dx x i era (cntC out x.client)) (some (k,y))) rfl rfl rfl rfl rfl rfl rfl rfl rfl hal rfl) rfl ?_;refine rC<|aw<|zC<|aj ?_;refine rC ?_;refine rQ iD ?_;refine rC<|aw ?_
        exact aI (i+1,out++[fc (dx x i era (cntC out x.client)) (some (k,y))],era) [(65,some _)] ⟨hlt,by simp; omega,by simp only; omega,by simp only; omega,by simp only[hn']; exact hgo⟩ (by show h.length-(i+1)<h.length-i; omega) (lg ⟨zE,rfl,zE,rfl,⟨_,rfl,AVLe.of_eq (congrArg (fun n=>AV.own _ 0 n 41 none) hl1)⟩,rfl,zE,rfl,trivial⟩ ⟨zR,trivial⟩)
       ·have dc:decide (y.client=x.client)=false:=dF yc
        rw[if_neg yc]at hst
        refine wF<|aN<|zC<|aj ?_;refine rC ?_;refine rQ iD ?_;refine rC<|aw ?_
        exact aI (k+1) [(65,some 65),(66,some 66)] ⟨hkl,hst.symm⟩ (by omega) (lg zg ⟨zR,zR,trivial⟩)
     ·have d66:decide ((k:Int)<(h.length:Int))=false:=dF (by omega)
      have hst:l4 x.client (h.drop (i+1)) (i+1)=none:=by rw[←hret,List.drop_eq_nil_of_le (by omega)]; rfl
      have hmk:mkOp h i x out era=fc (dx x i era (cntC out x.client)) none:=by rw[mkOp,hst]
      rw[hmk]at hgo
      have hl1:out.length+1=(out++[fc (dx x i era (cntC out x.client)) none]).length:=by simp
      iterate 6 refine rS ?_
      refine rQ iF ?_;refine zJ<|zX<|aj ?_;refine rC ?_;refine rQ iM ?_;refine aW (aD (s:=41) aa rfl rfl rfl rfl rfl rfl rfl rfl) rfl ?_;refine aO (aQ (enc:=bt) (s:=41) (xs:=out) aa (fc (dx x i era (cntC out x.client)) none) rfl rfl rfl rfl rfl rfl rfl rfl rfl hal rfl) rfl ?_;refine rC<|aw<|zC<|aj ?_;refine rC ?_;refine rQ iD ?_;refine rC<|aw ?_
      exact aI (i+1,out++[fc (dx x i era (cntC out x.client)) none],era) [(65,some _)] ⟨hlt,by simp; omega,by simp only; omega,by simp only; omega,by simp only[hn']; exact hgo⟩ (by show h.length-(i+1)<h.length-i; omega) (lg ⟨zE,rfl,zE,rfl,⟨_,rfl,AVLe.of_eq (congrArg (fun n=>AV.own _ 0 n 41 none) hl1)⟩,rfl,zE,rfl,trivial⟩ ⟨zR,trivial⟩)
   ·have d1:(!decide (x.kind=1))=true:=by rw[dF k1]; rfl
    rw[if_neg k1]at hgo
    refine wT<|bV<|db<|dj<|aG<|aj ?_;refine rC ?_;refine rQ iD ?_;refine rC<|aw ?_
    exact aI (i+1,out,era) [(65,some 65)] ⟨hlt,by simp only; omega,by simp only; omega,by simp only; omega,by simp only[hn']; exact hgo⟩ (by show h.length-(i+1)<h.length-i; omega) (lg zi ⟨zR,trivial⟩)
 ·have hi2:i=h.length:=by have:=of_decide_eq_false h2; omega
  subst hi2
  rw[Nat.sub_self]at hgo
  rw[←hgo]
  refine zX<|sR<|zD<|zT ?_
  exact⟨trivial,[(64,some _)],lg zV ⟨zR,trivial⟩⟩
theorem x7 (h:List HEv) (hL:h.length≤1000000):FnIs Try.prog 26 [.d (encH h)] [] (.d (cD (opsR h))) []:=(wg h hL).freeze_out 64 _ rfl (Frz.own rfl) trivial
end Go.Proofs.Ytkehohfgbblokaa
