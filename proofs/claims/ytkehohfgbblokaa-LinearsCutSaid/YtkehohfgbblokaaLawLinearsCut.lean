/- If the last event of a legal history is left out, it is legal; if the events of operations that returned ErrArg or ErrNonce are left out, nothing changes. No condition. -/
import Derived.Test.YtkehohfgbblokaaRows
import Derived.Test.YtkehohfgbblokaaG08

set_option linter.unusedVariables false
set_option linter.unusedSimpArgs false
set_option linter.unusedSectionVars false

namespace Go.Proofs.Ytkehohfgbblokaa
open Go.ChangeShapes Go.WideShapes Go.ChangeAt Go.RowKit Go.Eng Go.Plain
theorem own:ownKnob Try.prog.godebug=none:=by kernel_rfl
theorem tV:laidOutB Try.prog=true:=by kernel_rfl
set_option maxRecDepth 100000 in
theorem Ao (os:Os) (started:os.Started) (H:Type) (enc:TypeId×Value→H) :
  ReturnsInHanded {} Try.checked os 7 .any (Rows.linearsCutSpec.pre6 enc Try.prog Try.f7 Rows.linearsCutRow.domain false) (Rows.linearsCutSpec.post enc Try.prog Try.f7 false true false false):=by
 refine returnsInHanded_of_change (C:=Try.checked) own started (by kernel_rfl) Try.func7
  (ChangeSpec.witness6 (enc:=enc) (C:=Try.checked) false ⟨#[], #[(.agg #[.slice none 0 0]),(.int .u8 0)],[]⟩ 8 (by kernel_rfl) (by kernel_rfl) (by kernel_rfl) (by kernel_rfl)) ?_
 intro W base args ds gs before hval0 hW hcnd _
 have hval:∀(j:Nat) t v,Try.f7.params[j]?=some t→args[j]?=some v→Value.okWide Try.prog W .any base t v:=hval0
 have hW':=hW
 obtain⟨p,q,hA0,hV,rfl,hfz,hnd⟩:=hW
 have hA:DataW.TrodAll enc Try.prog W 0 (fun _=>true) true Try.f7.params.toList args.toList ds p:=hA0
 rw[Try.params7]at hA hval
 obtain⟨v0,vs0,d0,ds0,p0,q0,hargs,rfl,rfl,h0,r0⟩:=trodAll_cons hA
 obtain⟨v1,vs1,d1,ds1,p1,q1,rfl,rfl,rfl,h1,r1⟩:=trodAll_cons r0
 obtain⟨rfl,rfl,rfl⟩:=trodAll_nil r1
 obtain rfl:args = #[v0,v1]:=Array.ext' (by simpa using hargs)
 obtain⟨rfl,rfl⟩:=trodVars_none hV
 have k0:=h0
 have lt0:∀x∈p0,x.block<W.heap.size:=by obtain⟨m,hm⟩:=k0; exact DataW.trod_lt m _ _ _ hm
 obtain⟨fuel0,hfu0⟩:=h0
 obtain⟨x0,e0,_,w0⟩:=wP H enc W _ _ fuel0 _ _ hfu0
 obtain⟨cs0,hcs0,_⟩:=okWide_struct Try.underlying38 (hval 0 38 v0 rfl rfl)
 have rel0:RelV (fun _=>none) W (fun _=>False) (.d (lb x0)) v0:=e0.relV ⟨fun _=>rfl,fun _=>⟨cs0,hcs0⟩⟩
 have k1:=h1
 have lt1:∀x∈p1,x.block<W.heap.size:=by obtain⟨m,hm⟩:=k1; exact DataW.trod_lt m _ _ _ hm
 obtain⟨x1,e1,_,w1⟩:∃m:Int,Enc W (fun _=>False) (.sc (.int .u8 m)) v1.cells.toList∧v1.cells.toList.length=1∧(Lit.int .u8 m).wf=true:=by obtain⟨fuel,hfu⟩:=h1; exact jE (P:=Try.prog) Try.underlying5 H enc W _ _ fuel _ _ hfu
 obtain⟨m1,hcs1⟩:=okWide_int Try.underlying5 (hval 1 5 v1 rfl rfl)
 have rel1:RelV (fun _=>none) W (fun _=>False) (.d (.sc (.int .u8 x1))) v1:=e1.relV ⟨fun⟨c,hc⟩=>(by rw[hcs1]at hc; cases hc),fun hc=>(by cases hc)⟩
 clear hA0 hval0
 refine (vi ((show FnIs Try.prog 7 [.d (lb x0),.int .u8 x1] [] (.bool true) [] from by have:=vj x0 x1.toNat.toUInt8; rwa [mH w1]at this)) (W:=W) (args := #[v0,v1]) ⟨v0,[v1],rfl,⟨rel0,trivial⟩,⟨v1,[],rfl,⟨rel1,trivial⟩,rfl⟩⟩).mono fun e W' ⟨he,bel⟩=>?_
 subst he
 exact⟨_,rfl,_,_,_,[],_,[],hW',trodAll_mk1 (shut_bool Try.underlying4 _),(trodAll_cons_mk (Below.trod tV (by kernel_rfl) (of_decide_eq_true (by kernel_rfl)) k0 bel lt0) (trodAll_cons_mk (Below.trod tV (by kernel_rfl) (of_decide_eq_true (by kernel_rfl)) k1 bel lt1) trodAll_mk0)),rfl,bel.frame _,fun h=>by cases h⟩
theorem over:Rows.linearsCutRow.holds Try.pinned (OpenSpec.ofChange Rows.linearsCutSpec):=
 OpenClaim.holds_of_wide 7 Try.f7 rfl rfl rfl rfl rfl rfl rfl ⟨rfl,rfl,rfl,rfl,rfl⟩ rfl rfl rfl rfl rfl (by kernel_rfl) Try.func7 (by kernel_rfl)
  (of_decide_eq_true (by kernel_rfl)) (by unfold Func.isWrapper; first | (rw[if_pos (by decide+kernel)]; kernel_rfl) | (rw[if_neg (by decide+kernel)]; exact⟨rfl,rfl⟩))
  (fun os started H enc _=>Ao os started H enc)
theorem linearsCut_holds:Rows.LinearsCutSaid:=over
end Go.Proofs.Ytkehohfgbblokaa
