/- A history without overlap is legal exactly if each read returns what is there; its states form a path, one for each operation and each era -/
import Derived.Test.YtkehohfgbblokaaRows
import Derived.Test.YtkehohfgbblokaaG07

set_option linter.unusedVariables false
set_option linter.unusedSimpArgs false
set_option linter.unusedSectionVars false

namespace Go.Proofs.Ytkehohfgbblokaa
open Go.ChangeShapes Go.WideShapes Go.ChangeAt Go.RowKit Go.Eng Go.Plain
theorem own:ownKnob Try.prog.godebug=none:=by kernel_rfl
theorem xv:laidOutB Try.prog=true:=by kernel_rfl
set_option maxRecDepth 100000 in
theorem yy (os:Os) (started:os.Started) (H:Type) (enc:TypeId×Value→H) :
  ReturnsInHanded {} Try.checked os 9 .any (Rows.linearsSerialSpec.pre6 enc Try.prog Try.f9 Rows.linearsSerialRow.domain false) (Rows.linearsSerialSpec.post enc Try.prog Try.f9 false true false false):=by
 refine returnsInHanded_of_change (C:=Try.checked) own started (by kernel_rfl) Try.func9
  (ChangeSpec.witness6 (enc:=enc) (C:=Try.checked) false ⟨#[], #[(.slice none 0 0)],[]⟩ 8 (by kernel_rfl) (by kernel_rfl) (by kernel_rfl) (by kernel_rfl)) ?_
 intro W base args ds gs before hval0 hW hcnd _
 have hval:∀(j:Nat) t v,Try.f9.params[j]?=some t→args[j]?=some v→Value.okWide Try.prog W .any base t v:=hval0
 have hW':=hW
 obtain⟨p,q,hA0,hV,rfl,hfz,hnd⟩:=hW
 have hA:DataW.TrodAll enc Try.prog W 0 (fun _=>true) true Try.f9.params.toList args.toList ds p:=hA0
 rw[Try.params9]at hA hval
 obtain⟨v0,vs0,d0,ds0,p0,q0,hargs,rfl,rfl,h0,r0⟩:=trodAll_cons hA
 obtain⟨rfl,rfl,rfl⟩:=trodAll_nil r0
 obtain rfl:args = #[v0]:=Array.ext' (by simpa using hargs)
 obtain⟨rfl,rfl⟩:=trodVars_none hV
 have k0:=h0
 have lt0:∀x∈p0,x.block<W.heap.size:=by obtain⟨m,hm⟩:=k0; exact DataW.trod_lt m _ _ _ hm
 obtain⟨fuel0,hfu0⟩:=h0
 obtain⟨x0,e0,_,w0⟩:=vH H enc W _ _ fuel0 _ _ hfu0
 obtain⟨ad0,ln0,cp0,hcs0⟩:=okWide_slice Try.underlying36 (hval 0 36 v0 rfl rfl)
 have rel0:RelV (fun _=>none) W (fun _=>False) (.d (qK x0)) v0:=e0.relV ⟨fun⟨c,hc⟩=>(by rw[hcs0]at hc; cases hc),fun hc=>(by cases hc)⟩
 clear hA0 hval0
 refine (tT ((show FnIs Try.prog 9 [.d (qK x0)] [] (.bool true) [] from pk x0)) (W:=W) (args := #[v0]) ⟨v0,[],rfl,⟨rel0,trivial⟩,rfl⟩).mono fun e W' ⟨he,bel⟩=>?_
 subst he
 exact⟨_,rfl,_,_,_,[],_,[],hW',trodAll_mk1 (shut_bool Try.underlying4 _),(trodAll_cons_mk (Below.trod xv (by kernel_rfl) (of_decide_eq_true (by kernel_rfl)) k0 bel lt0) trodAll_mk0),rfl,bel.frame _,fun h=>by cases h⟩
theorem over:Rows.linearsSerialRow.holds Try.pinned (OpenSpec.ofChange Rows.linearsSerialSpec):=
 OpenClaim.holds_of_wide 9 Try.f9 rfl rfl rfl rfl rfl rfl rfl ⟨rfl,rfl,rfl,rfl,rfl⟩ rfl rfl rfl rfl rfl (by kernel_rfl) Try.func9 (by kernel_rfl)
  (of_decide_eq_true (by kernel_rfl)) (by unfold Func.isWrapper; first | (rw[if_pos (by decide+kernel)]; kernel_rfl) | (rw[if_neg (by decide+kernel)]; exact⟨rfl,rfl⟩))
  (fun os started H enc _=>yy os started H enc)
theorem linearsSerial_holds:Rows.LinearsSerialSaid:=over
end Go.Proofs.Ytkehohfgbblokaa
