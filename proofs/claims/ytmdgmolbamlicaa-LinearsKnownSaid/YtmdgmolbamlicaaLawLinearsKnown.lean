/- The closed statement LinearsKnown holds of the given program, 512 operations one after another, 8 flushes at once, and all histories derived from a counter, without a condition. -/
import Derived.Test.YtmdgmolbamlicaaRows
import Derived.Test.YtmdgmolbamlicaaG08

set_option linter.unusedVariables false
set_option linter.unusedSimpArgs false
set_option linter.unusedSectionVars false
set_option maxRecDepth 10000

namespace Go.Proofs.Ytmdgmolbamlicaa
open Go.ChangeShapes Go.WideShapes Go.ChangeAt Go.RowKit Go.Eng Go.Plain
theorem own:ownKnob Try.prog.godebug=none:=by kernel_rfl
set_option maxRecDepth 100000 in
theorem Df (os:Os) (started:os.Started) (H:Type) (enc:TypeId×Value→H) :
  ReturnsInHanded {} Try.checked os 3 .any (Rows.linearsKnownSpec.pre6 enc Try.prog Try.f3 Rows.linearsKnownRow.domain false) (Rows.linearsKnownSpec.post enc Try.prog Try.f3 false true false false):=by
 refine returnsInHanded_of_change (C:=Try.checked) own started (by kernel_rfl) Try.func3
  (ChangeSpec.witness6 (enc:=enc) (C:=Try.checked) false ⟨#[], #[],[]⟩ 8 (by kernel_rfl) (by kernel_rfl) (by kernel_rfl) (by kernel_rfl)) ?_
 intro W base args ds gs before hval0 hW hcnd _
 have hval:∀(j:Nat) t v,Try.f3.params[j]?=some t→args[j]?=some v→Value.okWide Try.prog W .any base t v:=hval0
 have hW':=hW
 obtain⟨p,q,hA0,hV,rfl,hfz,hnd⟩:=hW
 have hA:DataW.TrodAll enc Try.prog W 0 (fun _=>true) true Try.f3.params.toList args.toList ds p:=hA0
 rw[Try.params3]at hA hval
 obtain⟨hargs,rfl,rfl⟩:=trodAll_nil hA
 obtain rfl:args = #[]:=Array.ext' (by simpa using hargs)
 obtain⟨rfl,rfl⟩:=trodVars_none hV
 clear hA0 hval0
 refine (xJ (tg) (W:=W) (args := #[]) rfl).mono fun e W' ⟨he,bel⟩=>?_
 subst he
 exact⟨_,rfl,_,_,_,[],_,[],hW',trodAll_mk1 (shut_bool Try.underlying4 _),trodAll_mk0,rfl,bel.frame _,fun h=>by cases h⟩
theorem over:Rows.linearsKnownRow.holds Try.pinned (OpenSpec.ofChange Rows.linearsKnownSpec):=
 OpenClaim.holds_of_wide 3 Try.f3 rfl rfl rfl rfl rfl rfl rfl ⟨rfl,rfl,rfl,rfl,rfl⟩ rfl rfl rfl rfl rfl (by kernel_rfl) Try.func3 (by kernel_rfl)
  (of_decide_eq_true (by kernel_rfl)) (by unfold Func.isWrapper; first | (rw[if_pos (by decide+kernel)]; kernel_rfl) | (rw[if_neg (by decide+kernel)]; exact⟨rfl,rfl⟩))
  (fun os started H enc _=>Df os started H enc)
theorem linearsKnown_holds:Rows.LinearsKnownSaid:=over
end Go.Proofs.Ytmdgmolbamlicaa
