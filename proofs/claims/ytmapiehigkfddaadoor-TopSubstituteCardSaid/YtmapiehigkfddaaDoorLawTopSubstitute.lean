/- with round keys that are all zero, a block of equal bytes is encrypted to a block of equal bytes, the byte replaced by its substitute ten times, for any byte -/
import Derived.Test.YtmapiehigkfddaaDoorTie
import Derived.Test.YtmapiehigkfddaaDoorCards
import Derived.Test.YtmapiehigkfddaaDoorG03
import Derived.Test.YtmapiehigkfddaaDoorG04
import Derived.Test.YtmapiehigkfddaaDoorG05

set_option linter.unusedVariables false
set_option linter.unusedSimpArgs false
set_option linter.unusedSectionVars false
set_option maxRecDepth 10000

namespace Go.Proofs.YtmapiehigkfddaaDoor
open Go.ChangeShapes Go.WideShapes Go.ChangeAt Go.RowKit Go.Eng Go.Plain
set_option maxRecDepth 100000 in
theorem dU (os:Os) (started:os.Started) (H:Type) (enc:TypeId×Value→H) :
  ReturnsInHanded {} Tryd.checked os 4 .any (fun w args=>(Rows.topSubstituteSpec.pre enc Tryd.prog Tryd.f4 [] false w args∧laidMetH Tryd.prog Rows.topSubstituteRow.laid w)∧sizedMet enc Tryd.prog Tryd.f4 (OpenSpec.ofChange Rows.topSubstituteSpec) false w args)
   (Rows.topSubstituteSpec.post enc Tryd.prog Tryd.f4 false true false false):=by
 refine nF (C:=Tryd.checked) (X:=fun w _=>laidMetH Tryd.prog Rows.topSubstituteRow.laid w) (fun _ _ _ hh h=>h.of_heap hh) own started (by kernel_rfl) Tryd.func4
  (ChangeSpec.witness_shaped (enc:=enc) (C:=Tryd.checked) (os:=os) (X:=fun w _=>laidMetH Tryd.prog Rows.topSubstituteRow.laid w) false (World.laidAll Tryd.prog os Rows.topSubstituteRow.laid) #[(.int .u8 0)] 8 (World.laidAll_os _ _ _)
   (World.shaped_of_ZipB (by kernel_rfl) (by kernel_rfl)) (by kernel_rfl) (by kernel_rfl) (by kernel_rfl)
   (by rw[MakeChecks.laidMetH_plain _ _ _ (by kernel_rfl)]; exact laidMet_laidAll _ (by kernel_rfl) (by kernel_rfl))) ?_
 intro W base args ds gs before hval0 hW hL hsh
 have hval:∀(j:Nat) t v,Tryd.f4.params[j]?=some t→args[j]?=some v→Value.okWide Tryd.prog W .any base t v:=hval0
 have hglob:=o8 hL hsh
 have hW':=hW
 obtain⟨p,q,hA0,hV,rfl,hfz,hnd⟩:=hW
 have hA:DataW.TrodAll enc Tryd.prog W 0 (fun _=>true) true Tryd.f4.params.toList args.toList ds p:=hA0
 rw[Tryd.params4]at hA hval
 obtain⟨v0,vs0,d0,ds0,p0,q0,hargs,rfl,rfl,h0,r0⟩:=trodAll_cons hA
 obtain⟨rfl,rfl,rfl⟩:=trodAll_nil r0
 obtain rfl:args = #[v0]:=Array.ext' (by simpa using hargs)
 obtain⟨rfl,rfl⟩:=trodVars_none hV
 have k0:=h0
 have lt0:∀x∈p0,x.block<W.heap.size:=by obtain⟨m,hm⟩:=k0; exact DataW.trod_lt m _ _ _ hm
 obtain⟨x0,e0,_,w0⟩:∃m:Int,Enc W (fun _=>False) (.sc (.int .u8 m)) v0.cells.toList∧v0.cells.toList.length=1∧(Lit.int .u8 m).wf=true:=by obtain⟨fuel,hfu⟩:=h0; exact ns (P:=Tryd.prog) Tryd.underlying5 H enc W _ _ fuel _ _ hfu
 obtain⟨m0,hcs0⟩:=okWide_int Tryd.underlying5 (hval 0 5 v0 rfl rfl)
 have rel0:RelV (fun _=>none) W (fun _=>False) (.d (.sc (.int .u8 x0))) v0:=e0.relV ⟨fun⟨c,hc⟩=>(by rw[hcs0]at hc; cases hc),fun hc=>(by cases hc)⟩
 clear hA0 hval0
 refine (nB ((show FnIs Tryd.prog 4 [.int .u8 x0] [] (.bool true) [] from by have:=qz x0.toNat.toUInt8; rwa [pR w0]at this)) (W:=W) (args := #[v0]) ⟨v0,[],rfl,⟨rel0,trivial⟩,rfl⟩ hglob).mono fun e W' ⟨he,bel⟩=>?_
 subst he
 exact⟨_,rfl,_,_,_,[],_,[],hW',trodAll_mk1 (shut_bool Tryd.underlying4 _),(trodAll_cons_mk (Below.trod mL (by kernel_rfl) (of_decide_eq_true (by kernel_rfl)) k0 bel lt0) trodAll_mk0),rfl,bel.frame _,fun h=>by cases h⟩
theorem fG:(Rows.topSubstituteRow.inPlace==Tryd.prog.inPlace 4)=true:=by kernel_rfl
theorem fF:(Rows.topSubstituteRow.unfollowed==Tryd.prog.unfollowed 4)=true:=by kernel_rfl
theorem fE:(Rows.topSubstituteRow.recurses==Tryd.prog.recurses 4)=true:=by kernel_rfl
theorem fD:(Rows.topSubstituteRow.named==Tryd.prog.varsNamed 4)=true:=by kernel_rfl
theorem fH:Rows.topSubstituteRow.wf (OpenSpec.ofChange Rows.topSubstituteSpec)=true:=by kernel_rfl
theorem dV:joinedFacts Tryd.prog 4 Tryd.f4 Rows.topSubstituteSpec Rows.topSubstituteRow=true:=by
 unfold joinedFacts
 exact (and2 (and2 (and2 (and2 (and2 (and2 (and2 (and2 (and2 (and2 (and2 (and2 (and2 (and2 (and2 (and2 (and2 (and2 (and2 (and2 (and2 (and2 (and2 (and2 (and2 (and2 (and2 (and2 (and2 (and2 (and2 fH mL) qe) (by kernel_rfl)) (by kernel_rfl)) (by kernel_rfl)) (by kernel_rfl)) (by kernel_rfl)) (by kernel_rfl)) fG) fF) fE) fD) (by kernel_rfl)) (by kernel_rfl)) (by kernel_rfl)) (by kernel_rfl)) (by kernel_rfl)) (by kernel_rfl)) (by kernel_rfl)) (by kernel_rfl)) (by kernel_rfl)) qg) (by kernel_rfl)) oJ) oK) oI) qf) (by kernel_rfl)) (by kernel_rfl)) (by kernel_rfl)) (by kernel_rfl))
theorem ff:Rows.topSubstituteRow.holds Tryd.pinned (OpenSpec.ofChange Rows.topSubstituteSpec):=
 OpenClaim.holds_of_wide 4 Tryd.f4 rfl rfl rfl rfl rfl rfl rfl ⟨rfl,rfl,rfl,rfl,rfl⟩ rfl rfl rfl rfl rfl (by kernel_rfl) Tryd.func4 dV
  (of_decide_eq_true (by kernel_rfl)) (by unfold Func.isWrapper; first | (rw[if_pos (by decide+kernel)]; kernel_rfl) | (rw[if_neg (by decide+kernel)]; exact⟨rfl,rfl⟩))
  (fun os started H enc _=>dU os started H enc)
theorem topSubstitute_holds:Rows.TopSubstituteCardSaid :=
 Claim7.holds_tied_plain_at .later [] [.data, .data] true (true, "1a04563922af885c5789e6a5cbe4dd01ef216a59e5f70b93ede6c3a037528e52") false
  ff (fun _ h=>by cases h) (by kernel_rfl) (fun _ h=>by cases h) topSubstitute_row_tie rfl ⟨rfl,rfl⟩ (by kernel_rfl) rfl
  (fun f fn hf hfn=>by
   obtain rfl : f = 4 := Option.some.inj ((show Tryd.prog.funcNamed "caisson/caissontop.TopSubstitute" = some 4 by kernel_rfl).symm.trans hf) |>.symm
   obtain rfl:fn=Tryd.f4:=(Option.some.inj (Tryd.func4.symm.trans hfn)).symm
   exact⟨by kernel_rfl,fun j t ht=>by
    rw[Tryd.params4]at ht
    have hm:t∈[5]:=by simpa using Array.mem_of_getElem? ht
    have hall:([5].all fun u => !Tryd.prog.wantsStandIn u)=true:=by kernel_rfl
    exact (show Tryd.prog.wantsStandIn t=false by simpa using List.all_eq_true.1 hall t hm)⟩)
  (by kernel_rfl)
end Go.Proofs.YtmapiehigkfddaaDoor
