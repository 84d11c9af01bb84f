/- The operations of a history are those of the definition, in new memory, for every history of plain data. No condition. -/
import Derived.Test.YtjfkhlamjdbfkaaGreatDoorTie
import Derived.Test.YtjfkhlamjdbfkaaGreatDoorCards
import Derived.Test.YtjfkhlamjdbfkaaGreatDoorG03
import Derived.Test.YtjfkhlamjdbfkaaGreatDoorG06

set_option linter.unusedVariables false
set_option linter.unusedSimpArgs false
set_option linter.unusedSectionVars false
set_option maxRecDepth 10000

namespace Go.Proofs.YtjfkhlamjdbfkaaGreatDoor
open Go.ChangeShapes Go.WideShapes Go.ChangeAt Go.RowKit Go.Eng Go.Plain
set_option maxRecDepth 100000 in
theorem hU (os:Os) (started:os.Started) (H:Type) (enc:TypeId×Value→H) :
  ReturnsInHanded {} Tryz.checked os 3 .any (fun w args=>(Rows.historiesOpsSpec.pre enc Tryz.prog Tryz.f3 [] false w args∧laidMetH Tryz.prog Rows.historiesOpsRow.laid w)∧sizedMet enc Tryz.prog Tryz.f3 (OpenSpec.ofChange Rows.historiesOpsSpec) false w args)
   (Rows.historiesOpsSpec.post enc Tryz.prog Tryz.f3 false true false false):=by
 refine sv (C:=Tryz.checked) (X:=fun w _=>laidMetH Tryz.prog Rows.historiesOpsRow.laid w) (fun _ _ _ hh h=>h.of_heap hh) own started (by kernel_rfl) Tryz.func3
  (ChangeSpec.witness_shaped (enc:=enc) (C:=Tryz.checked) (os:=os) (X:=fun w _=>laidMetH Tryz.prog Rows.historiesOpsRow.laid w) false (World.laidAll Tryz.prog os Rows.historiesOpsRow.laid) #[(.agg #[.slice none 0 0])] 8 (World.laidAll_os _ _ _)
   (World.shaped_of_ZipB (by kernel_rfl) (by kernel_rfl)) (by kernel_rfl) (by kernel_rfl) (by kernel_rfl)
   (by rw[MakeChecks.laidMetH_plain _ _ _ (by kernel_rfl)]; exact laidMet_laidAll _ (by kernel_rfl) (by kernel_rfl))) ?_
 intro W base args ds gs before hval0 hW hL hsh
 have hval:∀(j:Nat) t v,Tryz.f3.params[j]?=some t→args[j]?=some v→Value.okWide Tryz.prog W .any base t v:=hval0
 have hglob:=uu hL hsh
 have hW':=hW
 obtain⟨p,q,hA0,hV,rfl,hfz,hnd⟩:=hW
 have hA:DataW.TrodAll enc Tryz.prog W 0 (fun _=>true) true Tryz.f3.params.toList args.toList ds p:=hA0
 rw[Tryz.params3]at hA hval
 obtain⟨v0,vs0,d0,ds0,p0,q0,hargs,rfl,rfl,h0,r0⟩:=trodAll_cons hA
 obtain⟨rfl,rfl,rfl⟩:=trodAll_nil r0
 obtain rfl:args = #[v0]:=Array.ext' (by simpa using hargs)
 obtain⟨rfl,rfl⟩:=trodVars_none hV
 have k0:=h0
 have lt0:∀x∈p0,x.block<W.heap.size:=by obtain⟨m,hm⟩:=k0; exact DataW.trod_lt m _ _ _ hm
 obtain⟨fuel0,hfu0⟩:=h0
 obtain⟨x0,e0,_,w0⟩:=tQ H enc W _ _ fuel0 _ _ hfu0
 obtain⟨cs0,hcs0,_⟩:=okWide_struct Tryz.underlying24 (hval 0 24 v0 rfl rfl)
 have rel0:RelV (fun _=>none) W (fun _=>False) (.d (kj x0)) v0:=e0.relV ⟨fun _=>rfl,fun _=>⟨cs0,hcs0⟩⟩
 clear hA0 hval0
 refine (sh (sj x0) (W:=W) (args := #[v0]) ⟨v0,[],rfl,⟨rel0,trivial⟩,rfl⟩ hglob).mono fun e W' ⟨he,bel⟩=>?_
 subst he
 exact⟨_,rfl,_,_,_,[],_,[],hW',trodAll_mk1 (shut_bool Tryz.underlying4 _),(trodAll_cons_mk (Below.trod qQ (by kernel_rfl) (of_decide_eq_true (by kernel_rfl)) k0 bel lt0) trodAll_mk0),rfl,bel.frame _,fun h=>by cases h⟩
theorem kD:(Rows.historiesOpsRow.inPlace==Tryz.prog.inPlace 3)=true:=by kernel_rfl
theorem kC:(Rows.historiesOpsRow.unfollowed==Tryz.prog.unfollowed 3)=true:=by kernel_rfl
theorem kB:(Rows.historiesOpsRow.recurses==Tryz.prog.recurses 3)=true:=by kernel_rfl
theorem kA:(Rows.historiesOpsRow.named==Tryz.prog.varsNamed 3)=true:=by kernel_rfl
theorem kE:Rows.historiesOpsRow.wf (OpenSpec.ofChange Rows.historiesOpsSpec)=true:=by kernel_rfl
theorem hY:joinedFacts Tryz.prog 3 Tryz.f3 Rows.historiesOpsSpec Rows.historiesOpsRow=true:=by
 unfold joinedFacts
 exact (and2 (and2 (and2 (and2 (and2 (and2 (and2 (and2 (and2 (and2 (and2 (and2 (and2 (and2 (and2 (and2 (and2 (and2 (and2 (and2 (and2 (and2 (and2 (and2 (and2 (and2 (and2 (and2 (and2 (and2 (and2 kE qQ) vv) (by kernel_rfl)) (by kernel_rfl)) (by kernel_rfl)) (by kernel_rfl)) (by kernel_rfl)) (by kernel_rfl)) kD) kC) kB) kA) (by kernel_rfl)) (by kernel_rfl)) (by kernel_rfl)) (by kernel_rfl)) (by kernel_rfl)) (by kernel_rfl)) (by kernel_rfl)) (by kernel_rfl)) (by kernel_rfl)) vx) (by kernel_rfl)) tI) tJ) tH) vw) (by kernel_rfl)) (by kernel_rfl)) (by kernel_rfl)) (by kernel_rfl))
theorem jD:Rows.historiesOpsRow.holds Tryz.pinned (OpenSpec.ofChange Rows.historiesOpsSpec):=
 OpenClaim.holds_of_wide 3 Tryz.f3 rfl rfl rfl rfl rfl rfl rfl ⟨rfl,rfl,rfl,rfl,rfl⟩ rfl rfl rfl rfl rfl (by kernel_rfl) Tryz.func3 hY
  (of_decide_eq_true (by kernel_rfl)) (by unfold Func.isWrapper; first | (rw[if_pos (by decide+kernel)]; kernel_rfl) | (rw[if_neg (by decide+kernel)]; exact⟨rfl,rfl⟩))
  (fun os started H enc _=>hU os started H enc)
theorem historiesOps_holds:Rows.HistoriesOpsCardSaid :=
 Claim7.holds_tied_plain_at .later [] [.data, .data, .data, .data, .sentinel, .sentinel, .pinned] true (true, "5d6e45e00dc9ec444f568f7fbd9bdc41f82ea7c7149162d6217f584a649f1a67") true
  jD (fun _ h=>by cases h) (by kernel_rfl) (fun _ h=>by cases h) historiesOps_row_tie rfl ⟨rfl,rfl⟩ (by kernel_rfl) rfl
  (fun f fn hf hfn=>by
   obtain rfl : f = 3 := Option.some.inj ((show Tryz.prog.funcNamed "caisson/caissonlaw24.HistoriesOps" = some 3 by kernel_rfl).symm.trans hf) |>.symm
   obtain rfl:fn=Tryz.f3:=(Option.some.inj (Tryz.func3.symm.trans hfn)).symm
   exact⟨by kernel_rfl,fun j t ht=>by
    rw[Tryz.params3]at ht
    have hm:t∈[24]:=by simpa using Array.mem_of_getElem? ht
    have hall:([24].all fun u => !Tryz.prog.wantsStandIn u)=true:=by kernel_rfl
    exact (show Tryz.prog.wantsStandIn t=false by simpa using List.all_eq_true.1 hall t hm)⟩)
  (by kernel_rfl)
end Go.Proofs.YtjfkhlamjdbfkaaGreatDoor
