/- a tag is the digest of two digests, and what is extracted and expanded consists of tags, for any key, message and info of at most 100 bytes, and for longer ones the example holds -/
import Derived.Test.YtmapiehigkfddaaDoorTie
import Derived.Test.YtmapiehigkfddaaDoorCards
import Derived.Test.YtmapiehigkfddaaDoorG03
import Derived.Test.YtmapiehigkfddaaDoorG05

set_option linter.unusedVariables false
set_option linter.unusedSimpArgs false
set_option linter.unusedSectionVars false
set_option maxRecDepth 10000

namespace Go.Proofs.YtmapiehigkfddaaDoor
open Go.ChangeShapes Go.WideShapes Go.ChangeAt Go.RowKit Go.Eng Go.Plain
set_option maxRecDepth 100000 in
theorem gN (os:Os) (started:os.Started) (H:Type) (enc:TypeId×Value→H) :
  ReturnsInHanded {} Tryd.checked os 3 .any (fun w args=>(Rows.topTagsSpec.pre enc Tryd.prog Tryd.f3 [] false w args∧laidMetH Tryd.prog Rows.topTagsRow.laid w)∧sizedMet enc Tryd.prog Tryd.f3 (OpenSpec.ofChange Rows.topTagsSpec) false w args)
   (Rows.topTagsSpec.post enc Tryd.prog Tryd.f3 false true false false):=by
 refine nP (C:=Tryd.checked) (X:=fun w _=>laidMetH Tryd.prog Rows.topTagsRow.laid w) (fun _ _ _ hh h=>h.of_heap hh) own started (by kernel_rfl) Tryd.func3
  (ChangeSpec.witness_shaped (enc:=enc) (C:=Tryd.checked) (os:=os) (X:=fun w _=>laidMetH Tryd.prog Rows.topTagsRow.laid w) false (World.laidAll Tryd.prog os Rows.topTagsRow.laid) #[(.slice none 0 0),(.slice none 0 0),(.slice none 0 0)] 8 (World.laidAll_os _ _ _)
   (World.shaped_of_ZipB (by kernel_rfl) (by kernel_rfl)) (by kernel_rfl) (by kernel_rfl) (by kernel_rfl)
   (by rw[MakeChecks.laidMetH_plain _ _ _ (by kernel_rfl)]; exact laidMet_laidAll _ (by kernel_rfl) (by kernel_rfl))) ?_
 intro W base args ds gs before hval0 hW hL hsh
 have hval:∀(j:Nat) t v,Tryd.f3.params[j]?=some t→args[j]?=some v→Value.okWide Tryd.prog W .any base t v:=hval0
 have hglob:=po hL hsh
 have hW':=hW
 obtain⟨p,q,hA0,hV,rfl,hfz,hnd⟩:=hW
 have hA:DataW.TrodAll enc Tryd.prog W 0 (fun _=>true) true Tryd.f3.params.toList args.toList ds p:=hA0
 rw[Tryd.params3]at hA hval
 obtain⟨v0,vs0,d0,ds0,p0,q0,hargs,rfl,rfl,h0,r0⟩:=trodAll_cons hA
 obtain⟨v1,vs1,d1,ds1,p1,q1,rfl,rfl,rfl,h1,r1⟩:=trodAll_cons r0
 obtain⟨v2,vs2,d2,ds2,p2,q2,rfl,rfl,rfl,h2,r2⟩:=trodAll_cons r1
 obtain⟨rfl,rfl,rfl⟩:=trodAll_nil r2
 obtain rfl:args = #[v0,v1,v2]:=Array.ext' (by simpa using hargs)
 obtain⟨rfl,rfl⟩:=trodVars_none hV
 have k0:=h0
 have lt0:∀x∈p0,x.block<W.heap.size:=by obtain⟨m,hm⟩:=k0; exact DataW.trod_lt m _ _ _ hm
 obtain⟨fuel0,hfu0⟩:=h0
 obtain⟨x0,e0,_,w0⟩:=ec H enc W _ _ fuel0 _ _ hfu0
 obtain⟨ad0,ln0,cp0,hcs0⟩:=okWide_slice Tryd.underlying22 (hval 0 22 v0 rfl rfl)
 have rel0:RelV (fun _=>none) W (fun _=>False) (.d (encB x0)) v0:=e0.relV ⟨fun⟨c,hc⟩=>(by rw[hcs0]at hc; cases hc),fun hc=>(by cases hc)⟩
 have k1:=h1
 have lt1:∀x∈p1,x.block<W.heap.size:=by obtain⟨m,hm⟩:=k1; exact DataW.trod_lt m _ _ _ hm
 obtain⟨fuel1,hfu1⟩:=h1
 obtain⟨x1,e1,_,w1⟩:=ec H enc W _ _ fuel1 _ _ hfu1
 obtain⟨ad1,ln1,cp1,hcs1⟩:=okWide_slice Tryd.underlying22 (hval 1 22 v1 rfl rfl)
 have rel1:RelV (fun _=>none) W (fun _=>False) (.d (encB x1)) v1:=e1.relV ⟨fun⟨c,hc⟩=>(by rw[hcs1]at hc; cases hc),fun hc=>(by cases hc)⟩
 have k2:=h2
 have lt2:∀x∈p2,x.block<W.heap.size:=by obtain⟨m,hm⟩:=k2; exact DataW.trod_lt m _ _ _ hm
 obtain⟨fuel2,hfu2⟩:=h2
 obtain⟨x2,e2,_,w2⟩:=ec H enc W _ _ fuel2 _ _ hfu2
 obtain⟨ad2,ln2,cp2,hcs2⟩:=okWide_slice Tryd.underlying22 (hval 2 22 v2 rfl rfl)
 have rel2:RelV (fun _=>none) W (fun _=>False) (.d (encB x2)) v2:=e2.relV ⟨fun⟨c,hc⟩=>(by rw[hcs2]at hc; cases hc),fun hc=>(by cases hc)⟩
 clear hA0 hval0
 refine (nL (pc x0 x1 x2) (W:=W) (args := #[v0,v1,v2]) ⟨v0,[v1,v2],rfl,⟨rel0,trivial⟩,⟨v1,[v2],rfl,⟨rel1,trivial⟩,⟨v2,[],rfl,⟨rel2,trivial⟩,rfl⟩⟩⟩ hglob).mono fun e W' ⟨he,bel⟩=>?_
 subst he
 exact⟨_,rfl,_,_,_,[],_,[],hW',trodAll_mk1 (shut_bool Tryd.underlying4 _),(trodAll_cons_mk (Below.trod gE (by kernel_rfl) (of_decide_eq_true (by kernel_rfl)) k0 bel lt0) (trodAll_cons_mk (Below.trod gE (by kernel_rfl) (of_decide_eq_true (by kernel_rfl)) k1 bel lt1) (trodAll_cons_mk (Below.trod gE (by kernel_rfl) (of_decide_eq_true (by kernel_rfl)) k2 bel lt2) trodAll_mk0))),rfl,bel.frame _,fun h=>by cases h⟩
theorem lM:(Rows.topTagsRow.inPlace==Tryd.prog.inPlace 3)=true:=by kernel_rfl
theorem lL:(Rows.topTagsRow.unfollowed==Tryd.prog.unfollowed 3)=true:=by kernel_rfl
theorem lK:(Rows.topTagsRow.recurses==Tryd.prog.recurses 3)=true:=by kernel_rfl
theorem lJ:(Rows.topTagsRow.named==Tryd.prog.varsNamed 3)=true:=by kernel_rfl
theorem lN:Rows.topTagsRow.wf (OpenSpec.ofChange Rows.topTagsSpec)=true:=by kernel_rfl
theorem gP:joinedFacts Tryd.prog 3 Tryd.f3 Rows.topTagsSpec Rows.topTagsRow=true:=by
 unfold joinedFacts
 exact (and2 (and2 (and2 (and2 (and2 (and2 (and2 (and2 (and2 (and2 (and2 (and2 (and2 (and2 (and2 (and2 (and2 (and2 (and2 (and2 (and2 (and2 (and2 (and2 (and2 (and2 (and2 (and2 (and2 (and2 (and2 lN gE) qm) (by kernel_rfl)) (by kernel_rfl)) (by kernel_rfl)) (by kernel_rfl)) (by kernel_rfl)) (by kernel_rfl)) lM) lL) lK) lJ) (by kernel_rfl)) (by kernel_rfl)) (by kernel_rfl)) (by kernel_rfl)) (by kernel_rfl)) (by kernel_rfl)) (by kernel_rfl)) (by kernel_rfl)) (by kernel_rfl)) qo) (by kernel_rfl)) oV) oW) oU) qn) (by kernel_rfl)) (by kernel_rfl)) (by kernel_rfl)) (by kernel_rfl))
theorem kp:Rows.topTagsRow.holds Tryd.pinned (OpenSpec.ofChange Rows.topTagsSpec):=
 OpenClaim.holds_of_wide 3 Tryd.f3 rfl rfl rfl rfl rfl rfl rfl ⟨rfl,rfl,rfl,rfl,rfl⟩ rfl rfl rfl rfl rfl (by kernel_rfl) Tryd.func3 gP
  (of_decide_eq_true (by kernel_rfl)) (by unfold Func.isWrapper; first | (rw[if_pos (by decide+kernel)]; kernel_rfl) | (rw[if_neg (by decide+kernel)]; exact⟨rfl,rfl⟩))
  (fun os started H enc _=>gN os started H enc)
theorem topTags_holds:Rows.TopTagsCardSaid :=
 Claim7.holds_tied_plain_at .later [] [.data, .data] true (true, "1a04563922af885c5789e6a5cbe4dd01ef216a59e5f70b93ede6c3a037528e52") false
  kp (fun _ h=>by cases h) (by kernel_rfl) (fun _ h=>by cases h) topTags_row_tie rfl ⟨rfl,rfl⟩ (by kernel_rfl) rfl
  (fun f fn hf hfn=>by
   obtain rfl : f = 3 := Option.some.inj ((show Tryd.prog.funcNamed "caisson/caissontop.TopTags" = some 3 by kernel_rfl).symm.trans hf) |>.symm
   obtain rfl:fn=Tryd.f3:=(Option.some.inj (Tryd.func3.symm.trans hfn)).symm
   exact⟨by kernel_rfl,fun j t ht=>by
    rw[Tryd.params3]at ht
    have hm:t∈[22,22,22]:=by simpa using Array.mem_of_getElem? ht
    have hall:([22,22,22].all fun u => !Tryd.prog.wantsStandIn u)=true:=by kernel_rfl
    exact (show Tryd.prog.wantsStandIn t=false by simpa using List.all_eq_true.1 hall t hm)⟩)
  (by kernel_rfl)
end Go.Proofs.YtmapiehigkfddaaDoor
