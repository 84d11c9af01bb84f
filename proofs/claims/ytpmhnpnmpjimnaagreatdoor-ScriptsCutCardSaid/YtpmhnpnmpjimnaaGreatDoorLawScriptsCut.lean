/- what is cut off, or left out, of a script is what the definition says, in new memory, and is valid, for every script of the generator and any two numbers -/
import Derived.Test.YtpmhnpnmpjimnaaGreatDoorTie
import Derived.Test.YtpmhnpnmpjimnaaGreatDoorCards
import Derived.Test.YtpmhnpnmpjimnaaGreatDoorG03
import Derived.Test.YtpmhnpnmpjimnaaGreatDoorG07

set_option linter.unusedVariables false
set_option linter.unusedSimpArgs false
set_option linter.unusedSectionVars false
set_option maxRecDepth 10000

namespace Go.Proofs.YtpmhnpnmpjimnaaGreatDoor
open Go.ChangeShapes Go.WideShapes Go.ChangeAt Go.RowKit Go.Eng Go.Plain
set_option maxRecDepth 100000 in
theorem jt (os:Os) (started:os.Started) (H:Type) (enc:TypeId×Value→H) :
  ReturnsInHanded {} Tryz.checked os 3 .any (fun w args=>(Rows.scriptsCutSpec.pre enc Tryz.prog Tryz.f3 [] false w args∧laidMetH Tryz.prog Rows.scriptsCutRow.laid w)∧sizedMet enc Tryz.prog Tryz.f3 (OpenSpec.ofChange Rows.scriptsCutSpec) false w args)
   (Rows.scriptsCutSpec.post enc Tryz.prog Tryz.f3 false true false false):=by
 refine tJ (C:=Tryz.checked) (X:=fun w _=>laidMetH Tryz.prog Rows.scriptsCutRow.laid w) (fun _ _ _ hh h=>h.of_heap hh) own started (by kernel_rfl) Tryz.func3
  (ChangeSpec.witness_shaped (enc:=enc) (C:=Tryz.checked) (os:=os) (X:=fun w _=>laidMetH Tryz.prog Rows.scriptsCutRow.laid w) false (World.laidAll Tryz.prog os Rows.scriptsCutRow.laid) #[(.agg #[.int .u8 0,.int .u8 0,.int .u8 0,.int .u8 0,.int .u8 0,.int .u8 0,.int .u8 0,.slice none 0 0,.slice none 0 0]),(.int .i64 0),(.int .i64 0)] 8 (World.laidAll_os _ _ _)
   (World.shaped_of_ZipB (by kernel_rfl) (by kernel_rfl)) (by kernel_rfl) (by kernel_rfl) (by kernel_rfl)
   (by rw[MakeChecks.laidMetH_plain _ _ _ (by kernel_rfl)]; exact laidMet_laidAll _ (by kernel_rfl) (by kernel_rfl))) ?_
 intro W base args ds gs before hval0 hW hL hsh
 have hval:∀(j:Nat) t v,Tryz.f3.params[j]?=some t→args[j]?=some v→Value.okWide Tryz.prog W .any base t v:=hval0
 have hglob:=vR hL hsh
 have hW':=hW
 obtain⟨p,q,hA0,hV,rfl,hfz,hnd⟩:=hW
 have hA:DataW.TrodAll enc Tryz.prog W 0 (fun _=>true) true Tryz.f3.params.toList args.toList ds p:=hA0
 rw[Tryz.params3]at hA hval
 obtain⟨v0,vs0,d0,ds0,p0,q0,hargs,rfl,rfl,h0,r0⟩:=trodAll_cons hA
 obtain⟨v1,vs1,d1,ds1,p1,q1,rfl,rfl,rfl,h1,r1⟩:=trodAll_cons r0
 obtain⟨v2,vs2,d2,ds2,p2,q2,rfl,rfl,rfl,h2,r2⟩:=trodAll_cons r1
 obtain⟨rfl,rfl,rfl⟩:=trodAll_nil r2
 obtain rfl:args = #[v0,v1,v2]:=Array.ext' (by simpa using hargs)
 obtain⟨rfl,rfl⟩:=trodVars_none hV
 have k0:=h0
 have lt0:∀x∈p0,x.block<W.heap.size:=by obtain⟨m,hm⟩:=k0; exact DataW.trod_lt m _ _ _ hm
 obtain⟨fuel0,hfu0⟩:=h0
 obtain⟨x0,e0,_,w0⟩:=vb H enc W _ _ fuel0 _ _ hfu0
 obtain⟨cs0,hcs0,_⟩:=okWide_struct Tryz.underlying29 (hval 0 29 v0 rfl rfl)
 have rel0:RelV (fun _=>none) W (fun _=>False) (.d (ye x0)) v0:=e0.relV ⟨fun _=>rfl,fun _=>⟨cs0,hcs0⟩⟩
 have k1:=h1
 have lt1:∀x∈p1,x.block<W.heap.size:=by obtain⟨m,hm⟩:=k1; exact DataW.trod_lt m _ _ _ hm
 obtain⟨x1,e1,_,w1⟩:∃m:Int,Enc W (fun _=>False) (.sc (.int .i64 m)) v1.cells.toList∧v1.cells.toList.length=1∧(Lit.int .i64 m).wf=true:=by obtain⟨fuel,hfu⟩:=h1; exact cf (P:=Tryz.prog) Tryz.underlying3 H enc W _ _ fuel _ _ hfu
 obtain⟨m1,hcs1⟩:=okWide_int Tryz.underlying3 (hval 1 3 v1 rfl rfl)
 have rel1:RelV (fun _=>none) W (fun _=>False) (.d (.sc (.int .i64 x1))) v1:=e1.relV ⟨fun⟨c,hc⟩=>(by rw[hcs1]at hc; cases hc),fun hc=>(by cases hc)⟩
 have k2:=h2
 have lt2:∀x∈p2,x.block<W.heap.size:=by obtain⟨m,hm⟩:=k2; exact DataW.trod_lt m _ _ _ hm
 obtain⟨x2,e2,_,w2⟩:∃m:Int,Enc W (fun _=>False) (.sc (.int .i64 m)) v2.cells.toList∧v2.cells.toList.length=1∧(Lit.int .i64 m).wf=true:=by obtain⟨fuel,hfu⟩:=h2; exact cf (P:=Tryz.prog) Tryz.underlying3 H enc W _ _ fuel _ _ hfu
 obtain⟨m2,hcs2⟩:=okWide_int Tryz.underlying3 (hval 2 3 v2 rfl rfl)
 have rel2:RelV (fun _=>none) W (fun _=>False) (.d (.sc (.int .i64 x2))) v2:=e2.relV ⟨fun⟨c,hc⟩=>(by rw[hcs2]at hc; cases hc),fun hc=>(by cases hc)⟩
 clear hA0 hval0
 refine (tt (tu x0.1.1 x0.1.2 x0.2 x1 x2) (W:=W) (args := #[v0,v1,v2]) ⟨v0,[v1,v2],rfl,⟨rel0,trivial⟩,⟨v1,[v2],rfl,⟨rel1,trivial⟩,⟨v2,[],rfl,⟨rel2,trivial⟩,rfl⟩⟩⟩ hglob).mono fun e W' ⟨he,bel⟩=>?_
 subst he
 exact⟨_,rfl,_,_,_,[],_,[],hW',trodAll_mk1 (shut_bool Tryz.underlying4 _),(trodAll_cons_mk (Below.trod k9 (by kernel_rfl) (of_decide_eq_true (by kernel_rfl)) k0 bel lt0) (trodAll_cons_mk (Below.trod k9 (by kernel_rfl) (of_decide_eq_true (by kernel_rfl)) k1 bel lt1) (trodAll_cons_mk (Below.trod k9 (by kernel_rfl) (of_decide_eq_true (by kernel_rfl)) k2 bel lt2) trodAll_mk0))),rfl,bel.frame _,fun h=>by cases h⟩
theorem mK:(Rows.scriptsCutRow.inPlace==Tryz.prog.inPlace 3)=true:=by kernel_rfl
theorem mJ:(Rows.scriptsCutRow.unfollowed==Tryz.prog.unfollowed 3)=true:=by kernel_rfl
theorem mI:(Rows.scriptsCutRow.recurses==Tryz.prog.recurses 3)=true:=by kernel_rfl
theorem mH:(Rows.scriptsCutRow.named==Tryz.prog.varsNamed 3)=true:=by kernel_rfl
theorem mL:Rows.scriptsCutRow.wf (OpenSpec.ofChange Rows.scriptsCutSpec)=true:=by kernel_rfl
theorem ju:joinedFacts Tryz.prog 3 Tryz.f3 Rows.scriptsCutSpec Rows.scriptsCutRow=true:=by
 unfold joinedFacts
 exact (and2 (and2 (and2 (and2 (and2 (and2 (and2 (and2 (and2 (and2 (and2 (and2 (and2 (and2 (and2 (and2 (and2 (and2 (and2 (and2 (and2 (and2 (and2 (and2 (and2 (and2 (and2 (and2 (and2 (and2 (and2 mL k9) xf) (by kernel_rfl)) (by kernel_rfl)) (by kernel_rfl)) (by kernel_rfl)) (by kernel_rfl)) (by kernel_rfl)) mK) mJ) mI) mH) (by kernel_rfl)) (by kernel_rfl)) (by kernel_rfl)) (by kernel_rfl)) (by kernel_rfl)) (by kernel_rfl)) (by kernel_rfl)) (by kernel_rfl)) (by kernel_rfl)) xh) (by kernel_rfl)) uS) uT) uR) xg) (by kernel_rfl)) (by kernel_rfl)) (by kernel_rfl)) (by kernel_rfl))
theorem ly:Rows.scriptsCutRow.holds Tryz.pinned (OpenSpec.ofChange Rows.scriptsCutSpec):=
 OpenClaim.holds_of_wide 3 Tryz.f3 rfl rfl rfl rfl rfl rfl rfl ⟨rfl,rfl,rfl,rfl,rfl⟩ rfl rfl rfl rfl rfl (by kernel_rfl) Tryz.func3 ju
  (of_decide_eq_true (by kernel_rfl)) (by unfold Func.isWrapper; first | (rw[if_pos (by decide+kernel)]; kernel_rfl) | (rw[if_neg (by decide+kernel)]; exact⟨rfl,rfl⟩))
  (fun os started H enc _=>jt os started H enc)
theorem scriptsCut_holds:Rows.ScriptsCutCardSaid :=
 Claim7.holds_tied_plain_at .later [] [.data, .data, .data, .data, .sentinel, .sentinel, .pinned] true (true, "4bdab40bc436b1e199fb2a05ec7b0007044ad57168fb30f085674a98bc291327") true
  ly (fun _ h=>by cases h) (by kernel_rfl) (fun _ h=>by cases h) scriptsCut_row_tie rfl ⟨rfl,rfl⟩ (by kernel_rfl) rfl
  (fun f fn hf hfn=>by
   obtain rfl : f = 3 := Option.some.inj ((show Tryz.prog.funcNamed "caisson/caissonlaw34.ScriptsCut" = some 3 by kernel_rfl).symm.trans hf) |>.symm
   obtain rfl:fn=Tryz.f3:=(Option.some.inj (Tryz.func3.symm.trans hfn)).symm
   exact⟨by kernel_rfl,fun j t ht=>by
    rw[Tryz.params3]at ht
    have hm:t∈[29,3,3]:=by simpa using Array.mem_of_getElem? ht
    have hall:([29,3,3].all fun u => !Tryz.prog.wantsStandIn u)=true:=by kernel_rfl
    exact (show Tryz.prog.wantsStandIn t=false by simpa using List.all_eq_true.1 hall t hm)⟩)
  (by kernel_rfl)
end Go.Proofs.YtpmhnpnmpjimnaaGreatDoor
