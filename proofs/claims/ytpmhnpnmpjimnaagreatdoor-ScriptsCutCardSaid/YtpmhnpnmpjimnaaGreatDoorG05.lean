/- Texts of the proof: Z6a, Z6, Eng88, Eng87, Eng89, Z7, Z8a, Z8b, Z8, Z9, Z10, Z11, Z12, Z13, Eng93, Z14, Z15, PV0, Eng85, Z16, Z36, ZR, ZS, Z37, Z21, Z38, P45, P46, Z39. -/
import Derived.Test.YtpmhnpnmpjimnaaGreatDoorG03
import Derived.Lib.AppendIntMem
import Derived.Test.YtpmhnpnmpjimnaaGreatDoorG04
import Derived.Test.YtpmhnpnmpjimnaaGreatDoorG02
import Derived.Maps.RangeRun
import Derived.Lib.ConvBytes
import Derived.Lib.ParseIntBMem
import Derived.Lib.Hide
import Derived.Laws.Strings3
import Derived.Laws.Closers25
import Derived.Laws.Closers25b
import Derived.BigCall
import Derived.BigGuard

set_option linter.unusedVariables false
set_option linter.unusedSimpArgs false
set_option linter.unusedSectionVars false
set_option maxRecDepth 10000

namespace Go.Proofs.YtpmhnpnmpjimnaaGreatDoor
open Go.Eng Go.Plain Go.RowKit Go.Sort Go.Shelf
set_option maxHeartbeats 32000000
set_option maxRecDepth 20000
set_option maxRecDepth 100000
theorem vS (u : Nat) (hu64 : u < 18446744073709551616) (w : World) (htab : Lib.TabIs Tryz.prog w "internal/strconv.uint64pow10" .u64 Lib.pow10Tab) :
  Calls Tryz.prog 63 #[.int .u64 u,.int .i64 10] w fun e w'=>e=.returned (.string ⟨(Lib.decDigits u).toArray⟩)∧∃k os,w'=grow (w.drewN k) os:=by
 by_cases hs:u<100
 ·have hw:IntKind.i64.wrap (u:Int)=(u:Int):=aI (by omega) (by omega)
  go_enter Tryz.func63,Tryz.ntmps63
  go_wp2_with (refine (Tryz.internal_strconv_small u hs _).mono ?_; rintro e w' ⟨rfl,rfl⟩)
  go_ret
  exact⟨rfl,0, #[],by simp[World.drewN_zero]⟩
 ·have hu1:1≤u:=by omega
  have hnd20:Lib.nDigits u≤20:=by have:=Lib.numDigits_eq u hu1 hu64; split at this <;> omega
  have hH0:=Lib.holds_zero0 w 150 (Lib.nDigits u) (by omega)
  have hfmt:=Tryz.internal_strconv_formatBase10 w.heap.size 0 24 u (Array.replicate (Lib.nDigits u) 0) (w.alloc (.cells Lib.zeros24 150)) hH0 (by rw[Array.size_replicate]; exact Lib.lt_pow_nDigits u) hu64 (by rw[Array.size_replicate]; omega)
  rw[Array.size_replicate]at hfmt
  have HH0:=Lib.hid hH0
  clear hH0
  have hal:Tryz.prog.arrayLen 150=24:=by simp[Program.arrayLen,Tryz.underlying150]
  have hsl:∀W,(Instr.sliceAt 150 (.pointer (some ⟨w.heap.size,0,none⟩)) none (some (.int .i64 (Lib.nDigits u:Int))) none).run Tryz.prog W=.ok (.slice (some ⟨w.heap.size,0,none⟩) (Lib.nDigits u) 24) W:=fun W=>by
   rw[run_sliceAt_array_h W 150 ⟨w.heap.size,0,none⟩ (by simp[Program.arrayLen,Program.elem,Tryz.underlying150]) .i64 (Lib.nDigits u:Int) (by omega) (by rw[hal]; omega)]
   go_simp
  clear hal
  go_enter Tryz.func63,Tryz.ntmps63
  go_wp2_with (refine (Tryz.internal_strconv_numDigits u hu1 hu64 _ (Lib.tabIs_alloc htab _)).mono ?_; rintro e w' ⟨rfl,rfl⟩)
  refine hfmt.mono ?_
  rintro e w' ⟨rfl,k,v',dk,rfl,hF⟩
  have hcv:(convert 46 9 (.slice (some ⟨w.heap.size,0,none⟩) (Lib.nDigits u) 24)).run Tryz.prog ((putRow (fun (b:UInt8)=>Value.int .u8 (b.toNat:Int)) (w.alloc (.cells Lib.zeros24 150)) w.heap.size 0 dk).drewN k)=.ok (.string ⟨(Lib.decDigits u).toArray⟩) ((putRow (fun (b:UInt8)=>Value.int .u8 (b.toNat:Int)) (w.alloc (.cells Lib.zeros24 150)) w.heap.size 0 dk).drewN k):=by
   have h:=run_convert_bytes_back (P:=Tryz.prog) ((putRow (fun (b:UInt8)=>Value.int .u8 (b.toNat:Int)) (w.alloc (.cells Lib.zeros24 150)) w.heap.size 0 dk).drewN k) 46 9 5 ⟨w.heap.size,0,none⟩ 24 (Lib.decDigits u) Tryz.underlying46 Tryz.underlying5 Tryz.underlying9 (fun j hj=>by
    rw[Lib.row_is_numeral hF j hj,Lib.add_plain,World.cell?_drewN]
    exact cell?_putRow (fun (b:UInt8)=>Value.int .u8 (b.toNat:Int)) _ w.heap.size 0 _ dk HH0.out (by rw[hF.size,Array.size_replicate]) j (by rw[hF.size]; rw[Lib.decDigits_length]at hj; exact hj))
   rw[Lib.decDigits_length]at h
   exact h
  go_wp2
  go_ret
  obtain⟨os,eo⟩:=Lib.fin_at w (.cells Lib.zeros24 150) dk k 0
  exact⟨rfl,k,os,eo⟩
end Go.Proofs.YtpmhnpnmpjimnaaGreatDoor
namespace Go.Proofs.YtpmhnpnmpjimnaaGreatDoor
open Go.Eng Go.Plain
set_option maxHeartbeats 32000000
set_option maxRecDepth 20000
attribute [local irreducible] WC RegS RegD SeqQ BlkQ ScoQ RegK CutK Sat SatN FnIs LoopQ aq OpIs
theorem Bv (u:Nat) (hu:u<18446744073709551616):FnIs Tryz.prog 63 [.int .u64 u,.int .i64 10] [] (.d (strD (Lib.decDigits u))) []:=
 .of_calls1 rfl ⟨_,Tryz.func63,by kernel_rfl,by kernel_rfl⟩ fun σ w X vs ha hg=>by
  rw[ha.two]
  refine (vS u hu w (pw hg)).mono ?_
  rintro e w' ⟨rfl,k,os,rfl⟩
  exact⟨rfl,mx _ _ _⟩
theorem yb (u:Nat) (hu:u<18446744073709551616):FnIs Tryz.prog 42 [.int .u64 u,.int .i64 10] [] (.d (strD (Lib.decDigits u))) []:=by
 refine aw aa Tryz.func42 rfl rfl rfl ?_;refine sR<|rC<|nR ?_;refine zD ?_;refine rQ (ak (Bv u hu) rfl rfl (aj (aj ae)) (.inl rfl) (fun _=>rfl)) ?_;refine rC<|zT ?_
 exact⟨trivial,[],lf⟩
theorem vT {n:Int} (h:InU n):FnIs Tryz.prog 42 [.int .u64 n,.int .i64 10] [] (.d (strD (Lib.itoa n))) []:=by
 have:=yb n.toNat (by have:=h.2; omega)
 rw[ul h.1,←po h.1]at this
 exact this
theorem nf {n:Int} (h:InU n):(Lib.itoa n).length≤20:=by
 rw[po h.1]
 exact iI 19 _ (by have:=h.2; have:=h.1; omega)
theorem sS {l:List (List POp)} (hok:OkL l) (hc:chkP l=0):(bJ l).length≤100000:=by
 obtain⟨h1,h2⟩:=ep.1 hc
 have hb:∀p∈l,p.length≤64∧∀o∈p,o.Ok∧o.data.length≤64:=fun p hp=>by
  have:=h2 p hp
  simp only[badP,Bool.or_eq_false_iff,decide_eq_false_iff_not,List.any_eq_false,decide_eq_true_eq]at this
  exact⟨by omega,fun o ho=>⟨hok p hp o ho,by have:=this.2 o ho; omega⟩⟩
 have:=lq (D:=64) (N:=64) l hb
 have h3:(7+(51+2*64)*64)*l.length≤(7+(51+2*64)*64)*8:=Nat.mul_le_mul_left _ h1
 omega
theorem ow (b:Bool) (l:List UInt8) (n:Nat):FnIs Tryz.prog 45 [.ptr 0 []] [(0,cw b 0 1 n),(1,rowT l)] (.int .i64 n) [(0,cw b 0 1 n),(1,rowT l)]:=by
 cases b with
 | true =>
  refine aw aa Tryz.func45 rfl rfl rfl ?_;refine sR<|rC<|nR ?_;refine zU ?_;refine rQ iM ?_;refine rQ (bq aa rfl rfl) ?_;refine rC<|zT ?_
  exact⟨trivial,[],lg zV ⟨zR,zR,trivial⟩⟩
 | false =>
  refine aw aa Tryz.func45 rfl rfl rfl ?_;refine sR<|rC<|nR ?_;refine zU ?_;refine rQ iM ?_;refine rQ (bq aa rfl rfl) ?_;refine rC<|zT ?_
  exact⟨trivial,[],lg zV ⟨zR,zR,trivial⟩⟩
theorem kK (l s:List UInt8) (n:Nat) (hn:l.length=n) (hs0:0<s.length) (hlen:n+s.length≤4194304):FnIs Tryz.prog 41 [.ptr 0 [],.d (strD s)] [(0,cw true 0 1 n),(1,rowT l)] (.tup (.acons (.int .i64 s.length) (.acons (.d (.sc .nilIface)) .anil))) [(0,cw false 0 64 (n+s.length)),(64,rowT (l++s))]:=by
 have hbl:n=(byI l).length:=by rw[ch]; exact hn.symm
 have hcc:=ff l n
 have hlen2:(byI l).length+s.length≤4194304:=by rw[←hbl]; exact hlen
 refine aw aa Tryz.func41 rfl rfl rfl ?_;refine sR<|zD<|nR ?_;refine rC ?_;refine bz rfl (aO [(0,some 0),(1,some 1)] hcc rfl rfl rfl (aK rfl rfl ae) ⟨zH,zH,trivial⟩ rfl rfl (.inl rfl) rfl rfl) rfl rfl<|nR ?_;iterate 4 refine rC ?_
 refine rQ iM ?_;refine rC ?_;refine aJ (kI (l:=s) aa rfl Tryz.underlying9 rfl rfl rfl hbl rfl rfl hs0 hlen2 rfl) rfl ?_;refine zD ?_;refine aW (aF aa rfl rfl rfl ⟨_,⟨_,⟨rfl,rfl,rfl⟩,rfl⟩,rfl⟩ rfl)<|nR ?_;refine rC ?_;refine rQ (dB aa rfl rfl) ?_;refine zD<|zT ?_
 rw[iK l s]
 exact⟨trivial,[(64,some 144)],lg zV ⟨⟨rfl,rfl,_,rfl,aE.of_eq (by rw[hbl]; rfl)⟩,zR,trivial⟩⟩
theorem lh (l s:List UInt8) (n:Nat) (hn:l.length=n) (hs0:0<s.length) (hlen:n+s.length≤4194304):FnIs Tryz.prog 41 [.ptr 0 [],.d (strD s)] [(0,cw false 0 1 n),(1,rowT l)] (.tup (.acons (.int .i64 s.length) (.acons (.d (.sc .nilIface)) .anil))) [(0,cw false 0 64 (n+s.length)),(64,rowT (l++s))]:=by
 have hbl:n=(byI l).length:=by rw[ch]; exact hn.symm
 have hcc:=fA l n
 have hlen2:(byI l).length+s.length≤4194304:=by rw[←hbl]; exact hlen
 refine aw aa Tryz.func41 rfl rfl rfl ?_;refine sR<|zD<|nR ?_;refine rC ?_;refine bz rfl (aO [(0,some 0),(1,some 1)] hcc rfl rfl rfl (aK rfl rfl ae) ⟨zH,zH,trivial⟩ rfl rfl (.inl rfl) rfl rfl) rfl rfl<|nR ?_;iterate 4 refine rC ?_
 refine rQ iM ?_;refine rC ?_;refine aJ (kI (l:=s) aa rfl Tryz.underlying9 rfl rfl rfl hbl rfl rfl hs0 hlen2 rfl) rfl ?_;refine zD ?_;refine aW (aF aa rfl rfl rfl ⟨_,⟨_,⟨rfl,rfl,rfl⟩,rfl⟩,rfl⟩ rfl)<|nR ?_;refine rC ?_;refine rQ (dB aa rfl rfl) ?_;refine zD<|zT ?_
 rw[iK l s]
 exact⟨trivial,[(64,some 144)],lg zV ⟨⟨rfl,rfl,_,rfl,aE.of_eq (by rw[hbl]; rfl)⟩,zR,trivial⟩⟩
theorem eg (b:Bool) (l s:List UInt8) (n:Nat) (hn:l.length=n) (hs0:0<s.length) (hlen:n+s.length≤4194304):FnIs Tryz.prog 41 [.ptr 0 [],.d (strD s)] [(0,cw b 0 1 n),(1,rowT l)] (.tup (.acons (.int .i64 s.length) (.acons (.d (.sc .nilIface)) .anil))) [(0,cw false 0 64 (n+s.length)),(64,rowT (l++s))]:=by
 cases b with
 | true=>exact kK l s n hn hs0 hlen
 | false=>exact lh l s n hn hs0 hlen
end Go.Proofs.YtpmhnpnmpjimnaaGreatDoor
namespace Go.Eng
open Go.RowKit
open Go.ChangeMaps (setBlock)
section
variable {P : Program} {T : Tab} {env : Env} {h : Upds} {n : Nat}
variable {sz : Nat} {all rest : List Oper} {K : Env → Upds → Nat → Prop}
end
end Go.Eng
namespace Go.Eng
open Go.RowKit
section
variable {P : Program} {T : Tab} {env : Env} {h : Upds} {n : Nat}
end
end Go.Eng
namespace Go.Eng
open Go.RowKit
set_option linter.unusedSimpArgs false
section
variable {P : Program} {T : Tab} {env : Env} {h : Upds} {n : Nat}
theorem qm {t:Nat} {w:World} {ms} (hud:P.underlying t=some (.interface ms)):(binOp .neq t .nilIface .nilIface).run P w=.ok (.bool false) w:=by
 have h1:(Op.equalIn 10000 t .nilIface .nilIface).run P w=.ok true w:=by
  rw[show (10000:Nat)=9999+1 from rfl,Op.equalIn]
  simp only[Sem.run_bind,run_underlying hud,Result.andThen_ok,Sem.run_pure]
 show (do let b ←Op.equalIn 10000 t _ _; pure (Value.bool !b):Sem Value).run P w=_
 simp only[Sem.run_bind,h1,Result.andThen_ok,Sem.run_pure,Bool.not_true]
theorem qn {t t1:Nat} {w:World} {ms} {v:Value} (hud:P.underlying t=some (.interface ms)):(binOp .neq t (.iface t1 v) .nilIface).run P w=.ok (.bool true) w:=by
 have h1:(Op.equalIn 10000 t (.iface t1 v) .nilIface).run P w=.ok false w:=by
  rw[show (10000:Nat)=9999+1 from rfl,Op.equalIn]
  simp only[Sem.run_bind,run_underlying hud,Result.andThen_ok,Sem.run_pure]
 show (do let b ←Op.equalIn 10000 t _ _; pure (Value.bool !b):Sem Value).run P w=_
 simp only[Sem.run_bind,h1,Result.andThen_ok,Sem.run_pure,Bool.not_false]
theorem pd {t t':Nat} {x:Operand} {ms} (hu:P.underlying t=some (.interface ms)) (hx:au env x=some (.d (.sc .nilIface))) :
  aq P (.binOp .neq t x (.const .nilIface) t') env h n (some (.bool false)) []:=.of_comes fun C G st σ w ac o ho hA hdst hst hn=>by
 obtain⟨hv,_⟩:=RelV.sc.1 (am hst (hA.ev hx)).1
 refine .quiet (u :=.bool false) hst hdst ⟨rfl,rfl⟩ ?_ (RelV.sc.2 ⟨rfl,rfl⟩) trivial
 have hg:(eqGuard .neq t x (.const .nilIface) .nilIface .nilIface).run P w=.ok () w:=by
  simp[eqGuard]
  try (cases x <;> rfl)
 have hc:ac.eval (.const .nilIface)=.nilIface:=rfl
 simp only[execOp,ho,hv,hc,Sem.run_bind,hg,Result.andThen_ok,qm hu,Sem.run_pure]
theorem yD {t t':Nat} {x:Operand} {ms} (hu:P.underlying t=some (.interface ms)) (hx:au env x=some .er) :
  aq P (.binOp .neq t x (.const .nilIface) t') env h n (some (.bool true)) []:=.of_comes fun C G st σ w ac o ho hA hdst hst hn=>by
 obtain⟨t1,v,hv⟩:=RelV.er.1 (am hst (hA.ev hx)).1
 refine .quiet (u :=.bool true) hst hdst ⟨rfl,rfl⟩ ?_ (RelV.sc.2 ⟨rfl,rfl⟩) trivial
 have hg:(eqGuard .neq t x (.const .nilIface) (.iface t1 v) .nilIface).run P w=.ok () w:=rfl
 have hc:ac.eval (.const .nilIface)=.nilIface:=rfl
 simp only[execOp,ho,hv,hc,Sem.run_bind,hg,Result.andThen_ok,qn hu,Sem.run_pure]
theorem sZ (hT:an P T) {t e L s:Nat} {re:TyR} {x:Operand} {α:Type} {enc:α→D} {xs:List α} (ht:aT T t=some (.array L e)) (he:lk T e=some re) (hx:au env x=some (.iptr (.vec L s enc xs))) (hL:Nat.ble L 1048576=true) (hs0:Nat.blt 0 s=true) :
  aq P (.slice t x none none none) env h n (some (.d (.arr s enc xs))) []:=.of_comes fun C G st σ w a o ho hA hdst hst hn=>by
 obtain⟨ud,hud,hdd⟩:=aM hT ht
 cases hdd
 have hL:=Nat.le_of_ble_eq_true hL
 have hs0:=Nat.le_of_ble_eq_true hs0
 have hsz:=(hT e re he).run_size (P:=P)
 obtain⟨ad,cs,hv,⟨hl,f,hf,hcs⟩,hc⟩:=RelV.iptr.1 (am hst (hA.ev hx)).1
 have hmax:(1048576:Nat)≤maxLen:=by decide
 refine .quiet (u :=.slice (some ad) L L) hst hdst ⟨rfl,rfl⟩ ?_ (RelV.arr.2 (.inr ⟨ad,L,by rw[hl],by omega,by omega,f,fun i hi=>⟨(hf i hi).1,(hf i hi).2,fun j u hj=>?_⟩⟩)) trivial
 ·simp[execOp,ho,Instr.sliceAt,hv,Instr.sureAddr,run_underlying hud,Instr.sliceBounds,Instr.sliceBound,asIntOf,hsz,Sem.run_bind,Sem.run_pure,Result.andThen_ok,Addr.add_zero']
 ·have hjs:j<s:=by rw[←(hf i hi).2]; exact (List.getElem?_eq_some_iff.1 hj).1
  have:=cY xs.length (fun i hi=>(hf i hi).2) i j hi hjs
  rw[hj]at this
  refine hc _ _ ?_
  rw[hcs,←hl]
  exact this
end
end Go.Eng
namespace Go.Proofs.YtpmhnpnmpjimnaaGreatDoor
open Go.Eng Go.Plain
set_option maxHeartbeats 32000000
set_option maxRecDepth 20000
attribute [local irreducible] WC RegS RegD SeqQ BlkQ ScoQ RegK CutK Sat SatN FnIs LoopQ aq OpIs
def dc (c:SCfg) (l:List (List POp)) (bs:List SAct) (i:Nat):List UInt8:=iR c (bJ l) (bs.take i)
theorem nH (a b:List SAct):mE (a++b)=mE a++mE b:=by simp[mE]
theorem uW {c:SCfg} {l:List (List POp)} {bs:List SAct} {i:Nat} {a:SAct} (h:bs[i]?=some a):dc c l bs i++(cJ a++[10])=dc c l bs (i+1):=by
 rw[dc,dc,iR,iR,List.take_add_one,h,Option.toList_some,nH]
 simp[mE]
theorem mZ (c:SCfg) (l:List (List POp)) (bs:List SAct):dc c l bs bs.length=iR c (bJ l) bs:=by rw[dc,List.take_length]
theorem uV (c:SCfg) (l:List (List POp)) (bs:List SAct) (i:Nat):(dc c l bs i).length≤(iR c (bJ l) bs).length:=by
 have:=congrArg List.length (nH (bs.take i) (bs.drop i))
 rw[List.take_append_drop,List.length_append]at this
 simp only[dc,iR,List.length_append]
 omega
theorem tm {a:SAct} (h:a.Ok):(cJ a).length≤60+2*a.bytes.length:=by
 obtain⟨_,⟨t0,t1⟩,⟨s0,s1⟩,⟨b0,b1⟩⟩:=h
 have l1:=bf t0 t1
 have l2:=bf s0 s1
 have l3:=bf b0 b1
 have l4:=cT a.bytes
 unfold cJ
 split
 ·simp[eU]; omega
 split
 ·simp[dW]; omega
 split
 ·simp[dG]; omega
 split
 ·simp[cr]; omega
 ·simp[fh]; omega
theorem pZ {thr sec:Int} {a:SAct} (h:actB thr sec a=true):a.bytes.length≤256:=by
 unfold actB at h
 split at h
 ·simp only[Bool.and_eq_true,decide_eq_true_eq]at h
  rw[h.2.2]; simp
 split at h
 ·simp only[Bool.and_eq_true,decide_eq_true_eq]at h
  exact h.1.1.1
 split at h
 ·simp only[Bool.and_eq_true,decide_eq_true_eq]at h
  rw[h.2.2]; simp
 split at h
 ·simp only[Bool.and_eq_true,decide_eq_true_eq]at h
  rw[h.2.2]; simp
 split at h
 ·simp only[Bool.and_eq_true,decide_eq_true_eq]at h
  rw[h.2]; simp
 ·cases h
theorem sW (c:SCfg) (l:List (List POp)) (bs:List SAct) (hc:c.Ok) (hl:Bd l) (hb:bs.length≤1000000000) (h0:schk c l bs≠0):FnIs Tryz.prog 21 [.d (bB c l bs)] [] (.tup (.acons (.d (strD [])) (.acons (.d (i6 (schk c l bs))) .anil))) []:=by
 have hchk:=dK c l bs hc hl hb
 have hn:(!decide (schk c l bs=0))=true:=by rw[dF h0]; rfl
 refine aw aa Tryz.func21 rfl rfl rfl ?_;refine sR<|rN ?_;refine zD<|zW ?_;refine rQ iM ?_;refine rQ (ak hchk rfl rfl (aj ae) (.inl rfl) (fun _=>rfl)) ?_;refine rC<|nR ?_;refine zD ?_;refine zI<|sR ?_;refine zU<|zT<|ba ?_
 exact⟨trivial,[],lf⟩
theorem ut (c:SCfg) (l:List (List POp)) (bs:List SAct) (hc:c.Ok) (hl:Bd l) (hok:OkL l) (hb:bs.length≤1000000000) (hbo:∀a∈bs,a.Ok) (h0:schk c l bs=0):FnIs Tryz.prog 21 [.d (bB c l bs)] [] (.tup (.acons (.d (strD (fp c l bs).1)) (.acons (.d (i6 (fp c l bs).2)) .anil))) []:=by
 have hchk:=dK c l bs hc hl hb
 rw[h0]at hchk
 obtain⟨hw0,hp0,_,hb4,hall⟩:=jv h0
 have htx:=rE l hl hok
 rw[hp0,if_pos rfl]at htx
 obtain⟨htm,_⟩:=oJ hok hp0
 obtain⟨⟨a1,a2⟩,⟨a3,a4⟩,⟨a5,a6⟩,⟨a7,a8⟩,hlim,hres,hm,⟨fl0,fl1⟩⟩:=hc
 have f0 : -9223372036854775808≤c.flaw:=by omega
 have f1:c.flaw≤9223372036854775807:=by omega
 have hwf:IntKind.i64.wrap c.flaw=c.flaw:=aI f0 f1
 have hm32:c.master.length≤524280:=by omega
 have k1:=bf a1 a2
 have k2:=bf a3 a4
 have k3:=bf a5 a6
 have k4:=bf a7 a8
 have k5:=nf hlim
 have k6:=nf hres
 have k7:=bf f0 f1
 have k8:=cT c.master
 obtain⟨q0,hq0⟩:∃q,bw++[32]++Lib.itoa c.blocks++[32]++Lib.itoa c.shards++[32]++Lib.itoa c.frames++[32]++Lib.itoa c.clients++[10]=q:=⟨_,rfl⟩
 obtain⟨q1,hq1⟩:∃q,bI++[32]++Lib.itoa c.limit++[32]++Lib.itoa c.reserve++[10]=q:=⟨_,rfl⟩
 obtain⟨q2,hq2⟩:∃q,cB++[32]++Lib.itoa c.flaw++([10]++bD++[32])++hexP c.master++([10]++bj++[10])++bJ l++(bF++[10])=q:=⟨_,rfl⟩
 have n0:q0.length≤200∧0<q0.length:=by rw[←hq0]; simp[bw]; omega
 have n1:q1.length≤200∧0<q1.length:=by rw[←hq1]; simp[bI]; omega
 have htb:(bJ l).length≤100000:=sS hok hp0
 have n2:q2.length≤101000∧0<q2.length:=by rw[←hq2]; simp[cB,bD,bj,bF]; omega
 have hall0:[]++q0++q1++q2=dc c l bs 0:=by
  rw[←hq0,←hq1,←hq2]
  simp[dc,iR,cm,l8,sf,se,sd,vQ,mE]
 have hn0:(dc c l bs 0).length=([]:List UInt8).length+q0.length+q1.length+q2.length:=by rw[←hall0]; simp only[List.length_append]
 have p0:=n0.2
 have p1:=n1.2
 have p2:=n2.2
 have l0:([]:List UInt8).length+q0.length≤4194304:=by simp; omega
 have l1:([]:List UInt8).length+q0.length+q1.length≤4194304:=by simp; omega
 have l2:([]:List UInt8).length+q0.length+q1.length+q2.length≤4194304:=by simp; omega
 refine aw aa Tryz.func21 rfl rfl rfl ?_;refine sR<|rN ?_;refine zD<|zW ?_;refine rQ iM ?_;refine rQ (ak hchk rfl rfl (aj ae) (.inl rfl) (fun _=>rfl)) ?_;refine rC<|nR ?_;refine zD ?_;refine zJ<|kS<|sR ?_;refine rC ?_;refine rQ iB ?_;refine rQ (ak htx rfl rfl (aj ae) (.inl rfl) (fun _=>rfl)) ?_;iterate 5 refine rC ?_
 refine zW<|zD ?_;refine zJ<|kS<|sR ?_;refine rC ?_;refine rQ iB ?_;refine rN ?_;refine rW ?_;refine rC<|nR ?_;refine rN<|nS ?_;refine eC (env':=[(9,_),(8,_),(7,_),(5,_),(1,_)]) (h':=[(248,some _),(64,some _)]) 224 _ rfl ⟨zE,zE,⟨_,rfl,Frz.ptr⟩,zE,zE,trivial⟩ ⟨⟨rfl,_,rfl,.refl _⟩,⟨rfl,_,rfl,.refl _⟩,trivial⟩ ?_;refine lm (env':=[(9,.ptr 66 []),(8,fnA 40),(7,.d (.pt (bt c))),(5,.d (strD (bJ l))),(1,.ptr 64 [])]) (h':=[(66,some (cw true 66 67 0)),(67,some (rowT [])),(64,some (.box 38 (.d (bB c l bs))))]) 72 [(66,some 248),(67,none)] (lg zh ⟨⟨rfl,rfl,_,rfl,aE.split2⟩,⟨rfl,rfl,rfl⟩,zR,trivial⟩)<|b9 ?_;refine aH (by kernel_rfl) ?_;refine dC [8] [] ?_;refine dQ [7] [] (cU aa rfl rfl rfl rfl) ?_;refine dQ [29] [] iL ?_;refine dQ [28,30] [] (ak (cu a1 a2) rfl rfl (aj ae) (.inl rfl) (fun _=>rfl)) ?_;refine dQ [31] [] (aR (a:=bw++[32]) (b:=Lib.itoa c.blocks) rfl rfl (by simp[bw,bI,cB,bD,bj,bF]; omega) rfl) ?_;refine dQ [32] [] (aR (a:=bw++[32]++Lib.itoa c.blocks) (b:=[32]) rfl rfl (by simp[bw,bI,cB,bD,bj,bF]; omega) rfl) ?_;refine dC [8] [] ?_;refine dQ [7] [] (cU aa rfl rfl rfl rfl) ?_;refine dQ [35] [] iL ?_;refine dQ [34,36] [] (ak (cu a3 a4) rfl rfl (aj ae) (.inl rfl) (fun _=>rfl)) ?_;refine dQ [33,37] [] (aR (a:=bw++[32]++Lib.itoa c.blocks++[32]) (b:=Lib.itoa c.shards) rfl rfl (by simp[bw,bI,cB,bD,bj,bF]; omega) rfl) ?_;refine dQ [38] [] (aR (a:=bw++[32]++Lib.itoa c.blocks++[32]++Lib.itoa c.shards) (b:=[32]) rfl rfl (by simp[bw,bI,cB,bD,bj,bF]; omega) rfl) ?_;refine dC [8] [] ?_;refine dQ [7] [] (cU aa rfl rfl rfl rfl) ?_;refine dQ [41] [] iL ?_;refine dQ [40,42] [] (ak (cu a5 a6) rfl rfl (aj ae) (.inl rfl) (fun _=>rfl)) ?_;refine dQ [39,43] [] (aR (a:=bw++[32]++Lib.itoa c.blocks++[32]++Lib.itoa c.shards++[32]) (b:=Lib.itoa c.frames) rfl rfl (by simp[bw,bI,cB,bD,bj,bF]; omega) rfl) ?_;refine dQ [44] [] (aR (a:=bw++[32]++Lib.itoa c.blocks++[32]++Lib.itoa c.shards++[32]++Lib.itoa c.frames) (b:=[32]) rfl rfl (by simp[bw,bI,cB,bD,bj,bF]; omega) rfl) ?_;refine dC [8] [] ?_;refine dQ [7] [] (cU aa rfl rfl rfl rfl) ?_;refine dQ [47] [] iL ?_;refine dQ [46,48] [] (ak (cu a7 a8) rfl rfl (aj ae) (.inl rfl) (fun _=>rfl)) ?_;refine dQ [45,49] [] (aR (a:=bw++[32]++Lib.itoa c.blocks++[32]++Lib.itoa c.shards++[32]++Lib.itoa c.frames++[32]) (b:=Lib.itoa c.clients) rfl rfl (by simp[bw,bI,cB,bD,bj,bF]; omega) rfl) ?_;refine dQ [50] [] (aR (a:=bw++[32]++Lib.itoa c.blocks++[32]++Lib.itoa c.shards++[32]++Lib.itoa c.frames++[32]++Lib.itoa c.clients) (b:=[10]) rfl rfl (by simp[bw,bI,cB,bD,bj,bF]; omega) hq0) ?_;refine kg rfl (aO [(0,some _),(1,some _)] (eg true [] q0 _ rfl p0 l0) rfl rfl rfl (aK rfl rfl (aj ae)) ⟨zH,zH,trivial⟩ rfl rfl (.inl rfl) rfl rfl) rfl rfl ?_;refine aC (by kernel_rfl)<|aU<|b9 ?_;refine aH (by kernel_rfl) ?_;refine dQ [7] [] (cU aa rfl rfl rfl rfl) ?_;refine dQ [53] [] iL ?_;refine dQ [54] [] (ak (vT hlim) rfl rfl (aj (aj ae)) (.inl rfl) (fun _=>rfl)) ?_;refine dQ [55] [] (aR (a:=bI++[32]) (b:=Lib.itoa c.limit) rfl rfl (by simp[bw,bI,cB,bD,bj,bF]; omega) rfl) ?_;refine dQ [56] [] (aR (a:=bI++[32]++Lib.itoa c.limit) (b:=[32]) rfl rfl (by simp[bw,bI,cB,bD,bj,bF]; omega) rfl) ?_;refine dQ [7] [] (cU aa rfl rfl rfl rfl) ?_;refine dQ [58] [] iL ?_;refine dQ [59] [] (ak (vT hres) rfl rfl (aj (aj ae)) (.inl rfl) (fun _=>rfl)) ?_;refine dQ [57,60] [] (aR (a:=bI++[32]++Lib.itoa c.limit++[32]) (b:=Lib.itoa c.reserve) rfl rfl (by simp[bw,bI,cB,bD,bj,bF]; omega) rfl) ?_;refine dQ [61] [] (aR (a:=bI++[32]++Lib.itoa c.limit++[32]++Lib.itoa c.reserve) (b:=[10]) rfl rfl (by simp[bw,bI,cB,bD,bj,bF]; omega) hq1) ?_;refine kg rfl (aO [(0,some _),(1,some _)] (eg false ([]++q0) q1 (([]:List UInt8).length+q0.length) (by simp) p1 l1) rfl rfl rfl (aK rfl rfl (aj ae)) ⟨zH,zH,trivial⟩ rfl rfl (.inl rfl) rfl rfl) rfl rfl ?_;refine aC (by kernel_rfl)<|aU<|b9 ?_;refine aH (by kernel_rfl) ?_;refine dC [8] [] ?_;refine dQ [7] [] (cU aa rfl rfl rfl rfl) ?_;refine dQ [65] [] iL ?_;refine dQ [66] [] (bg (m:=c.flaw) aa rfl rfl rfl hwf) ?_;refine dQ [64,67] [] (ak (cu f0 f1) rfl rfl (aj ae) (.inl rfl) (fun _=>rfl)) ?_;refine dQ [68] [] (aR (a:=cB++[32]) (b:=Lib.itoa c.flaw) rfl rfl (by simp[bw,bI,cB,bD,bj,bF]; omega) rfl) ?_;refine dQ [69] [] (aR (a:=cB++[32]++Lib.itoa c.flaw) (b:=([10]++bD++[32])) rfl rfl (by simp[bw,bI,cB,bD,bj,bF]; omega) rfl) ?_;refine dQ [7] [] (cU aa rfl rfl rfl rfl) ?_;refine dQ [71] [] (sZ aa rfl rfl rfl rfl rfl) ?_;refine dQ [72] [] (ak (nv c.master hm32) rfl rfl (aj ae) (.inl rfl) (fun _=>rfl)) ?_;refine dQ [70,73] [] (aR (a:=cB++[32]++Lib.itoa c.flaw++([10]++bD++[32])) (b:=hexP c.master) rfl rfl (by simp[bw,bI,cB,bD,bj,bF]; omega) rfl) ?_;refine dQ [74] [] (aR (a:=cB++[32]++Lib.itoa c.flaw++([10]++bD++[32])++hexP c.master) (b:=([10]++bj++[10])) rfl rfl (by simp[bw,bI,cB,bD,bj,bF]; omega) rfl) ?_;refine dC [5] [] ?_;refine dQ [75,76] [] (aR (a:=cB++[32]++Lib.itoa c.flaw++([10]++bD++[32])++hexP c.master++([10]++bj++[10])) (b:=bJ l) rfl rfl (by simp[bw,bI,cB,bD,bj,bF]; omega) rfl) ?_;refine dQ [77] [] (aR (a:=cB++[32]++Lib.itoa c.flaw++([10]++bD++[32])++hexP c.master++([10]++bj++[10])++bJ l) (b:=(bF++[10])) rfl rfl (by simp[bw,bI,cB,bD,bj,bF]; omega) hq2) ?_;refine kg rfl (aO [(0,some _),(1,some _)] (eg false ([]++q0++q1) q2 (([]:List UInt8).length+q0.length+q1.length) (by simp) p2 l2) rfl rfl rfl (aK rfl rfl (aj ae)) ⟨zH,zH,trivial⟩ rfl rfl (.inl rfl) rfl rfl) rfl rfl ?_;refine aC (by kernel_rfl)<|aU<|qR ?_;refine rC ?_;refine rQ iB ?_;refine rQ iE ?_;refine rC<|zP ?_
 refine wc_inv (fun i:Nat=>⟨[(83,.int .i64 i),(82,.int .i64 bs.length),(81,.d (e6 bs)),(9,.ptr 66 [])],[(66,some (cw false 66 67 (dc c l bs i).length)),(67,some (rowT (dc c l bs i)))],72,Tryz.f21.ntmps,64⟩) (fun i=>i≤bs.length∧(dc c l bs i).length≤1048576) (fun i=>bs.length-i) 0 [(67,some 480)] ⟨Nat.zero_le _,by rw[←hall0]; simp; omega⟩
  (lg zi ⟨⟨rfl,rfl,_,rfl,aE.of_eq (by rw[hn0]; rfl)⟩,⟨rfl,rfl,_,rfl,aE.of_eq (congrArg rowT hall0)⟩,trivial⟩) ?_
 rintro i ⟨hi,hi2⟩
 refine bv<|sR ?_;refine rC<|nQ ?_
 by_cases hlt:i<bs.length
 ·have d1:decide ((i:Int)<(bs.length:Int))=true:=dT (by omega)
  obtain⟨a,ha⟩:∃a,bs[i]?=some a:=⟨_,List.getElem?_eq_getElem hlt⟩
  have ha2:bs[((i:Int)).toNat]?=some a:=by rw[Int.toNat_natCast]; exact ha
  have ham:=List.mem_of_getElem? ha
  have hao:=hbo a ham
  have hbl:=pZ (hall a ham)
  have hab:a.bytes.length≤524280:=by omega
  have hln:=tm hao
  have hl89:(cJ a).length+[(10:UInt8)].length≤9223372036854775807:=by simp; omega
  have p90:0<(cJ a++[10]).length:=by simp
  have l90:(dc c l bs i).length+(cJ a++[10]).length≤4194304:=by rw[List.length_append,show[(10:UInt8)].length=1 from rfl]; omega
  have hgo:=uW (c:=c) (l:=l) ha
  have hgn:(dc c l bs i).length+(cJ a++[10]).length=(dc c l bs (i+1)).length:=List.length_append.symm.trans (congrArg List.length hgo)
  by_cases hbig:1048576<(dc c l bs (i+1)).length
  ·have d2:decide (1048576<(((dc c l bs i).length+(cJ a++[10]).length:Nat):Int))=true:=dT (by omega)
   have hle:=uV c l bs (i+1)
   rw[show fp c l bs=([],3) by rw[fp,if_neg (fun e=>e h0),if_pos (by omega)]]
   refine wT<|zQ<|zS ?_;refine rQ (aA aa rfl rfl rfl rfl rfl (by omega) ha2) ?_;refine rQ iL ?_;refine rN ?_;refine rW<|nR ?_;refine rQ iM ?_;refine rQ (ak (mF a hao hab) rfl rfl (aj ae) (.inl rfl) (fun _=>rfl)) ?_;refine rQ (aR (a:=cJ a) (b:=[10]) rfl rfl hl89 rfl) ?_;refine bz rfl (aO [(0,some 66),(1,some 67)] (eg false (dc c l bs i) (cJ a++[10]) _ rfl p90 l90) rfl rfl rfl (aK rfl rfl (aj ae)) ⟨zH,zH,trivial⟩ rfl rfl (.inl rfl) rfl rfl) rfl rfl<|nR ?_;refine bz rfl (aO [(0,some _),(1,some _)] (ow false _ _) rfl rfl rfl (aK rfl rfl ae) ⟨zH,zH,trivial⟩ rfl rfl (.inl rfl) rfl rfl) rfl rfl ?_;refine rC ?_;refine zI<|sR ?_;refine zD<|zT<|zB<|bT<|zB ?_
   exact⟨trivial,[],lf⟩
  ·have d2:decide (1048576<(((dc c l bs i).length+(cJ a++[10]).length:Nat):Int))=false:=dF (by omega)
   refine wT<|zQ<|zS ?_;refine rQ (aA aa rfl rfl rfl rfl rfl (by omega) ha2) ?_;refine rQ iL ?_;refine rN ?_;refine rW<|nR ?_;refine rQ iM ?_;refine rQ (ak (mF a hao hab) rfl rfl (aj ae) (.inl rfl) (fun _=>rfl)) ?_;refine rQ (aR (a:=cJ a) (b:=[10]) rfl rfl hl89 rfl) ?_;refine bz rfl (aO [(0,some 66),(1,some 67)] (eg false (dc c l bs i) (cJ a++[10]) _ rfl p90 l90) rfl rfl rfl (aK rfl rfl (aj ae)) ⟨zH,zH,trivial⟩ rfl rfl (.inl rfl) rfl rfl) rfl rfl<|nR ?_;refine bz rfl (aO [(0,some _),(1,some _)] (ow false _ _) rfl rfl rfl (aK rfl rfl ae) ⟨zH,zH,trivial⟩ rfl rfl (.inl rfl) rfl rfl) rfl rfl ?_;refine rC ?_;refine zG<|bG<|zC<|ao ?_;refine rQ iD ?_;refine rC<|aB ?_
   exact aY (i+1) [(67,some _)] ⟨hlt,by omega⟩ (by omega) (lg zi ⟨⟨rfl,rfl,_,rfl,aE.of_eq (by rw[hgn]; rfl)⟩,⟨rfl,rfl,_,rfl,aE.of_eq (congrArg rowT hgo)⟩,trivial⟩)
 ·have he:i=bs.length:=by omega
  subst he
  have d1:decide ((bs.length:Int)<(bs.length:Int))=false:=dF (by omega)
  have d2:decide (1048576<((dc c l bs bs.length).length:Int))=false:=dF (by omega)
  have hne96:dc c l bs bs.length≠[]:=fun e=>by
   rw[mZ]at e
   simp[iR,cm,l8]at e
  rw[show fp c l bs=(dc c l bs bs.length,0) by rw[mZ]at *; rw[fp,if_neg (fun e=>e h0),if_neg (by omega)]]
  refine wF<|zX<|qR ?_;refine bz rfl (aO [(0,some _),(1,some _)] (ow false _ _) rfl rfl rfl (aK rfl rfl ae) ⟨zH,zH,trivial⟩ rfl rfl (.inl rfl) rfl rfl) rfl rfl ?_;refine rC ?_;refine zG<|kS<|sR ?_;refine aJ (aO [(0,some _),(1,some _)] (jo (dc c l bs bs.length) _ rfl hne96 hi2) rfl rfl rfl (aK rfl rfl ae) ⟨zH,zH,trivial⟩ rfl rfl (.inl rfl) rfl rfl) rfl ?_;refine zD<|zT ?_
  exact⟨trivial,[],lf⟩
theorem uu (c:SCfg) (l:List (List POp)) (bs:List SAct) (hc:c.Ok) (hl:Bd l) (hok:OkL l) (hb:bs.length≤1000000000) (hbo:∀a∈bs,a.Ok):FnIs Tryz.prog 21 [.d (bB c l bs)] [] (.tup (.acons (.d (strD (fp c l bs).1)) (.acons (.d (i6 (fp c l bs).2)) .anil))) []:=by
 by_cases h0:schk c l bs=0
 ·exact ut c l bs hc hl hok hb hbo h0
 ·have:=sW c l bs hc hl hb h0
  rw[show fp c l bs=([],schk c l bs) by rw[fp,if_pos h0]]
  exact this
end Go.Proofs.YtpmhnpnmpjimnaaGreatDoor
namespace Go.Proofs.YtpmhnpnmpjimnaaGreatDoor
open Go.Eng Go.Plain Go.RowKit Go.Sort Go.Shelf
set_option maxHeartbeats 32000000
set_option maxRecDepth 20000
set_option maxRecDepth 100000
theorem qD (w:World):Calls Tryz.prog 115 #[.string ⟨#[]⟩,.int .i64 10,.int .i64 31] w fun e w'=>e=.returned (.tuple #[.int .u64 0,.iface 178 (.int .i64 2)])∧w'=w:=by
 go_enter Tryz.func115,Tryz.ntmps115
 go_wp2
 go_ret2
 exact⟨rfl,rfl⟩
theorem xc (t:ByteArray) (hne:t.size≠0) (hmax:t.size≤9223372036854775806) (w:World) :
  Calls Tryz.prog 115 #[.string t,.int .i64 10,.int .i64 31] w fun e w'=>e=.returned (Lib.uintTupleM 178 2147483647 (Lib.parseUintM 2147483647 0 t.data.toList))∧w'=Lib.bytesWorld w 5 t:=by
 have hemp:t.toList.isEmpty=false:=by
  rw[←decide_eq_emptyBytes]
  exact dF (fun h=>hne (by rw[h]; rfl))
 have hcv:=Lib.run_convert_string_bytes (P:=Tryz.prog) w 9 46 5 t (u :=.string) Tryz.underlying9 Tryz.underlying46 Tryz.underlying5
 have hcell:∀j,j<t.size→(Lib.bytesWorld w 5 t).cell? ⟨w.heap.size,j,none⟩=some (.int .u8 (t.data.toList.getD j 0).toNat):=fun j hj=>Lib.bytesWorld_cell w 5 t j hj
 obtain⟨V,hV⟩:∃V,V=Lib.bytesWorld w 5 t:=⟨_,rfl⟩
 rw[←hV]at hcv hcell ⊢
 clear hV
 obtain⟨l,hl⟩:∃l,l=t.data.toList:=⟨_,rfl⟩
 have hlen:l.length=t.size:=by rw[hl,Lib.size_eq]
 rw[←hl]at hcell ⊢
 clear hl
 have hmv:IntKind.u64.wrap (IntKind.u64.wrap 2147483648-1)=2147483647:=by
  rw[IntKind.wrap_u64,IntKind.wrap_u64]
  decide
 go_enter Tryz.func115,Tryz.ntmps115
 go_wp2
 go_loop [12,13,101] (fun vu vn vi=>∃(k acc:Nat) (a:Int),vu=.bool false∧vn=.int .u64 a∧vi=.int .i64 k∧k≤t.size∧Hid (a=(acc:Int)∧acc≤2147483647∧Lib.parseUintM 2147483647 0 l=Lib.parseUintM 2147483647 acc (l.drop k)))
  (fun _ _ vi=>t.size-(intOf vi).toNat)
 case atStart=>exact⟨0,0,0,rfl,rfl,rfl,by omega,rfl,by omega,rfl⟩
 case round =>
  obtain⟨k,acc,a,rfl,rfl,rfl,hk,hh⟩:=hrel
  obtain⟨ha,hacc,hdec⟩:=hh.out
  clear hh
  have a0:0≤a:=by omega
  have a1:a≤2147483647:=by omega
  by_cases hkn:k<t.size
  ·have hc:=hcell k hkn
   have hdrop:l.drop k=l[k]'(by omega)::l.drop (k+1):=List.drop_eq_getElem_cons (by omega)
   have hget:l.getD k 0=l[k]'(by omega):=by simp[List.getD,List.getElem?_eq_getElem (show k<l.length by omega)]
   rw[hdrop]at hdec
   rw[hget]at hc
   generalize l[k]'(by omega)=c at hc hdec
   have hc256:c.toNat<256:=c.toNat_lt
   clear hcell hdrop hget
   by_cases hdig:48≤c.toNat∧c.toNat≤57
   ·obtain⟨hd0,hd1⟩:=hdig
    have hcut:¬1844674407370955162≤acc:=by omega
    by_cases hov:2147483647<acc*10+(c.toNat-48)
    ·have hF:Lib.parseUintM 2147483647 acc (c::l.drop (k+1))=.range:=by simp[Lib.parseUintM,hd0,hd1,hcut,hov]
     rw[hF]at hdec
     have iov:2147483647<a*10+((c.toNat:Int)-48):=by omega
     clear hcut hacc hF hov ha
     go_wp2
     go_ret2
     exact⟨rfl,rfl⟩
    ·have hF:Lib.parseUintM 2147483647 acc (c::l.drop (k+1))=Lib.parseUintM 2147483647 (acc*10+(c.toNat-48)) (l.drop (k+1)):=by simp[Lib.parseUintM,hd0,hd1,hcut,hov]
     have hnew:Hid (a*10+((c.toNat:Int)-48)=((acc*10+(c.toNat-48):Nat):Int)∧acc*10+(c.toNat-48)≤2147483647∧Lib.parseUintM 2147483647 0 l=Lib.parseUintM 2147483647 (acc*10+(c.toNat-48)) (l.drop (k+1))):=Lib.hid ⟨by omega,by omega,hdec.trans hF⟩
     have iov:a*10+((c.toNat:Int)-48)≤2147483647:=by omega
     clear hcut hacc hF hov hdec ha
     go_wp2
     refine⟨⟨k+1,acc*10+(c.toNat-48),a*10+((c.toNat:Int)-48),rfl,(by first | rfl | (congr 1; omega)),(by first | rfl | (congr 1; omega)),by omega,hnew⟩,by simp[intOf]; omega⟩
   ·have hF:Lib.parseUintM 2147483647 acc (c::l.drop (k+1))=Lib.parseUintB 31 []:=by simp[Lib.parseUintM,Lib.parseUintB,hdig]
    rw[hF]at hdec
    clear hacc hF ha
    have hv0:=bits_lo_u8 .or (c.toNat:Int) 32
    have hv1:=bits_hi_u8 .or (c.toNat:Int) 32
    have hu0:=bits_lo_u8 .or 95 32
    have hu1:=bits_hi_u8 .or 95 32
    go_wp2_with (refine (Tryz.internal_strconv_lower _ _).mono ?_; rintro e w' ⟨rfl,rfl⟩)
    all_goals go_ret2
    all_goals first | exact⟨rfl,rfl⟩ | exact⟨by rw[hdec]; rfl,rfl⟩
  ·have hkk:k=t.size:=by omega
   subst hkk
   have hF:Lib.parseUintM 2147483647 acc (l.drop t.size)=.ok acc:=by rw[List.drop_eq_nil_of_le (by omega)]; rfl
   rw[hF]at hdec
   subst ha
   clear hacc hF a0 a1
   go_wp2
   go_ret2
   exact⟨rfl,rfl⟩
theorem lD (s:ByteArray) (hmax:s.size≤9223372036854775806) (w:World):Calls Tryz.prog 115 #[.string s,.int .i64 10,.int .i64 31] w fun e w'=>e=.returned (Lib.uintTupleM 178 2147483647 (Lib.parseUintB 31 s.data.toList))∧(w'=w∨w'=Lib.bytesWorld w 5 s):=by
 by_cases h0:s.size=0
 ·have hs:s=⟨#[]⟩:=ByteArray.ext (Array.eq_empty_of_size_eq_zero h0)
  subst hs
  exact (qD w).mono fun e w' ⟨he,hw⟩=>⟨he,.inl hw⟩
 ·have hne:s.data.toList≠[]:=fun h=>h0 (by rw[Lib.size_eq,h]; rfl)
  refine (xc s h0 hmax w).mono fun e w' ⟨he,hw⟩=>⟨?_,.inr hw⟩
  rw[he,Lib.parseUintB,if_neg hne,show (2:Nat) ^ 31-1=2147483647 from by decide]
theorem xa (s:ByteArray) (hmax:s.size≤9223372036854775806) (u:Nat) (h:Lib.parseUintB 31 s.data.toList=.ok u) (w:World) :
  Calls Tryz.prog 93 #[.string s,.int .i64 10,.int .i64 31] w fun e w'=>e=.returned (.tuple #[.int .u64 u,.nilIface])∧(w'=w∨w'=Lib.bytesWorld w 5 s):=by
 have hI:=lD s hmax w
 rw[h]at hI
 have hI:Calls Tryz.prog 115 #[.string s,.int .i64 10,.int .i64 31] w fun e w'=>e=.returned (.tuple #[.int .u64 u,.nilIface])∧(w'=w∨w'=Lib.bytesWorld w 5 s):=hI
 clear h
 go_enter Tryz.func93,Tryz.ntmps93
 go_wp2_with (refine hI.mono ?_; rintro e V ⟨rfl,hW⟩)
 go_wp2
 go_ret2
 exact⟨rfl,hW⟩
theorem o5 (s:ByteArray) (hlim:s.size≤281474976710656) (h:Lib.parseUintB 31 s.data.toList=Lib.parseUintB 31 []) (ev:Value) (w:World) (hv:w.cell? ⟨6,0,none⟩=some ev) (hev:ev=.nilIface∨∃te pe,ev=.iface te pe) :
  Calls Tryz.prog 93 #[.string s,.int .i64 10,.int .i64 31] w fun e w'=>∃N,e=.returned (.tuple #[.int .u64 0,.iface 181 (.pointer (some ⟨N,0,none⟩))])∧Below w.heap.size w w':=by
 have hG:6<w.heap.size:=Lib.lt_of_cell hv
 have hI:=lD s (by omega) w
 rw[h]at hI
 have hI:Calls Tryz.prog 115 #[.string s,.int .i64 10,.int .i64 31] w fun e w'=>e=.returned (.tuple #[.int .u64 0,.iface 178 (.int .i64 2)])∧(w'=w∨w'=Lib.bytesWorld w 5 s):=hI
 clear h
 go_enter Tryz.func93,Tryz.ntmps93
 go_wp2_with (refine hI.mono ?_)
 rintro e V ⟨rfl,hW⟩
 have hb1:Below w.heap.size w V:=by
  rcases hW with rfl | rfl
  ·exact Below.refl _ _
  ·exact Lib.bytesWorld_below _ _ _
 have hv1:V.cell? ⟨6,0,none⟩=some ev:=(hb1.cell (show (⟨6,0,none⟩:Addr).block<w.heap.size from hG)).trans hv
 clear hW
 go_wp2_with (refine (Tryz.strconv_toError_syntax ⟨#[80,97,114,115,101,85,105,110,116]⟩ s 10 31 ev _ hlim ?_ hev).mono ?_)
 ·exact hv1
 rintro e V2 ⟨N,rfl,h1,h2,h3⟩
 go_wp2
 go_ret2
 exact⟨N,rfl,hb1.trans (h3.mono hb1.size)⟩
theorem qC (s:ByteArray) (hlim:s.size≤281474976710656) (h:Lib.parseUintB 31 s.data.toList=.range) (ev:Value) (w:World) (hv:w.cell? ⟨7,0,none⟩=some ev) (hev:ev=.nilIface∨∃te pe,ev=.iface te pe) :
  Calls Tryz.prog 93 #[.string s,.int .i64 10,.int .i64 31] w fun e w'=>∃N,e=.returned (.tuple #[.int .u64 2147483647,.iface 181 (.pointer (some ⟨N,0,none⟩))])∧Below w.heap.size w w':=by
 have hG:7<w.heap.size:=Lib.lt_of_cell hv
 have hI:=lD s (by omega) w
 rw[h]at hI
 have hI:Calls Tryz.prog 115 #[.string s,.int .i64 10,.int .i64 31] w fun e w'=>e=.returned (.tuple #[.int .u64 2147483647,.iface 178 (.int .i64 1)])∧(w'=w∨w'=Lib.bytesWorld w 5 s):=hI
 clear h
 go_enter Tryz.func93,Tryz.ntmps93
 go_wp2_with (refine hI.mono ?_)
 rintro e V ⟨rfl,hW⟩
 have hb1:Below w.heap.size w V:=by
  rcases hW with rfl | rfl
  ·exact Below.refl _ _
  ·exact Lib.bytesWorld_below _ _ _
 have hv1:V.cell? ⟨7,0,none⟩=some ev:=(hb1.cell (show (⟨7,0,none⟩:Addr).block<w.heap.size from hG)).trans hv
 clear hW
 go_wp2_with (refine (Tryz.strconv_toError_range ⟨#[80,97,114,115,101,85,105,110,116]⟩ s 10 31 ev _ hlim ?_ hev).mono ?_)
 ·exact hv1
 rintro e V2 ⟨N,rfl,h1,h2,h3⟩
 go_wp2
 go_ret2
 exact⟨N,rfl,hb1.trans (h3.mono hb1.size)⟩
def pvB (B:Nat) (l:List UInt8):Int:=match Lib.parseUintB B l with
 | .ok u=>u
 | .range=>((2 ^ B-1:Nat):Int)
 | _=>0
def pkB (B:Nat) (l:List UInt8):Bool:=match Lib.parseUintB B l with
 | .ok _=>true
 | _=>false
abbrev PuIs (B:Nat) (l:List UInt8):Prop:=FnIs Tryz.prog 93 [.d (strD l),.int .i64 10,.int .i64 B] [] (.tup (.acons (.int .u64 (pvB B l)) (.acons (erA (pkB B l)) .anil))) []
theorem qB (B:Nat) (l:List UInt8)
  (h1:∀(w:World) (u:Nat),Lib.parseUintB B l=.ok u→Calls Tryz.prog 93 #[.string (mkS l),.int .i64 10,.int .i64 B] w fun e w'=>e=.returned (.tuple #[.int .u64 u,.nilIface])∧(w'=w∨w'=Lib.bytesWorld w 5 (mkS l)))
  (h2:∀(w:World) (ev:Value),Lib.parseUintB B l=.range→w.cell? ⟨7,0,none⟩=some ev→(ev=.nilIface∨∃te pe,ev=.iface te pe)→Calls Tryz.prog 93 #[.string (mkS l),.int .i64 10,.int .i64 B] w fun e w'=>∃N,e=.returned (.tuple #[.int .u64 (2 ^ B-1:Nat),.iface 181 (.pointer (some ⟨N,0,none⟩))])∧Below w.heap.size w w')
  (h3:∀(w:World) (ev:Value),Lib.parseUintB B l=Lib.parseUintB B []→w.cell? ⟨6,0,none⟩=some ev→(ev=.nilIface∨∃te pe,ev=.iface te pe)→Calls Tryz.prog 93 #[.string (mkS l),.int .i64 10,.int .i64 B] w fun e w'=>∃N,e=.returned (.tuple #[.int .u64 0,.iface 181 (.pointer (some ⟨N,0,none⟩))])∧Below w.heap.size w w'):PuIs B l:=by
 refine .of_calls (fun G=>⟨trivial,by unfold erA; cases pkB B l <;> trivial,trivial⟩) ⟨_,Tryz.func93,by kernel_rfl,by kernel_rfl⟩ fun σ w X vs _ ha hg=>?_
 rw[ha.three]
 cases h:Lib.parseUintB B l
 case ok v =>
  refine (h1 w v h).mono ?_
  rintro e w' ⟨rfl,hw⟩
  refine⟨_,rfl,?_,by simp only[pvB,pkB,erA,h,cond_true]; exact lA rfl rfl⟩
  rcases hw with rfl | rfl
  ·exact Below.refl _ _
  ·exact hU _ _ _
 case range =>
  obtain⟨ev,g1,g2⟩:=gn hg 7 (.inr rfl)
  refine (h2 w ev h g1 g2).mono ?_
  rintro e w' ⟨N,rfl,hb⟩
  exact⟨_,rfl,hb,by simp only[pvB,pkB,erA,h,cond_false]; exact it rfl⟩
 next =>
  obtain⟨ev,g1,g2⟩:=gn hg 6 (.inl rfl)
  refine (h3 w ev h g1 g2).mono ?_
  rintro e w' ⟨N,rfl,hb⟩
  exact⟨_,rfl,hb,by simp only[pvB,pkB,erA,h,cond_false]; exact it rfl⟩
theorem xb {l:List UInt8} (hl:l.length≤281474976710656):PuIs 31 l:=by
 have hd:=c8 l
 have hsz:(mkS l).size≤281474976710656:=by rw[bY]; exact hl
 exact qB 31 l (fun w u h=>xa (mkS l) (by omega) u (by rw[hd]; exact h) w) (fun w ev h g1 g2=>qC (mkS l) hsz (by rw[hd]; exact h) ev w g1 g2) (fun w ev h g1 g2=>o5 (mkS l) hsz (by rw[hd]; exact h) ev w g1 g2)
theorem rL {l:List UInt8} (hl:l.length≤281474976710656):PuIs 64 l:=by
 have hd:=c8 l
 have hsz:(mkS l).size≤281474976710656:=by rw[bY]; exact hl
 exact qB 64 l (fun w u h=>Tryz.strconv_ParseUint_10_at64_ok (mkS l) (by omega) u (by rw[hd]; exact h) w) (fun w ev h g1 g2=>(Tryz.strconv_ParseUint_10_at64_range (mkS l) hsz (by rw[hd]; exact h) ev w g1 g2).mono fun e w' ⟨N,he,_,_,hb⟩=>⟨N,he,hb⟩) (fun w ev h g1 g2=>(Tryz.strconv_ParseUint_10_at64_syntax (mkS l) hsz (by rw[hd]; exact h) ev w g1 g2).mono fun e w' ⟨N,he,_,_,hb⟩=>⟨N,he,hb⟩)
theorem yw {l:List UInt8} (hl:l.length≤281474976710656):PuIs 8 l:=by
 have hd:=c8 l
 have hsz:(mkS l).size≤281474976710656:=by rw[bY]; exact hl
 exact qB 8 l (fun w u h=>Tryz.strconv_ParseUint_10_at8_ok (mkS l) (by omega) u (by rw[hd]; exact h) w) (fun w ev h g1 g2=>(Tryz.strconv_ParseUint_10_at8_range (mkS l) hsz (by rw[hd]; exact h) ev w g1 g2).mono fun e w' ⟨N,he,_,_,hb⟩=>⟨N,he,hb⟩) (fun w ev h g1 g2=>(Tryz.strconv_ParseUint_10_at8_syntax (mkS l) hsz (by rw[hd]; exact h) ev w g1 g2).mono fun e w' ⟨N,he,_,_,hb⟩=>⟨N,he,hb⟩)
end Go.Proofs.YtpmhnpnmpjimnaaGreatDoor
namespace Go.Proofs.YtpmhnpnmpjimnaaGreatDoor
open Go.Eng Go.Plain
set_option maxHeartbeats 32000000
set_option maxRecDepth 20000
attribute [local irreducible] WC RegS RegD SeqQ BlkQ ScoQ RegK CutK Sat SatN FnIs LoopQ aq OpIs
abbrev rdB (ws:List (List UInt8)) (bad:Bool):Row :=.box 130 (.d (.cons (.arr 1 strD ws) (.cons (bo bad) .nil)))
def nx (ws:List (List UInt8)) (bad:Bool):List UInt8×List (List UInt8)×Bool:=match ws with
 | []=>([],[],true)
 | w::r=>(w,r,bad)
theorem iw (ws:List (List UInt8)) (bad:Bool):FnIs Tryz.prog 80 [.ptr 0 []] [(0,rdB ws bad)] (.d (strD (nx ws bad).1)) [(0,rdB (nx ws bad).2.1 (nx ws bad).2.2)]:=by
 refine aw aa Tryz.func80 rfl rfl rfl ?_
 cases ws with
 | nil =>
  refine sR<|rC<|zW ?_;refine zU ?_;refine rQ iB ?_;refine rQ iE ?_;refine rC ?_;refine zO<|sR ?_;refine zU ?_;refine rX<|nR ?_;refine rC<|zT<|ba ?_
  exact⟨trivial,[],lg zV ⟨zR,trivial⟩⟩
 | cons w r =>
  have hz:decide (((w::r).length:Int)=0)=false:=dF (by simp; omega)
  have g0:(w::r)[((0:Int)).toNat]?=some w:=rfl
  refine sR<|rC<|zW ?_;refine zU ?_;refine rQ iB ?_;refine rQ iE ?_;refine rC ?_;refine zJ<|kS<|sR ?_;refine zU ?_;refine rQ iB ?_;refine rQ iA ?_;refine rQ iL ?_;refine rC<|nR ?_;iterate 4 refine rC ?_
  refine rQ iB ?_;refine rQ (bV (m:=1) aa rfl rfl rfl rfl rfl (Nat.succ_le_succ (Nat.zero_le _))) ?_;refine zD ?_;refine rX<|nR ?_;refine zD<|zT ?_
  exact⟨trivial,[],lg zV ⟨zR,trivial⟩⟩
abbrev wd (v:List UInt8) (ws:List (List UInt8)) (bad:Bool):Bool:=if (nx ws bad).1=v then (nx ws bad).2.2 else true
theorem js (v:List UInt8) (ws:List (List UInt8)) (bad:Bool):FnIs Tryz.prog 67 [.ptr 0 [],.d (strD v)] [(0,rdB ws bad)] (.tup .anil) [(0,rdB (nx ws bad).2.1 (wd v ws bad))]:=by
 have hn:=iw ws bad
 unfold wd
 obtain⟨⟨w,r,b⟩,hw⟩:∃x,nx ws bad=x:=⟨_,rfl⟩
 rw[hw]at hn ⊢
 simp only at hn ⊢
 refine aw aa Tryz.func67 rfl rfl rfl ?_
 by_cases h:w=v
 ·have d:(!decide (w=v))=false:=by rw[dT h]; rfl
  rw[if_pos h]
  refine sR<|rC ?_;refine aJ (aO [(0,some 0)] hn rfl rfl rfl (aK rfl rfl ae) ⟨zH,trivial⟩ rfl rfl (.inl rfl) rfl rfl) rfl ?_;refine rC ?_;refine rQ (ed (a:=w) (b:=v) aa rfl rfl rfl) ?_;refine zG<|bG ?_
  exact⟨trivial,[],lg zV ⟨zR,trivial⟩⟩
 ·have d:(!decide (w=v))=true:=by rw[dF h]; rfl
  rw[if_neg h]
  refine sR<|rC ?_;refine aJ (aO [(0,some 0)] hn rfl rfl rfl (aK rfl rfl ae) ⟨zH,trivial⟩ rfl rfl (.inl rfl) rfl rfl) rfl ?_;refine rC ?_;refine rQ (ed (a:=w) (b:=v) aa rfl rfl rfl) ?_;refine zI<|ao ?_;refine zU ?_;refine rX<|aB ?_
  exact⟨trivial,[],lg zV ⟨zR,trivial⟩⟩
theorem gm (ws:List (List UInt8)) (bad:Bool):FnIs Tryz.prog 71 [.ptr 0 []] [(0,rdB ws bad)] (.bool (!bad&&decide (ws=[]))) [(0,rdB ws bad)]:=by
 have hd:decide ((ws.length:Int)=0)=decide (ws=[]):=by
  cases ws with
  | nil=>rfl
  | cons w r=>simp; omega
 refine aw aa Tryz.func71 rfl rfl rfl ?_
 cases bad with
 | true =>
  refine sR<|rC<|nR ?_;refine zU ?_;refine rQ iB ?_;refine zD ?_
  iterate 6 refine rT ?_
  refine rQ iG ?_;refine rC<|zT ?_
  exact⟨trivial,[],lg zV ⟨zR,trivial⟩⟩
 | false =>
  refine sR<|rC<|nR ?_;refine zU ?_;refine rQ iB ?_;refine zD ?_;refine rP ?_;refine rC ?_;refine rP ?_;refine rC ?_;refine rP ?_;refine rC ?_;refine rP ?_;refine rQ iB ?_;refine rP ?_;refine rQ iE ?_;refine rP ?_;refine rC ?_;refine rQ iU ?_;refine rC<|zT ?_
  exact⟨trivial,[],lg ⟨⟨_,rfl,AVLe.of_eq (by rw[hd]; rfl)⟩,rfl,trivial⟩ ⟨zR,trivial⟩⟩
def nmb (B:Nat) (ws:List (List UInt8)) (bad:Bool):Nat×List (List UInt8)×Bool:=match numS B (nx ws bad).1 with
 | some n=>(n,(nx ws bad).2.1,(nx ws bad).2.2)
 | none=>(0,(nx ws bad).2.1,true)
theorem fU {ws:List (List UInt8)} {bad:Bool} {n:Nat} (h:∀w∈ws,w.length≤n):(nx ws bad).1.length≤n∧∀w∈(nx ws bad).2.1,w.length≤n:=by
 cases ws with
 | nil=>exact⟨Nat.zero_le _,fun w hw=>by simp[nx]at hw⟩
 | cons w r=>exact⟨h w (by simp),fun x hx=>h x (by simp[show x∈r from hx])⟩
theorem gy (B:Nat) (hB:B≤64) (ws:List (List UInt8)) (bad:Bool) (hp:PuIs B (nx ws bad).1):FnIs Tryz.prog 69 [.ptr 0 [],.int .i64 B] [(0,rdB ws bad)] (.int .u64 (nmb B ws bad).1) [(0,rdB (nmb B ws bad).2.1 (nmb B ws bad).2.2)]:=by
 have hn:=iw ws bad
 have hpu:=hp
 unfold PuIs at hpu
 unfold nmb
 obtain⟨⟨w,r,b⟩,hw⟩:∃x,nx ws bad=x:=⟨_,rfl⟩
 rw[hw]at hn hpu ⊢
 simp only at hn hpu ⊢
 refine aw aa Tryz.func69 rfl rfl rfl ?_
 by_cases hk:∃u,Lib.parseUintB B w=.ok u
 ·obtain⟨u,hu⟩:=hk
  have hu64:u<18446744073709551616:=by
   have h1:=Lib.parseUintB_le hu
   have h2:2 ^ B≤2 ^ 64:=Nat.pow_le_pow_right (by decide) hB
   have h3:(2:Nat) ^ 64=18446744073709551616:=by decide
   omega
  have hfu:=yb u hu64
  rw[show pvB B w=u by simp only[pvB,hu],show pkB B w=true by simp only[pkB,hu]]at hpu
  by_cases hd:Lib.decDigits u=w
  ·have d:(!decide (Lib.decDigits u=w))=false:=by rw[dT hd]; rfl
   rw[show numS B w=some u by simp only[numS,hu,if_pos hd]]
   refine sR<|rC<|nR ?_;refine rC ?_;refine aJ (aO [(0,some 0)] hn rfl rfl rfl (aK rfl rfl ae) ⟨zH,trivial⟩ rfl rfl (.inl rfl) rfl rfl) rfl ?_;refine rC<|nR ?_;refine zD ?_;refine rQ (ak hpu rfl rfl (aj (aj (aj ae))) (.inl rfl) (fun _=>rfl)) ?_;iterate 5 refine rC ?_
   refine zW<|rC ?_;refine rQ (pd Tryz.underlying100 rfl) ?_;refine rC ?_;refine rP ?_;refine rC ?_;refine rP ?_;refine rQ (ak hfu rfl rfl (aj (aj ae)) (.inl rfl) (fun _=>rfl)) ?_;refine rP ?_;refine rC ?_;refine rP ?_;refine rQ (ed (a:=Lib.decDigits u) (b:=w) aa rfl rfl rfl) ?_;refine rQ iG ?_;refine zG<|kS<|sR ?_;refine zD<|zT ?_
   exact⟨trivial,[],lg zV ⟨zR,trivial⟩⟩
  ·have d:(!decide (Lib.decDigits u=w))=true:=by rw[dF hd]; rfl
   rw[show numS B w=none by simp only[numS,hu,if_neg hd]]
   refine sR<|rC<|nR ?_;refine rC ?_;refine aJ (aO [(0,some 0)] hn rfl rfl rfl (aK rfl rfl ae) ⟨zH,trivial⟩ rfl rfl (.inl rfl) rfl rfl) rfl ?_;refine rC<|nR ?_;refine zD ?_;refine rQ (ak hpu rfl rfl (aj (aj (aj ae))) (.inl rfl) (fun _=>rfl)) ?_;iterate 5 refine rC ?_
   refine zW<|rC ?_;refine rQ (pd Tryz.underlying100 rfl) ?_;refine rC ?_;refine rP ?_;refine rC ?_;refine rP ?_;refine rQ (ak hfu rfl rfl (aj (aj ae)) (.inl rfl) (fun _=>rfl)) ?_;refine rP ?_;refine rC ?_;refine rP ?_;refine rQ (ed (a:=Lib.decDigits u) (b:=w) aa rfl rfl rfl) ?_;refine rQ iG ?_;refine zI<|sR ?_;refine zU ?_;refine rX<|nR ?_;refine rC<|zT<|ba ?_
   exact⟨trivial,[],lg zV ⟨zR,trivial⟩⟩
 ·have hnn:numS B w=none:=by
   unfold numS
   split
   ·rename_i u hu; exact absurd ⟨u,hu⟩ hk
   ·rfl
  have hkf:pkB B w=false:=by
   unfold pkB
   split
   ·rename_i u hu; exact absurd ⟨u,hu⟩ hk
   ·rfl
  rw[hkf]at hpu
  rw[hnn]
  refine sR<|rC<|nR ?_;refine rC ?_;refine aJ (aO [(0,some 0)] hn rfl rfl rfl (aK rfl rfl ae) ⟨zH,trivial⟩ rfl rfl (.inl rfl) rfl rfl) rfl ?_;refine rC<|nR ?_;refine zD ?_;refine rQ (ak hpu rfl rfl (aj (aj (aj ae))) (.inl rfl) (fun _=>rfl)) ?_;iterate 5 refine rC ?_
  refine zW<|rC ?_;refine rQ (yD Tryz.underlying100 rfl) ?_;refine rC ?_;iterate 4 refine rT ?_
  refine rQ iU ?_;refine zO<|sR ?_;refine zU ?_;refine rX<|nR ?_;refine rC<|zT<|ba ?_
  exact⟨trivial,[],lg zV ⟨zR,trivial⟩⟩
theorem vo {B:Nat} {ws:List (List UInt8)} {bad:Bool}:(nmb B ws bad).1<2 ^ B:=by
 unfold nmb
 split
 ·rename_i n h; exact fN h
 ·exact Nat.two_pow_pos B
theorem dR (ws:List (List UInt8)) (bad:Bool) (hl:∀w∈ws,w.length≤1048576):FnIs Tryz.prog 68 [.ptr 0 []] [(0,rdB ws bad)] (.int .i64 (nmb 31 ws bad).1) [(0,rdB (nmb 31 ws bad).2.1 (nmb 31 ws bad).2.2)]:=by
 have hn:=gy 31 (by decide) ws bad (xb (by have:=(fU (bad:=bad) hl).1; omega))
 have hw:IntKind.i64.wrap ((nmb 31 ws bad).1:Int)=((nmb 31 ws bad).1:Int):=aI (by omega) (by have:=vo (B:=31) (ws:=ws) (bad:=bad); omega)
 refine aw aa Tryz.func68 rfl rfl rfl ?_;refine sR<|rC<|nR ?_;refine rC ?_;refine aJ (aO [(0,some 0)] hn rfl rfl rfl (aK rfl rfl (aj ae)) ⟨zH,trivial⟩ rfl rfl (.inl rfl) rfl rfl) rfl ?_;refine rQ (bg (m:=((nmb 31 ws bad).1:Int)) aa rfl rfl rfl hw) ?_;refine rC<|zT ?_
 exact⟨trivial,[],lg zV ⟨zR,trivial⟩⟩
def byt (ws:List (List UInt8)) (bad:Bool):List UInt8×List (List UInt8)×Bool:=match bQ (nx ws bad).1 with
 | some d=>(d,(nx ws bad).2.1,(nx ws bad).2.2)
 | none=>([],(nx ws bad).2.1,true)
abbrev p9 (s:List UInt8) (r:List (List UInt8)) (b:Bool) (ws:List (List UInt8)) (bad:Bool) (o:Option (List UInt8)):Prop:=FnIs Tryz.prog 70 [.ptr 0 []] [(0,rdB ws bad)] (.d (encB (o.getD []))) [(0,rdB r (if o=none then true else b))]
theorem pP (s:List UInt8) (r:List (List UInt8)) (b:Bool) (ws:List (List UInt8)) (bad:Bool) (hx:nx ws bad=(s,r,b)) (h45:s=[45]):p9 s r b ws bad (some []):=by
 have hn:=iw ws bad
 rw[hx]at hn
 simp only at hn
 have h0:decide (s=[45])=true:=dT h45
 unfold p9
 rw[if_neg (by simp)]
 refine aw aa Tryz.func70 rfl rfl rfl ?_;refine sR<|rC<|nR ?_;refine rC ?_;refine aJ (aO [(0,some 0)] hn rfl rfl rfl (aK rfl rfl ae) ⟨zH,trivial⟩ rfl rfl (.inl rfl) rfl rfl) rfl ?_;refine rC<|zW ?_;refine rC ?_;refine rQ (dS (a:=s) (b:=[45]) aa rfl rfl rfl) ?_;refine zI<|sR ?_;refine rC<|zT<|ba ?_
 exact⟨trivial,[],lg ⟨⟨_,rfl,nil_arr _ _⟩,rfl,trivial⟩ ⟨zR,trivial⟩⟩
theorem rn (s:List UInt8) (r:List (List UInt8)) (b:Bool) (ws:List (List UInt8)) (bad:Bool) (hx:nx ws bad=(s,r,b)) (h45:s≠[45]) (hL:s.length≤1048576) :
  (s=[]→FnIs Tryz.prog 70 [.ptr 0 []] [(0,rdB ws bad)] (.own 64 0 (s.length/2) 1 none) [(0,rdB r true),(64,.ds 5 1 true bp (List.replicate (s.length/2) (0:Int)))])∧(s≠[]→bQ s=none→p9 s r b ws bad none)∧((s.length % 2=0∧s≠[] ∧ ∀c∈s,0≤Lib.indexByte hexD c)→FnIs Tryz.prog 70 [.ptr 0 []] [(0,rdB ws bad)] (.own 64 0 (s.length/2) 1 none) [(0,rdB r b),(64,.ds 5 1 true bp (dw s))]):=by
 have hn:=iw ws bad
 rw[hx]at hn
 simp only at hn
 have h0:decide (s=[45])=false:=dF h45
 have hwl:IntKind.i64.wrap ((s.length/2:Nat):Int)=((s.length/2:Nat):Int):=aI (by omega) (by omega)
 have hN:s.length/2≤1048576:=by omega
 refine⟨?_,?_,?_⟩
 ·intro hs
  have hl0:s.length=0:=by rw[hs]; rfl
  have hz:decide (((s.length/2:Nat):Int)=0)=true:=dT (by omega)
  refine aw aa Tryz.func70 rfl rfl rfl ?_;refine sR<|rC<|nR ?_;refine rC ?_;refine aJ (aO [(0,some 0)] hn rfl rfl rfl (aK rfl rfl ae) ⟨zH,trivial⟩ rfl rfl (.inl rfl) rfl rfl) rfl ?_;refine rC<|zW ?_;refine rC ?_;refine rQ (dS (a:=s) (b:=[45]) aa rfl rfl rfl) ?_;refine zG<|kS<|sR ?_;refine rC ?_;refine rQ (dB aa rfl rfl) ?_;refine rQ (ct (a:=s.length) (b:=2) aa rfl rfl rfl (by decide) hwl) ?_;refine aN (da (enc:=bp) (s:=1) (N:=s.length/2) aa 0 rfl rfl rfl rfl rfl rfl rfl hN rfl) rfl ?_;refine rC<|zW ?_;refine rC ?_;refine aN (gj aa rfl rfl) rfl<|zP ?_;refine kP<|sR ?_;refine rQ (jx rfl rfl (by omega)) ?_;refine rC<|nQ ?_;refine wG<|zX<|sR ?_;iterate 4 refine rC ?_
  refine rQ iB ?_;refine rC ?_
  cases b with
  | false =>
   refine rP ?_;refine rC ?_;refine rP ?_;refine rQ (bq aa rfl rfl) ?_;refine rP ?_;refine rC ?_;refine rQ iG ?_;refine zD ?_;refine rX<|nR ?_;refine zD<|zT ?_
   exact⟨trivial,[(64,some 136)],lg zV ⟨⟨rfl,rfl,_,rfl,aE.of_eq (by rw[hz]; rfl)⟩,zR,trivial⟩⟩
  | true =>
   iterate 3 refine rT ?_
   refine rQ iU ?_;refine zD ?_;refine rX<|nR ?_;refine zD<|zT ?_
   exact⟨trivial,[(64,some 136)],lg zV ⟨zR,zR,trivial⟩⟩
 ·intro hs hnone
  unfold p9
  rw[if_pos rfl]
  refine aw aa Tryz.func70 rfl rfl rfl ?_;refine sR<|rC<|nR ?_;refine rC ?_;refine aJ (aO [(0,some 0)] hn rfl rfl rfl (aK rfl rfl ae) ⟨zH,trivial⟩ rfl rfl (.inl rfl) rfl rfl) rfl ?_;refine rC<|zW ?_;refine rC ?_;refine rQ (dS (a:=s) (b:=[45]) aa rfl rfl rfl) ?_;refine zG<|kS<|sR ?_;refine rC ?_;refine rQ (dB aa rfl rfl) ?_;refine rQ (ct (a:=s.length) (b:=2) aa rfl rfl rfl (by decide) hwl) ?_;refine aN (da (enc:=bp) (s:=1) (N:=s.length/2) aa 0 rfl rfl rfl rfl rfl rfl rfl hN rfl) rfl ?_;refine rC<|zW ?_;refine rC ?_;refine aN (gj aa rfl rfl) rfl<|zP ?_
  by_cases hodd:s.length % 2=1
  ·have hpos:0<s.length:=List.length_pos_iff.2 hs
   obtain⟨c,hc⟩:∃c,s[0]?=some c:=⟨_,List.getElem?_eq_getElem hpos⟩
   have hib:FnIs Tryz.prog 94 [.d (strD hexD),.int .u8 c.toNat] [] (.int .i64 (Lib.indexByte hexD c)) []:=by
    have:=pu (l:=hexD) (c:=(c.toNat:Int))
    rwa [show ((c.toNat:Int)).toNat.toUInt8=c by simp]at this
   have hr:decide (((s.length % 2:Nat):Int)=1)=true:=dT (by omega)
   refine kP ?_
   by_cases hneg:Lib.indexByte hexD c<0
   ·have hd:=dT hneg
    refine sR<|aN (eW rfl rfl (by omega)) rfl ?_;refine rC<|nQ ?_;refine wV<|kS<|zS ?_;refine zD<|nR ?_;refine zD ?_;refine rQ (ea (l:=s) (m:=0) aa rfl rfl rfl hc) ?_;refine rQ (ak hib rfl rfl (aj (aj ae)) (.inl rfl) (fun _=>rfl)) ?_;refine rC<|nQ<|sR ?_;refine zU ?_
    iterate 4 refine rS ?_
    refine rQ iT ?_;refine zO<|sR ?_;refine zU ?_;refine rX<|nR ?_;refine rC<|zT<|ba<|fD<|bT<|zB ?_
    exact⟨trivial,[],lg ⟨⟨_,rfl,nil_arr _ _⟩,rfl,trivial⟩ ⟨zR,trivial⟩⟩
   ·have hd:decide (Lib.indexByte hexD c<0)=false:=dF hneg
    refine sR<|aN (eW rfl rfl (by omega)) rfl ?_;refine rC<|nQ ?_;refine wV<|kS<|zS ?_;refine zD<|nR ?_;refine zD ?_;refine rQ (ea (l:=s) (m:=0) aa rfl rfl rfl hc) ?_;refine rQ (ak hib rfl rfl (aj (aj ae)) (.inl rfl) (fun _=>rfl)) ?_;refine rC<|nQ<|sR ?_;refine zU ?_;refine rO ?_;refine rC ?_;refine rO ?_;refine rQ (dB aa rfl rfl) ?_;refine rO ?_;refine rQ (bn (a:=s.length) (b:=2) aa rfl rfl rfl (by decide)) ?_;refine rO ?_;refine rC ?_;refine rQ iF ?_;refine zI<|sR ?_;refine zU ?_;refine rX<|nR ?_;refine rC<|zT<|ba<|fD<|bT<|zB ?_
    exact⟨trivial,[],lg ⟨⟨_,rfl,nil_arr _ _⟩,rfl,trivial⟩ ⟨zR,trivial⟩⟩
  have hm:s.length=2*(s.length/2):=by omega
  obtain⟨m,hm2⟩:∃m,m=s.length/2:=⟨_,rfl⟩
  rw[←hm2]at hm
  have hr:decide (((s.length % 2:Nat):Int)=1)=false:=dF (by omega)
  refine wc_inv (fun i:Nat=>⟨[(16,.ptr 66 []),(4,.own 65 0 (s.length/2) 1 none),(3,.d (strD s)),(0,.ptr 0 [])],[(65,some (.ds 5 1 true bp (uX m s i))),(66,some (.si (mkS s) i)),(0,some (rdB r b))],72,Tryz.f70.ntmps,64⟩) (fun i=>i≤s.length∧∀c∈s.take i,0≤Lib.indexByte hexD c) (fun i=>s.length-i) 0 [(65,some 136),(66,some 160)] ⟨Nat.zero_le _,by simp⟩
   (lg zi ⟨⟨rfl,rfl,_,rfl,aE.of_eq (by rw[kQ,hm2]; rfl)⟩,zR,zR,trivial⟩) ?_
  rintro i ⟨hi,hdig⟩
  refine bv ?_
  by_cases hlt:i<s.length
  ·obtain⟨c,hc⟩:∃c,s[i]?=some c:=⟨_,List.getElem?_eq_getElem hlt⟩
   have hib:FnIs Tryz.prog 94 [.d (strD hexD),.int .u8 c.toNat] [] (.int .i64 (Lib.indexByte hexD c)) []:=by
    have:=pu (l:=hexD) (c:=(c.toNat:Int))
    rwa [show ((c.toNat:Int)).toNat.toUInt8=c by simp]at this
   by_cases hneg:Lib.indexByte hexD c<0
   ·have hd:=dT hneg
    refine sR<|aN (eW rfl rfl (by omega)) rfl ?_;refine rC<|nQ ?_;refine wV<|kS<|zS ?_;refine zD<|nR ?_;refine zD ?_;refine rQ (ea (l:=s) (m:=i) aa rfl rfl rfl hc) ?_;refine rQ (ak hib rfl rfl (aj (aj ae)) (.inl rfl) (fun _=>rfl)) ?_;refine rC<|nQ<|sR ?_;refine zU ?_
    iterate 4 refine rS ?_
    refine rQ iT ?_;refine zO<|sR ?_;refine zU ?_;refine rX<|nR ?_;refine rC<|zT<|ba<|fD<|bT<|zB ?_
    exact⟨trivial,[],lg ⟨⟨_,rfl,nil_arr _ _⟩,rfl,trivial⟩ ⟨zR,trivial⟩⟩
   ·have hd:decide (Lib.indexByte hexD c<0)=false:=dF hneg
    obtain⟨x,hx1,hx2,hx3⟩:=kR hc hm
    replace hx2:(uX m s i)[(((i/2:Nat):Int)).toNat]?=some (x:Int):=by rw[Int.toNat_natCast]; exact hx2
    have hn16:=gz c
    have hwi:IntKind.i64.wrap ((i/2:Nat):Int)=((i/2:Nat):Int):=aI (by omega) (by omega)
    have hw2:IntKind.u8.wrap (Lib.indexByte hexD c)=(nibV c:Int):=by
     rw[show Lib.indexByte hexD c=(nibV c:Int) by unfold nibV; omega]
     exact cG (by omega)
    have hlow:=gH (i:=i) hc (jF (by omega))
    refine sR<|aN (eW rfl rfl (by omega)) rfl ?_;refine rC<|nQ ?_;refine wV<|kS<|zS ?_;refine zD<|nR ?_;refine zD ?_;refine rQ (ea (l:=s) (m:=i) aa rfl rfl rfl hc) ?_;refine rQ (ak hib rfl rfl (aj (aj ae)) (.inl rfl) (fun _=>rfl)) ?_;refine rC<|nQ<|sR ?_;refine zU ?_;refine rO ?_;refine rC ?_;refine rO ?_;refine rQ (dB aa rfl rfl) ?_;refine rO ?_;refine rQ (bn (a:=s.length) (b:=2) aa rfl rfl rfl (by decide)) ?_;refine rO ?_;refine rC ?_;refine rQ iF ?_;refine zG<|kS<|ao ?_;refine zD ?_;refine rQ (ct (a:=i) (b:=2) aa rfl rfl rfl (by decide) hwi) ?_;refine zD ?_;refine rQ (ct (a:=i) (b:=2) aa rfl rfl rfl (by decide) hwi) ?_;refine rQ (aP aa rfl rfl rfl rfl rfl (by omega) (by omega)) ?_;refine rQ (bM aa rfl rfl ⟨rfl,(x:Int),hx2,_,rfl,rfl⟩ rfl) ?_;refine rQ (x7 (a:=x) rfl rfl hx1) ?_;refine rC ?_;refine rQ (bg (m:=(nibV c:Int)) aa rfl rfl rfl hw2) ?_;refine rQ (x9 (a:=x) (b:=nibV c) aa rfl rfl hx1 hn16) ?_;refine rQ (aP aa rfl rfl rfl rfl rfl (by omega) (by omega)) ?_;refine aW (aF aa rfl rfl rfl ⟨rfl,(x:Int),((x*16+nibV c:Nat):Int),hx2,⟨rfl,rfl,rfl⟩,rfl⟩ rfl)<|aB<|ew ?_
    exact aY (i+1) [] ⟨hlt,fun y hy=>by rw[List.take_add_one,hc]at hy; rcases List.mem_append.1 hy with hy | hy; exact hdig y hy; rw[show y=c by simpa using hy]; omega⟩ (by omega) (lg zi ⟨⟨rfl,rfl,_,rfl,aE.of_eq (congrArg (Row.ds 5 1 true bp) hx3)⟩,⟨rfl,rfl,_,rfl,aE.of_eq (by rw[hlow]; rfl)⟩,zR,trivial⟩)
  ·exfalso
   have he:i=s.length:=by omega
   rw[he,List.take_length]at hdig
   obtain⟨t,h1,h2⟩:=gx s (by omega) hdig
   rw[bQ,if_neg h45,if_neg hs,h1]at hnone
   cases hnone
 ·rintro⟨hev,hs,hall⟩
  have hpos:0<s.length:=List.length_pos_iff.2 hs
  have hm:s.length=2*(s.length/2):=by omega
  have hrep:s.length/2-(s.length+1)/2=0:=by omega
  obtain⟨m,hm2⟩:∃m,m=s.length/2:=⟨_,rfl⟩
  rw[←hm2]at hm hrep
  have hr:decide (((s.length % 2:Nat):Int)=1)=false:=dF (by omega)
  have hz:decide (((s.length/2:Nat):Int)=0)=false:=dF (by omega)
  refine aw aa Tryz.func70 rfl rfl rfl ?_;refine sR<|rC<|nR ?_;refine rC ?_;refine aJ (aO [(0,some 0)] hn rfl rfl rfl (aK rfl rfl ae) ⟨zH,trivial⟩ rfl rfl (.inl rfl) rfl rfl) rfl ?_;refine rC<|zW ?_;refine rC ?_;refine rQ (dS (a:=s) (b:=[45]) aa rfl rfl rfl) ?_;refine zG<|kS<|sR ?_;refine rC ?_;refine rQ (dB aa rfl rfl) ?_;refine rQ (ct (a:=s.length) (b:=2) aa rfl rfl rfl (by decide) hwl) ?_;refine aN (da (enc:=bp) (s:=1) (N:=s.length/2) aa 0 rfl rfl rfl rfl rfl rfl rfl hN rfl) rfl ?_;refine rC<|zW ?_;refine rC ?_;refine aN (gj aa rfl rfl) rfl<|zP ?_
  refine wc_inv (fun i:Nat=>⟨[(16,.ptr 66 []),(4,.own 65 0 (s.length/2) 1 none),(3,.d (strD s)),(0,.ptr 0 [])],[(65,some (.ds 5 1 true bp (uX m s i))),(66,some (.si (mkS s) i)),(0,some (rdB r b))],72,Tryz.f70.ntmps,64⟩) (fun i=>i≤s.length∧∀c∈s.take i,0≤Lib.indexByte hexD c) (fun i=>s.length-i) 0 [(65,some 136),(66,some 160)] ⟨Nat.zero_le _,by simp⟩
   (lg zi ⟨⟨rfl,rfl,_,rfl,aE.of_eq (by rw[kQ,hm2]; rfl)⟩,zR,zR,trivial⟩) ?_
  rintro i ⟨hi,hdig⟩
  refine bv ?_
  by_cases hlt:i<s.length
  ·obtain⟨c,hc⟩:∃c,s[i]?=some c:=⟨_,List.getElem?_eq_getElem hlt⟩
   have hib:FnIs Tryz.prog 94 [.d (strD hexD),.int .u8 c.toNat] [] (.int .i64 (Lib.indexByte hexD c)) []:=by
    have:=pu (l:=hexD) (c:=(c.toNat:Int))
    rwa [show ((c.toNat:Int)).toNat.toUInt8=c by simp]at this
   have hneg:¬Lib.indexByte hexD c<0:=by have:=hall c (List.mem_of_getElem? hc); omega
   have hd:decide (Lib.indexByte hexD c<0)=false:=dF hneg
   obtain⟨x,hx1,hx2,hx3⟩:=kR hc hm
   replace hx2:(uX m s i)[(((i/2:Nat):Int)).toNat]?=some (x:Int):=by rw[Int.toNat_natCast]; exact hx2
   have hn16:=gz c
   have hwi:IntKind.i64.wrap ((i/2:Nat):Int)=((i/2:Nat):Int):=aI (by omega) (by omega)
   have hw2:IntKind.u8.wrap (Lib.indexByte hexD c)=(nibV c:Int):=by
    rw[show Lib.indexByte hexD c=(nibV c:Int) by unfold nibV; omega]
    exact cG (by omega)
   have hlow:=gH (i:=i) hc (jF (by omega))
   refine sR<|aN (eW rfl rfl (by omega)) rfl ?_;refine rC<|nQ ?_;refine wV<|kS<|zS ?_;refine zD<|nR ?_;refine zD ?_;refine rQ (ea (l:=s) (m:=i) aa rfl rfl rfl hc) ?_;refine rQ (ak hib rfl rfl (aj (aj ae)) (.inl rfl) (fun _=>rfl)) ?_;refine rC<|nQ<|sR ?_;refine zU ?_;refine rO ?_;refine rC ?_;refine rO ?_;refine rQ (dB aa rfl rfl) ?_;refine rO ?_;refine rQ (bn (a:=s.length) (b:=2) aa rfl rfl rfl (by decide)) ?_;refine rO ?_;refine rC ?_;refine rQ iF ?_;refine zG<|kS<|ao ?_;refine zD ?_;refine rQ (ct (a:=i) (b:=2) aa rfl rfl rfl (by decide) hwi) ?_;refine zD ?_;refine rQ (ct (a:=i) (b:=2) aa rfl rfl rfl (by decide) hwi) ?_;refine rQ (aP aa rfl rfl rfl rfl rfl (by omega) (by omega)) ?_;refine rQ (bM aa rfl rfl ⟨rfl,(x:Int),hx2,_,rfl,rfl⟩ rfl) ?_;refine rQ (x7 (a:=x) rfl rfl hx1) ?_;refine rC ?_;refine rQ (bg (m:=(nibV c:Int)) aa rfl rfl rfl hw2) ?_;refine rQ (x9 (a:=x) (b:=nibV c) aa rfl rfl hx1 hn16) ?_;refine rQ (aP aa rfl rfl rfl rfl rfl (by omega) (by omega)) ?_;refine aW (aF aa rfl rfl rfl ⟨rfl,(x:Int),((x*16+nibV c:Nat):Int),hx2,⟨rfl,rfl,rfl⟩,rfl⟩ rfl)<|aB<|ew ?_
   exact aY (i+1) [] ⟨hlt,fun y hy=>by rw[List.take_add_one,hc]at hy; rcases List.mem_append.1 hy with hy | hy; exact hdig y hy; rw[show y=c by simpa using hy]; omega⟩ (by omega) (lg zi ⟨⟨rfl,rfl,_,rfl,aE.of_eq (congrArg (Row.ds 5 1 true bp) hx3)⟩,⟨rfl,rfl,_,rfl,aE.of_eq (by rw[hlow]; rfl)⟩,zR,trivial⟩)
  ·have he:i=s.length:=by omega
   subst he
   cases b with
   | false =>
    refine sR<|rQ (jx rfl rfl (by omega)) ?_;refine rC<|nQ ?_;refine wG<|dA<|gg<|eJ<|gq<|aU<|sR ?_;iterate 4 refine rC ?_
    refine rQ iB ?_;refine rC ?_;refine rP ?_;refine rC ?_;refine rP ?_;refine rQ (bq aa rfl rfl) ?_;refine rP ?_;refine rC ?_;refine rQ iG ?_;refine zD ?_;refine rX<|nR ?_;refine zD<|zT ?_
    exact⟨trivial,[(64,some 65)],lg zV ⟨⟨rfl,rfl,_,rfl,aE.of_eq (by rw[hz]; rfl)⟩,⟨rfl,rfl,_,rfl,aE.of_eq (by simp only[uX,List.take_length,hrep]; simp; rfl)⟩,trivial⟩⟩
   | true =>
    refine sR<|rQ (jx rfl rfl (by omega)) ?_;refine rC<|nQ ?_;refine wG<|dA<|gg<|eJ<|gq<|aU<|sR ?_;iterate 4 refine rC ?_
    refine rQ iB ?_;refine rC ?_;iterate 3 refine rT ?_
    refine rQ iU ?_;refine zD ?_;refine rX<|nR ?_;refine zD<|zT ?_
    exact⟨trivial,[(64,some 65)],lg zV ⟨zR,⟨rfl,rfl,_,rfl,aE.of_eq (by simp only[uX,List.take_length,hrep]; simp; rfl)⟩,trivial⟩⟩
theorem nE (ws:List (List UInt8)) (bad:Bool) (hl:∀w∈ws,w.length≤1048576):FnIs Tryz.prog 70 [.ptr 0 []] [(0,rdB ws bad)] (.d (encB (byt ws bad).1)) [(0,rdB (byt ws bad).2.1 (byt ws bad).2.2)]:=by
 have hL:=(fU (bad:=bad) hl).1
 unfold byt
 obtain⟨⟨s,r,b⟩,hx⟩:∃x,nx ws bad=x:=⟨_,rfl⟩
 rw[hx]at hL ⊢
 simp only at hL ⊢
 by_cases h45:s=[45]
 ·have:=pP s r b ws bad hx h45
  unfold p9 at this
  rw[if_neg (by simp)]at this
  rw[show bQ s=some [] by rw[h45]; rfl]
  exact this
 obtain⟨g0,g1,g2⟩:=rn s r b ws bad hx h45 hL
 cases hu:bQ s with
 | none =>
  by_cases hs:s=[]
  ·have:=(g0 hs).freeze_out (rows':=[(0,rdB r true)]) 64 _ rfl (Frz.own (by simp)) ⟨⟨rfl,_,rfl,.refl _⟩,trivial⟩
   rw[show List.replicate (s.length/2) (0:Int)=byI [] by rw[hs]; rfl]at this
   exact this
  ·exact g1 hs hu
 | some d =>
  have hs:s≠[]:=fun e=>by rw[bQ,if_neg h45,if_pos e]at hu; cases hu
  have hp:eG s=some d:=by rwa [bQ,if_neg h45,if_neg hs]at hu
  have hev:s.length % 2=0:=by have:=j2 s d hp; omega
  have hall:∀c∈s,0≤Lib.indexByte hexD c:=fun c hc=>by
   by_cases hneg:Lib.indexByte hexD c<0
   ·rw[j3 s c hc hneg]at hp; cases hp
   ·omega
  obtain⟨t,h1,h2⟩:=gx s hev hall
  rw[hp]at h1
  cases h1
  have:=g2 ⟨hev,hs,hall⟩
  rw[←h2]at this
  exact this.freeze_out (rows':=[(0,rdB r b)]) 64 _ rfl (Frz.own (by rw[h2,nZ]; omega)) ⟨⟨rfl,_,rfl,.refl _⟩,trivial⟩
abbrev rowC (c:SCfg) (R:D):Row :=.box 38 (.d (.cons (bt c) R))
theorem xp (B:Nat) (b:Bool):nmb B [] b=(0,[],true):=rfl
theorem c7 {B n:Nat} {w:List UInt8} {r:List (List UInt8)} {b:Bool} (h:numS B w=some n):nmb B (w::r) b=(n,r,b):=by simp only[nmb,nx,h]
theorem vm {B:Nat} {w:List UInt8} {r:List (List UInt8)} {b:Bool} (h:numS B w=none):nmb B (w::r) b=(0,r,true):=by simp only[nmb,nx,h]
theorem iv {B:Nat} {ws:List (List UInt8)} {bad:Bool} {n:Nat} (h:∀w∈ws,w.length≤n):∀w∈(nmb B ws bad).2.1,w.length≤n:=by
 have:=(fU (bad:=bad) h).2
 unfold nmb
 split <;> exact this
theorem gb {t:List UInt8} (h:t.length≤1048576):∀w∈aL t 32,w.length≤1048576:=fun w hw=>Nat.le_trans (de t 32 w hw) h
def endB (x:List (List UInt8)×Bool):Bool := !x.2&&decide (x.1=[])
abbrev fZ (i:Nat) (t:List UInt8) (c:SCfg) (R:D) (res:Bool) (c':SCfg):Prop:=FnIs Tryz.prog 50 [.int .i64 i,.d (strD t),.ptr 0 [.fld 0 0]] [(0,rowC c R)] (.bool res) [(0,rowC c' R)]
theorem yM (t:List UInt8) (c:SCfg) (R:D) (ht:t.length≤1048576) (r0 r1 r2 r3 r4:List (List UInt8)) (b0 b1 b2 b3 b4:Bool) (n1 n2 n3 n4:Nat) (e0:(nx (aL t 32) false).2.1=r0) (f0:wd bw (aL t 32) false=b0)
  (e1:nmb 31 r0 b0=(n1,r1,b1)) (e2:nmb 31 r1 b1=(n2,r2,b2)) (e3:nmb 31 r2 b2=(n3,r3,b3)) (e4:nmb 31 r3 b3=(n4,r4,b4)) :
  fZ 0 t c R (endB (r4,b4)) { c with blocks:=n1,shards:=n2,frames:=n3,clients:=n4 }:=by
 have hsp:=cP (l:=t) (c:=32) (by omega)
 have q0:=gb ht
 have g0:∀w∈r0,w.length≤1048576:=by rw[←e0]; exact (fU q0).2
 have g1:∀w∈r1,w.length≤1048576:=by have:=iv (B:=31) (bad:=b0) g0; rw[e1]at this; exact this
 have g2:∀w∈r2,w.length≤1048576:=by have:=iv (B:=31) (bad:=b1) g1; rw[e2]at this; exact this
 have g3:∀w∈r3,w.length≤1048576:=by have:=iv (B:=31) (bad:=b2) g2; rw[e3]at this; exact this
 have w0:=js bw (aL t 32) false
 have c1:=dR r0 b0 g0
 have c2:=dR r1 b1 g1
 have c3:=dR r2 b2 g2
 have c4:=dR r3 b3 g3
 rw[e0,f0]at w0
 rw[e1]at c1
 rw[e2]at c2
 rw[e3]at c3
 rw[e4]at c4
 have ce:=gm r4 b4
 have d0:decide ((0:Int)=0)=true:=rfl
 refine aw aa Tryz.func50 rfl rfl rfl ?_;refine sR<|rC<|nR ?_;refine rC ?_;refine rQ (ak hsp rfl rfl (aj (aj ae)) (.inl rfl) (fun _=>rfl)) ?_;refine rQ iS ?_;refine rN ?_;refine rC<|zW ?_;refine rC<|zP<|sR ?_;refine zD ?_;refine zO<|sR ?_;refine rC ?_;refine aJ (aO [(0,some _)] w0 rfl rfl rfl (aK rfl rfl (aj ae)) ⟨zH,trivial⟩ rfl rfl (.inl rfl) rfl rfl) rfl<|nS<|ao ?_;iterate 5 refine rC ?_
 refine aJ (aO [(0,some _)] c1 rfl rfl rfl (aK rfl rfl ae) ⟨zH,trivial⟩ rfl rfl (.inl rfl) rfl rfl) rfl ?_;refine rC ?_;refine aJ (aO [(0,some _)] c2 rfl rfl rfl (aK rfl rfl ae) ⟨zH,trivial⟩ rfl rfl (.inl rfl) rfl rfl) rfl ?_;refine rC ?_;refine aJ (aO [(0,some _)] c3 rfl rfl rfl (aK rfl rfl ae) ⟨zH,trivial⟩ rfl rfl (.inl rfl) rfl rfl) rfl ?_;refine rC ?_;refine aJ (aO [(0,some _)] c4 rfl rfl rfl (aK rfl rfl ae) ⟨zH,trivial⟩ rfl rfl (.inl rfl) rfl rfl) rfl ?_;refine zD ?_;refine aW (aF aa rfl rfl rfl ⟨_,⟨_,⟨_,⟨_,⟨rfl,rfl,rfl⟩,rfl⟩,rfl⟩,rfl⟩,rfl⟩ rfl) ?_;refine zD ?_;refine aW (aF aa rfl rfl rfl ⟨_,⟨_,⟨_,⟨_,⟨rfl,rfl,rfl⟩,rfl⟩,rfl⟩,rfl⟩,rfl⟩ rfl) ?_;refine zD ?_;refine aW (aF aa rfl rfl rfl ⟨_,⟨_,⟨_,⟨_,⟨rfl,rfl,rfl⟩,rfl⟩,rfl⟩,rfl⟩,rfl⟩ rfl) ?_;refine zD ?_;refine aW (aF aa rfl rfl rfl ⟨_,⟨_,⟨_,⟨_,⟨rfl,rfl,rfl⟩,rfl⟩,rfl⟩,rfl⟩,rfl⟩ rfl)<|aB<|zC<|sR ?_;refine rC ?_;refine aJ (aO [(0,some _)] ce rfl rfl rfl (aK rfl rfl ae) ⟨zH,trivial⟩ rfl rfl (.inl rfl) rfl rfl) rfl ?_;refine rC<|zT ?_
 exact⟨trivial,[],lg zV ⟨zR,trivial⟩⟩
theorem yL (t:List UInt8) (c:SCfg) (R:D) (ht:t.length≤1048576) (r0 r1 r2:List (List UInt8)) (b0 b1 b2:Bool) (n1 n2:Nat) (e0:(nx (aL t 32) false).2.1=r0) (f0:wd bI (aL t 32) false=b0)
  (e1:nmb 64 r0 b0=(n1,r1,b1)) (e2:nmb 64 r1 b1=(n2,r2,b2)):fZ 1 t c R (endB (r2,b2)) { c with limit:=n1,reserve:=n2 }:=by
 have hsp:=cP (l:=t) (c:=32) (by omega)
 have q0:=gb ht
 have g0:∀w∈r0,w.length≤1048576:=by rw[←e0]; exact (fU q0).2
 have g1:∀w∈r1,w.length≤1048576:=by have:=iv (B:=64) (bad:=b0) g0; rw[e1]at this; exact this
 have w0:=js bI (aL t 32) false
 have c1:=gy 64 (by decide) r0 b0 (rL (by have:=(fU (bad:=b0) g0).1; omega))
 have c2:=gy 64 (by decide) r1 b1 (rL (by have:=(fU (bad:=b1) g1).1; omega))
 rw[e0,f0]at w0
 rw[e1]at c1
 rw[e2]at c2
 have ce:=gm r2 b2
 have d0:decide ((1:Int)=0)=false:=rfl
 have d1:decide ((1:Int)=1)=true:=rfl
 refine aw aa Tryz.func50 rfl rfl rfl ?_;refine sR<|rC<|nR ?_;refine rC ?_;refine rQ (ak hsp rfl rfl (aj (aj ae)) (.inl rfl) (fun _=>rfl)) ?_;refine rQ iS ?_;refine rN ?_;refine rC<|zW ?_;refine rC<|zP<|sR ?_;refine zD ?_;refine zJ<|sR ?_;refine zD ?_;refine zO<|sR ?_;refine rC ?_;refine aJ (aO [(0,some _)] w0 rfl rfl rfl (aK rfl rfl (aj ae)) ⟨zH,trivial⟩ rfl rfl (.inl rfl) rfl rfl) rfl<|nS<|ao ?_;refine zU ?_;refine aJ (aO [(0,some _)] c1 rfl rfl rfl (aK rfl rfl (aj ae)) ⟨zH,trivial⟩ rfl rfl (.inl rfl) rfl rfl) rfl ?_;refine rC ?_;refine aJ (aO [(0,some _)] c2 rfl rfl rfl (aK rfl rfl (aj ae)) ⟨zH,trivial⟩ rfl rfl (.inl rfl) rfl rfl) rfl ?_;refine zD ?_;refine aW (aF aa rfl rfl rfl ⟨_,⟨_,⟨_,⟨_,⟨rfl,rfl,rfl⟩,rfl⟩,rfl⟩,rfl⟩,rfl⟩ rfl) ?_;refine zD ?_;refine aW (aF aa rfl rfl rfl ⟨_,⟨_,⟨_,⟨_,⟨rfl,rfl,rfl⟩,rfl⟩,rfl⟩,rfl⟩,rfl⟩ rfl)<|aB<|zC<|sR ?_;refine rC ?_;refine aJ (aO [(0,some _)] ce rfl rfl rfl (aK rfl rfl ae) ⟨zH,trivial⟩ rfl rfl (.inl rfl) rfl rfl) rfl ?_;refine rC<|zT ?_
 exact⟨trivial,[],lg zV ⟨zR,trivial⟩⟩
theorem yK (t:List UInt8) (c:SCfg) (R:D) (ht:t.length≤1048576) (r0 r1:List (List UInt8)) (b0 b1:Bool) (n1:Nat) (e0:(nx (aL t 32) false).2.1=r0) (f0:wd cB (aL t 32) false=b0)
  (e1:nmb 8 r0 b0=(n1,r1,b1)):fZ 2 t c R (endB (r1,b1)) { c with flaw:=n1 }:=by
 have hsp:=cP (l:=t) (c:=32) (by omega)
 have q0:=gb ht
 have g0:∀w∈r0,w.length≤1048576:=by rw[←e0]; exact (fU q0).2
 have w0:=js cB (aL t 32) false
 have c1:=gy 8 (by decide) r0 b0 (yw (by have:=(fU (bad:=b0) g0).1; omega))
 rw[e0,f0]at w0
 have hlt:=vo (B:=8) (ws:=r0) (bad:=b0)
 rw[e1]at c1 hlt
 have hw:IntKind.u8.wrap (n1:Int)=(n1:Int):=cG (by simpa using hlt)
 have ce:=gm r1 b1
 have d0:decide ((2:Int)=0)=false:=rfl
 have d1:decide ((2:Int)=1)=false:=rfl
 have d2:decide ((2:Int)=2)=true:=rfl
 refine aw aa Tryz.func50 rfl rfl rfl ?_;refine sR<|rC<|nR ?_;refine rC ?_;refine rQ (ak hsp rfl rfl (aj (aj ae)) (.inl rfl) (fun _=>rfl)) ?_;refine rQ iS ?_;refine rN ?_;refine rC<|zW ?_;refine rC<|zP<|sR ?_;refine zD ?_;refine zJ<|sR ?_;refine zD ?_;refine zJ<|sR ?_;refine zD ?_;refine zO<|sR ?_;refine rC ?_;refine aJ (aO [(0,some _)] w0 rfl rfl rfl (aK rfl rfl (aj ae)) ⟨zH,trivial⟩ rfl rfl (.inl rfl) rfl rfl) rfl<|nS<|ao ?_;refine zD ?_;refine aJ (aO [(0,some _)] c1 rfl rfl rfl (aK rfl rfl (aj ae)) ⟨zH,trivial⟩ rfl rfl (.inl rfl) rfl rfl) rfl ?_;refine rQ (bg (m:=(n1:Int)) aa rfl rfl rfl hw) ?_;refine zD ?_;refine aW (aF aa rfl rfl rfl ⟨_,⟨_,⟨_,⟨_,⟨rfl,rfl,rfl⟩,rfl⟩,rfl⟩,rfl⟩,rfl⟩ rfl)<|aB<|zC<|sR ?_;refine rC ?_;refine aJ (aO [(0,some _)] ce rfl rfl rfl (aK rfl rfl ae) ⟨zH,trivial⟩ rfl rfl (.inl rfl) rfl rfl) rfl ?_;refine rC<|zT ?_
 exact⟨trivial,[],lg zV ⟨zR,trivial⟩⟩
theorem yJ (t:List UInt8) (c:SCfg) (R:D) (ht:t.length≤1048576) (r0 r1:List (List UInt8)) (b0 b1:Bool) (m:List UInt8) (e0:(nx (aL t 32) false).2.1=r0) (f0:wd bD (aL t 32) false=b0)
  (e1:byt r0 b0=(m,r1,b1)):if m.length=32 then fZ 3 t c R (endB (r1,b1)) { c with master:=m } else fZ 3 t c R false c:=by
 have hsp:=cP (l:=t) (c:=32) (by omega)
 have q0:=gb ht
 have g0:∀w∈r0,w.length≤1048576:=by rw[←e0]; exact (fU q0).2
 have w0:=js bD (aL t 32) false
 have c1:=nE r0 b0 g0
 rw[e0,f0]at w0
 rw[e1]at c1
 have ce:=gm r1 b1
 have d0:decide ((3:Int)=0)=false:=rfl
 have d1:decide ((3:Int)=1)=false:=rfl
 have d2:decide ((3:Int)=2)=false:=rfl
 have d3:decide ((3:Int)=3)=true:=rfl
 by_cases hm:m.length=32
 ·rw[if_pos hm]
  have hl32:(byI m).length=32:=by rw[ch,hm]
  have hd:(!decide (((byI m).length:Int)=32))=false:=by rw[hl32]; rfl
  refine aw aa Tryz.func50 rfl rfl rfl ?_;refine sR<|rC<|nR ?_;refine rC ?_;refine rQ (ak hsp rfl rfl (aj (aj ae)) (.inl rfl) (fun _=>rfl)) ?_;refine rQ iS ?_;refine rN ?_;refine rC<|zW ?_;refine rC<|zP<|sR ?_;refine zD ?_;refine zJ<|sR ?_;refine zD ?_;refine zJ<|sR ?_;refine zD ?_;refine zJ<|sR ?_;refine zD ?_;refine zO<|sR ?_;refine rC ?_;refine aJ (aO [(0,some _)] w0 rfl rfl rfl (aK rfl rfl (aj ae)) ⟨zH,trivial⟩ rfl rfl (.inl rfl) rfl rfl) rfl<|nR ?_;refine rC ?_;refine aJ (aO [(0,some _)] c1 rfl rfl rfl (aK rfl rfl ae) ⟨zH,trivial⟩ rfl rfl (.inl rfl) rfl rfl) rfl ?_;refine rC<|zW ?_;refine rC ?_;refine rQ iE ?_;refine rC ?_;refine zG<|kS<|ao ?_;refine zU ?_;refine rQ (sX aa rfl rfl rfl) ?_;refine rC ?_;refine aN (wc (enc:=bp) (s:=1) (ys:=byI m) aa rfl rfl rfl rfl rfl rfl rfl hl32 rfl ⟨_,⟨_,⟨_,⟨_,⟨rfl,rfl,rfl⟩,rfl⟩,rfl⟩,rfl⟩,rfl⟩) rfl<|aB<|zC<|sR ?_;refine rC ?_;refine aJ (aO [(0,some _)] ce rfl rfl rfl (aK rfl rfl ae) ⟨zH,trivial⟩ rfl rfl (.inl rfl) rfl rfl) rfl ?_;refine rC<|zT ?_
  exact⟨trivial,[],lg zV ⟨zR,trivial⟩⟩
 ·rw[if_neg hm]
  have hd:(!decide (((byI m).length:Int)=32))=true:=by rw[ch,dF (by omega)]; rfl
  refine aw aa Tryz.func50 rfl rfl rfl ?_;refine sR<|rC<|nR ?_;refine rC ?_;refine rQ (ak hsp rfl rfl (aj (aj ae)) (.inl rfl) (fun _=>rfl)) ?_;refine rQ iS ?_;refine rN ?_;refine rC<|zW ?_;refine rC<|zP<|sR ?_;refine zD ?_;refine zJ<|sR ?_;refine zD ?_;refine zJ<|sR ?_;refine zD ?_;refine zJ<|sR ?_;refine zD ?_;refine zO<|sR ?_;refine rC ?_;refine aJ (aO [(0,some _)] w0 rfl rfl rfl (aK rfl rfl (aj ae)) ⟨zH,trivial⟩ rfl rfl (.inl rfl) rfl rfl) rfl<|nR ?_;refine rC ?_;refine aJ (aO [(0,some _)] c1 rfl rfl rfl (aK rfl rfl ae) ⟨zH,trivial⟩ rfl rfl (.inl rfl) rfl rfl) rfl ?_;refine rC<|zW ?_;refine rC ?_;refine rQ iE ?_;refine rC ?_;refine zI<|sR ?_;refine rC<|zT<|ba<|zB ?_
  exact⟨trivial,[],lg zV ⟨zR,trivial⟩⟩
theorem yI (t:List UInt8) (c:SCfg) (R:D) (ht:t.length≤1048576) (r0:List (List UInt8)) (b0:Bool) (e0:(nx (aL t 32) false).2.1=r0) (f0:wd bj (aL t 32) false=b0):fZ 4 t c R (endB (r0,b0)) c:=by
 have hsp:=cP (l:=t) (c:=32) (by omega)
 have w0:=js bj (aL t 32) false
 rw[e0,f0]at w0
 have ce:=gm r0 b0
 have d0:decide ((4:Int)=0)=false:=rfl
 have d1:decide ((4:Int)=1)=false:=rfl
 have d2:decide ((4:Int)=2)=false:=rfl
 have d3:decide ((4:Int)=3)=false:=rfl
 refine aw aa Tryz.func50 rfl rfl rfl ?_;refine sR<|rC<|nR ?_;refine rC ?_;refine rQ (ak hsp rfl rfl (aj (aj ae)) (.inl rfl) (fun _=>rfl)) ?_;refine rQ iS ?_;refine rN ?_;refine rC<|zW ?_;refine rC<|zP<|sR ?_;refine zD ?_;refine zJ<|sR ?_;refine zD ?_;refine zJ<|sR ?_;refine zD ?_;refine zJ<|sR ?_;refine zD ?_;refine zJ<|ao ?_;refine rC ?_;refine aJ (aO [(0,some _)] w0 rfl rfl rfl (aK rfl rfl (aj ae)) ⟨zH,trivial⟩ rfl rfl (.inl rfl) rfl rfl) rfl<|aB<|zC<|sR ?_;refine rC ?_;refine aJ (aO [(0,some _)] ce rfl rfl rfl (aK rfl rfl ae) ⟨zH,trivial⟩ rfl rfl (.inl rfl) rfl rfl) rfl ?_;refine rC<|zT ?_
 exact⟨trivial,[],lg zV ⟨zR,trivial⟩⟩
end Go.Proofs.YtpmhnpnmpjimnaaGreatDoor
namespace Go.Proofs.YtpmhnpnmpjimnaaGreatDoor
open Go.Eng Go.Plain
set_option maxHeartbeats 32000000
set_option maxRecDepth 20000
theorem dZ {B n:Nat} {r r':List (List UInt8)} {b:Bool} (h:nmb B r b=(n,r',false)):∃w,r=w::r'∧b=false∧numS B w=some n:=by
 cases r with
 | nil=>rw[xp]at h; cases h
 | cons w r =>
  cases hn:numS B w with
  | none=>rw[vm hn]at h; cases h
  | some k=>rw[c7 hn]at h; cases h; exact⟨w,rfl,rfl,hn⟩
theorem sE {m:List UInt8} {r r':List (List UInt8)} {b:Bool} (h:byt r b=(m,r',false)):∃w,r=w::r'∧b=false∧bQ w=some m:=by
 cases r with
 | nil=>cases h
 | cons w r =>
  cases hn:bQ w with
  | none=>simp only[byt,nx,hn]at h; cases h
  | some k=>simp only[byt,nx,hn]at h; cases h; exact⟨w,rfl,rfl,hn⟩
theorem mv {m w:List UInt8} {r:List (List UInt8)} {b:Bool} (h:bQ w=some m):byt (w::r) b=(m,r,b):=by simp only[byt,nx,h]
theorem lj {v:List UInt8} {ws r:List (List UInt8)} (h:(nx ws false).2.1=r) (hb:wd v ws false=false):ws=v::r:=by
 cases ws with
 | nil=>simp[wd,nx]at hb
 | cons w r' =>
  have h:r'=r:=h
  have hb:(if w=v then false else true)=false:=hb
  by_cases e:w=v
  ·rw[e,h]
  ·rw[if_neg e]at hb; cases hb
theorem ig (v:List UInt8) (r:List (List UInt8)):wd v (v::r) false=false:=by show (if v=v then false else true)=false; rw[if_pos rfl]
theorem dj {r:List (List UInt8)} {b:Bool} (h:endB (r,b)=true):r=[]∧b=false:=by
 cases b with
 | true=>cases h
 | false=>exact⟨by simpa[endB]using h,rfl⟩
theorem xE (i:Nat) (hi:i<5) (t:List UInt8) (c:SCfg) (R:D) (ht:t.length≤1048576):∃res c',fZ i t c R res c'∧fi i t c=if res=true then some c' else none:=by
 have key:∀(res:Bool) (c':SCfg),fZ i t c R res c'→(res=true→fi i t c=some c')→(∀d,fi i t c=some d→res=true)→∃res c',fZ i t c R res c'∧fi i t c=if res=true then some c' else none:=by
  intro res c' h1 h2 h3
  refine⟨res,c',h1,?_⟩
  cases res with
  | true=>rw[if_pos rfl]; exact h2 rfl
  | false =>
   rw[if_neg (by decide)]
   cases hq:fi i t c with
   | none=>rfl
   | some d=>have:=h3 d hq; cases this
 match i,hi,key with
 | 0,_,key =>
  obtain⟨⟨n1,r1,b1⟩,e1⟩:∃x,nmb 31 (nx (aL t 32) false).2.1 (wd bw (aL t 32) false)=x:=⟨_,rfl⟩
  obtain⟨⟨n2,r2,b2⟩,e2⟩:∃x,nmb 31 r1 b1=x:=⟨_,rfl⟩
  obtain⟨⟨n3,r3,b3⟩,e3⟩:∃x,nmb 31 r2 b2=x:=⟨_,rfl⟩
  obtain⟨⟨n4,r4,b4⟩,e4⟩:∃x,nmb 31 r3 b3=x:=⟨_,rfl⟩
  refine key _ _ (yM t c R ht _ r1 r2 r3 r4 _ b1 b2 b3 b4 n1 n2 n3 n4 rfl rfl e1 e2 e3 e4) (fun h=>?_) (fun d h=>?_)
  ·obtain⟨rfl,rfl⟩:=dj h
   obtain⟨w4,rfl,rfl,h4⟩:=dZ e4
   obtain⟨w3,rfl,rfl,h3⟩:=dZ e3
   obtain⟨w2,rfl,rfl,h2⟩:=dZ e2
   obtain⟨w1,hr,hb,h1⟩:=dZ e1
   have hs:=lj hr hb
   rw[qW,hs]
   simp only[hd0,if_pos,h1,h2,h3,h4]
  ·rw[qW]at h
   unfold hd0 at h
   split at h
   ·rename_i v x1 x2 x3 x4 hs
    split at h
    ·rename_i hv
     split at h
     ·rename_i m1 m2 m3 m4 g1 g2 g3 g4
      rw[hs,hv,ig]at e1
      rw[show (nx (bw::[x1,x2,x3,x4]) false).2.1=[x1,x2,x3,x4] from rfl,c7 g1]at e1
      cases e1
      rw[c7 g2]at e2
      cases e2
      rw[c7 g3]at e3
      cases e3
      rw[c7 g4]at e4
      cases e4
      rfl
     ·cases h
    ·cases h
   ·cases h
 | 1,_,key =>
  obtain⟨⟨n1,r1,b1⟩,e1⟩:∃x,nmb 64 (nx (aL t 32) false).2.1 (wd bI (aL t 32) false)=x:=⟨_,rfl⟩
  obtain⟨⟨n2,r2,b2⟩,e2⟩:∃x,nmb 64 r1 b1=x:=⟨_,rfl⟩
  refine key _ _ (yL t c R ht _ r1 r2 _ b1 b2 n1 n2 rfl rfl e1 e2) (fun h=>?_) (fun d h=>?_)
  ·obtain⟨rfl,rfl⟩:=dj h
   obtain⟨w2,rfl,rfl,h2⟩:=dZ e2
   obtain⟨w1,hr,hb,h1⟩:=dZ e1
   have hs:=lj hr hb
   rw[qV,hs]
   simp only[hd1,if_pos,h1,h2]
  ·rw[qV]at h
   unfold hd1 at h
   split at h
   ·rename_i v x1 x2 hs
    split at h
    ·rename_i hv
     split at h
     ·rename_i m1 m2 g1 g2
      rw[hs,hv,ig]at e1
      rw[show (nx (bI::[x1,x2]) false).2.1=[x1,x2] from rfl,c7 g1]at e1
      cases e1
      rw[c7 g2]at e2
      cases e2
      rfl
     ·cases h
    ·cases h
   ·cases h
 | 2,_,key =>
  obtain⟨⟨n1,r1,b1⟩,e1⟩:∃x,nmb 8 (nx (aL t 32) false).2.1 (wd cB (aL t 32) false)=x:=⟨_,rfl⟩
  refine key _ _ (yK t c R ht _ r1 _ b1 n1 rfl rfl e1) (fun h=>?_) (fun d h=>?_)
  ·obtain⟨rfl,rfl⟩:=dj h
   obtain⟨w1,hr,hb,h1⟩:=dZ e1
   have hs:=lj hr hb
   rw[qU,hs]
   simp only[hd2,if_pos,h1]
  ·rw[qU]at h
   unfold hd2 at h
   split at h
   ·rename_i v x1 hs
    split at h
    ·rename_i hv
     split at h
     ·rename_i m1 g1
      rw[hs,hv,ig]at e1
      rw[show (nx (cB::[x1]) false).2.1=[x1] from rfl,c7 g1]at e1
      cases e1
      rfl
     ·cases h
    ·cases h
   ·cases h
 | 3,_,key =>
  obtain⟨⟨m,r1,b1⟩,e1⟩:∃x,byt (nx (aL t 32) false).2.1 (wd bD (aL t 32) false)=x:=⟨_,rfl⟩
  have hh:=yJ t c R ht _ r1 _ b1 m rfl rfl e1
  by_cases hm:m.length=32
  ·rw[if_pos hm]at hh
   refine key _ _ hh (fun h=>?_) (fun d h=>?_)
   ·obtain⟨rfl,rfl⟩:=dj h
    obtain⟨w1,hr,hb,h1⟩:=sE e1
    have hs:=lj hr hb
    rw[og,hs]
    simp only[hd3,if_pos,h1,hm]
   ·rw[og]at h
    unfold hd3 at h
    split at h
    ·rename_i v x1 hs
     split at h
     ·rename_i hv
      split at h
      ·rename_i m1 g1
       rw[hs,hv,ig]at e1
       rw[show (nx (bD::[x1]) false).2.1=[x1] from rfl,mv g1]at e1
       cases e1
       rfl
      ·cases h
     ·cases h
    ·cases h
  ·rw[if_neg hm]at hh
   refine key _ _ hh (fun h=>by cases h) (fun d h=>?_)
   rw[og]at h
   unfold hd3 at h
   split at h
   ·rename_i v x1 hs
    split at h
    ·rename_i hv
     split at h
     ·rename_i m1 g1
      rw[hs,hv,ig]at e1
      rw[show (nx (bD::[x1]) false).2.1=[x1] from rfl,mv g1]at e1
      cases e1
      rw[if_neg hm]at h
      cases h
     ·cases h
    ·cases h
   ·cases h
 | 4,_,key =>
  refine key _ _ (yI t c R ht _ _ rfl rfl) (fun h=>?_) (fun d h=>?_)
  ·obtain⟨hr,hb⟩:=dj h
   have hs:=lj hr hb
   rw[qT,hs]
   simp only[hd4,if_pos]
  ·rw[qT]at h
   unfold hd4 at h
   split at h
   ·rename_i v hs
    split at h
    ·rename_i hv
     rw[hs,hv,ig]
     rfl
    ·cases h
   ·cases h
end Go.Proofs.YtpmhnpnmpjimnaaGreatDoor
namespace Go.Proofs.YtpmhnpnmpjimnaaGreatDoor
open Go.Eng Go.Plain
set_option maxHeartbeats 32000000
set_option maxRecDepth 20000
attribute [local irreducible] WC RegS RegD SeqQ BlkQ ScoQ RegK CutK Sat SatN FnIs LoopQ aq OpIs
abbrev jp (f:Nat) (ws:List (List UInt8)) (bad:Bool) (a:SAct) (x:List (List UInt8)×Bool):Prop:=FnIs Tryz.prog f [.ptr 0 []] [(0,rdB ws bad)] (.d (aX a)) [(0,rdB x.1 x.2)]
theorem fY (k t s b:Int):AVLe (.d (.cons (u8s k) (.cons (i6 t) (.cons (i6 s) (.cons (.sc nil_) (.cons (i6 b) .nil)))))) (.d (aX ⟨k,t,s,[],b⟩)):=AVLe.d (iO k t s b) rfl
theorem vJ (ws:List (List UInt8)) (bad:Bool) (hl:∀w∈ws,w.length≤1048576):jp 101 ws bad ⟨1,(nmb 31 ws bad).1,0,[],0⟩ (nmb 31 ws bad).2:=by
 have hc:=dR ws bad hl
 refine aw aa Tryz.func101 rfl rfl rfl ?_;refine sR<|rN<|nR ?_;refine rC ?_;refine aJ (aO [(0,some _)] hc rfl rfl rfl (aK rfl rfl ae) ⟨zH,trivial⟩ rfl rfl (.inl rfl) rfl rfl) rfl ?_;refine rQ iS ?_;refine rW<|zT ?_
 exact⟨trivial,_,rfl,[],lg ⟨⟨_,rfl,fY _ _ _ _⟩,rfl,trivial⟩ ⟨zR,trivial⟩⟩
theorem vH (ws:List (List UInt8)) (bad:Bool) (hl:∀w∈ws,w.length≤1048576):jp 103 ws bad ⟨3,0,(nmb 31 ws bad).1,[],0⟩ (nmb 31 ws bad).2:=by
 have hc:=dR ws bad hl
 refine aw aa Tryz.func103 rfl rfl rfl ?_;refine sR<|rN<|nR ?_;refine rC ?_;refine aJ (aO [(0,some _)] hc rfl rfl rfl (aK rfl rfl ae) ⟨zH,trivial⟩ rfl rfl (.inl rfl) rfl rfl) rfl ?_;refine rQ iS ?_;refine rW<|zT ?_
 exact⟨trivial,_,rfl,[],lg ⟨⟨_,rfl,fY _ _ _ _⟩,rfl,trivial⟩ ⟨zR,trivial⟩⟩
theorem vF (ws:List (List UInt8)) (bad:Bool):jp 105 ws bad ⟨5,0,0,[],0⟩ (ws,bad):=by
 refine aw aa Tryz.func105 rfl rfl rfl ?_;refine sR<|rN<|nR ?_;refine rQ iS ?_;refine rW<|zT ?_
 exact⟨trivial,_,rfl,[],lg ⟨⟨_,rfl,fY _ _ _ _⟩,rfl,trivial⟩ ⟨zR,trivial⟩⟩
theorem vI (ws:List (List UInt8)) (bad:Bool) (hl:∀w∈ws,w.length≤1048576):jp 102 ws bad ⟨2,0,(nmb 31 ws bad).1,(byt (nmb 31 ws bad).2.1 (nmb 31 ws bad).2.2).1,0⟩ (byt (nmb 31 ws bad).2.1 (nmb 31 ws bad).2.2).2:=by
 have hc:=dR ws bad hl
 have hb:=nE (nmb 31 ws bad).2.1 (nmb 31 ws bad).2.2 (iv hl)
 refine aw aa Tryz.func102 rfl rfl rfl ?_;refine sR<|rN<|nR ?_;refine rC ?_;refine aJ (aO [(0,some _)] hc rfl rfl rfl (aK rfl rfl ae) ⟨zH,trivial⟩ rfl rfl (.inl rfl) rfl rfl) rfl ?_;refine rQ iS ?_;refine rN ?_;refine rW<|nR ?_;refine rC ?_;refine aJ (aO [(0,some _)] hb rfl rfl rfl (aK rfl rfl ae) ⟨zH,trivial⟩ rfl rfl (.inl rfl) rfl rfl) rfl ?_;refine rC ?_;refine rX<|nR ?_;refine rQ iM ?_;refine rW<|zT ?_
 exact⟨trivial,_,rfl,[],lg zV ⟨zR,trivial⟩⟩
theorem vG (ws:List (List UInt8)) (bad:Bool) (hl:∀w∈ws,w.length≤1048576):jp 104 ws bad ⟨4,0,(nmb 31 ws bad).1,[],(nmb 31 (nmb 31 ws bad).2.1 (nmb 31 ws bad).2.2).1⟩ (nmb 31 (nmb 31 ws bad).2.1 (nmb 31 ws bad).2.2).2:=by
 have hc:=dR ws bad hl
 have hb:=dR (nmb 31 ws bad).2.1 (nmb 31 ws bad).2.2 (iv hl)
 refine aw aa Tryz.func104 rfl rfl rfl ?_;refine sR<|rN<|nR ?_;refine rC ?_;refine aJ (aO [(0,some _)] hc rfl rfl rfl (aK rfl rfl ae) ⟨zH,trivial⟩ rfl rfl (.inl rfl) rfl rfl) rfl ?_;refine rQ iS ?_;refine rN ?_;refine rW<|nR ?_;refine rC ?_;refine aJ (aO [(0,some _)] hb rfl rfl rfl (aK rfl rfl ae) ⟨zH,trivial⟩ rfl rfl (.inl rfl) rfl rfl) rfl ?_;refine rC ?_;refine rX<|nR ?_;refine rQ iM ?_;refine rW<|zT ?_
 exact⟨trivial,_,rfl,[],lg ⟨⟨_,rfl,fY _ _ _ _⟩,rfl,trivial⟩ ⟨zR,trivial⟩⟩
def ez:List (List UInt8×AV):=[(eU,fnA 101),(dW,fnA 102),(dG,fnA 103),(cr,fnA 104),(fh,fnA 105)]
theorem vU:kk Tryz.prog 142 (.sc .nilFunc):=ry (by kernel_rfl) rfl
theorem qO (w:List UInt8) (hf:di w ez 0=none):FnIs Tryz.prog 79 [.d (strD w)] [] (.tup (.acons (.d (.sc .nilFunc)) (.acons (.bool false) .anil))) []:=by
 refine aw aa Tryz.func79 rfl rfl rfl ?_;refine sR<|zD<|nR ?_;refine aN (lO) rfl ?_;refine bz rfl (cb (κ:=List UInt8) (enc:=strD) (l:=ez.take 0) (k:=eU) bU Tryz.underlying162 rfl rfl rfl rfl rfl) rfl rfl ?_;refine bz rfl (cb (κ:=List UInt8) (enc:=strD) (l:=ez.take 1) (k:=dW) bU Tryz.underlying162 rfl rfl rfl rfl rfl) rfl rfl ?_;refine bz rfl (cb (κ:=List UInt8) (enc:=strD) (l:=ez.take 2) (k:=dG) bU Tryz.underlying162 rfl rfl rfl rfl rfl) rfl rfl ?_;refine bz rfl (cb (κ:=List UInt8) (enc:=strD) (l:=ez.take 3) (k:=cr) bU Tryz.underlying162 rfl rfl rfl rfl rfl) rfl rfl ?_;refine bz rfl (cb (κ:=List UInt8) (enc:=strD) (l:=ez.take 4) (k:=fh) bU Tryz.underlying162 rfl rfl rfl rfl rfl) rfl rfl ?_;refine zD ?_;refine rQ (gD (κ:=List UInt8) (enc:=strD) (l:=ez) (k:=w) bU Tryz.underlying162 vU rfl rfl rfl hf) ?_;iterate 5 refine rC ?_
 refine nR ?_;iterate 4 refine rC ?_
 refine zT ?_
 exact⟨trivial,[],lf⟩
theorem qN (w:List UInt8) (j f:Nat) (hf:di w ez 0=some (j,fnA f)):FnIs Tryz.prog 79 [.d (strD w)] [] (.tup (.acons (fnA f) (.acons (.bool true) .anil))) []:=by
 refine aw aa Tryz.func79 rfl rfl rfl ?_;refine sR<|zD<|nR ?_;refine aN (lO) rfl ?_;refine bz rfl (cb (κ:=List UInt8) (enc:=strD) (l:=ez.take 0) (k:=eU) bU Tryz.underlying162 rfl rfl rfl rfl rfl) rfl rfl ?_;refine bz rfl (cb (κ:=List UInt8) (enc:=strD) (l:=ez.take 1) (k:=dW) bU Tryz.underlying162 rfl rfl rfl rfl rfl) rfl rfl ?_;refine bz rfl (cb (κ:=List UInt8) (enc:=strD) (l:=ez.take 2) (k:=dG) bU Tryz.underlying162 rfl rfl rfl rfl rfl) rfl rfl ?_;refine bz rfl (cb (κ:=List UInt8) (enc:=strD) (l:=ez.take 3) (k:=cr) bU Tryz.underlying162 rfl rfl rfl rfl rfl) rfl rfl ?_;refine bz rfl (cb (κ:=List UInt8) (enc:=strD) (l:=ez.take 4) (k:=fh) bU Tryz.underlying162 rfl rfl rfl rfl rfl) rfl rfl ?_;refine zD ?_;refine rQ (cS (κ:=List UInt8) (enc:=strD) (l:=ez) (k:=w) bU Tryz.underlying162 rfl rfl rfl hf) ?_;iterate 5 refine rC ?_
 refine nR ?_;iterate 4 refine rC ?_
 refine zT ?_
 exact⟨trivial,[],lf⟩
abbrev nK (t:List UInt8) (a:SAct) (res:Bool):Prop:=FnIs Tryz.prog 53 [.d (strD t)] [] (.tup (.acons (.d (aX a)) (.acons (.bool res) .anil))) []
theorem pY (t:List UInt8) (ht:t.length≤1048576) (hf:di (nx (aL t 32) false).1 ez 0=none):nK t ⟨0,0,0,[],0⟩ false:=by
 have hsp:=cP (l:=t) (c:=32) (by omega)
 have hn:=iw (aL t 32) false
 have hk:=qO _ hf
 refine aw aa Tryz.func53 rfl rfl rfl ?_;refine sR<|rN ?_;refine rC<|nR ?_;refine rC ?_;refine rQ (ak hsp rfl rfl (aj (aj ae)) (.inl rfl) (fun _=>rfl)) ?_;refine rQ iS ?_;refine rN ?_;refine rC<|nR ?_;refine rC ?_;refine aJ (aO [(0,some _)] hn rfl rfl rfl (aK rfl rfl ae) ⟨zH,trivial⟩ rfl rfl (.inl rfl) rfl rfl) rfl ?_;refine rQ (ak hk rfl rfl (aj ae) (.inl rfl) (fun _=>rfl)) ?_;iterate 5 refine rC ?_
 refine zW<|zD ?_;refine zO<|sR ?_;refine rQ iS ?_;refine rW ?_;refine rC<|zT<|ba ?_
 exact⟨trivial,_,rfl,[],lg ⟨⟨_,rfl,AVLe.tup1 (fY _ _ _ _) rfl⟩,rfl,trivial⟩ trivial⟩
theorem e8 (t:List UInt8) (ht:t.length≤1048576) (j f:Nat) (hf:di (nx (aL t 32) false).1 ez 0=some (j,fnA f)) (a:SAct) (x:List (List UInt8)×Bool) (hcall:jp f (nx (aL t 32) false).2.1 (nx (aL t 32) false).2.2 a x):nK t a (endB x):=by
 have hsp:=cP (l:=t) (c:=32) (by omega)
 have hn:=iw (aL t 32) false
 have hk:=qN _ j f hf
 have he:=gm x.1 x.2
 unfold jp at hcall
 refine aw aa Tryz.func53 rfl rfl rfl ?_;refine sR<|rN ?_;refine rC<|nR ?_;refine rC ?_;refine rQ (ak hsp rfl rfl (aj (aj ae)) (.inl rfl) (fun _=>rfl)) ?_;refine rQ iS ?_;refine rN ?_;refine rC<|nR ?_;refine rC ?_;refine aJ (aO [(0,some _)] hn rfl rfl rfl (aK rfl rfl ae) ⟨zH,trivial⟩ rfl rfl (.inl rfl) rfl rfl) rfl ?_;refine rQ (ak hk rfl rfl (aj ae) (.inl rfl) (fun _=>rfl)) ?_;iterate 5 refine rC ?_
 refine zW<|zD ?_;refine zJ<|kS<|sR ?_;refine zD ?_;refine aJ (aO [(0,some _)] hcall rfl rfl rfl (aK rfl rfl ae) ⟨zH,trivial⟩ rfl rfl (.inl rfl) rfl rfl) rfl ?_;refine rN ?_;refine rW<|nQ ?_;refine aH (by kernel_rfl) ?_;refine dQ [7] [224] iM ?_;refine dC [4] [] ?_;refine gG [25] [104] rfl (aO [(0,some _)] he rfl rfl rfl (aK rfl rfl ae) ⟨zH,trivial⟩ rfl rfl (.inl rfl) rfl rfl) ?_;refine ca [2,24] [64] (aF aa rfl rfl rfl ⟨_,⟨rfl,rfl,rfl⟩,rfl⟩ rfl) ?_;refine dC [26] [] ?_;refine aC (by kernel_rfl)<|aU<|cg ?_
 exact⟨trivial,_,rfl,[],lf⟩
end Go.Proofs.YtpmhnpnmpjimnaaGreatDoor
namespace Go.Proofs.YtpmhnpnmpjimnaaGreatDoor
open Go.Eng Go.Plain
set_option maxHeartbeats 32000000
set_option maxRecDepth 20000
theorem qY {v:List UInt8} (h1:v≠eU) (h2:v≠dW) (h3:v≠dG) (h4:v≠cr) (h5:v≠fh):di v ez 0=none:=by
 simp[di,ez,h1,h2,h3,h4,h5]
theorem yV (t:List UInt8) (ht:t.length≤1048576):∃a res,nK t a res∧eV t=if res=true then some a else none:=by
 have key:∀(a:SAct) (res:Bool),nK t a res→(res=true→eV t=some a)→(∀d,eV t=some d→res=true)→∃a res,nK t a res∧eV t=if res=true then some a else none:=by
  intro a res h1 h2 h3
  refine⟨a,res,h1,?_⟩
  cases res with
  | true=>rw[if_pos rfl]; exact h2 rfl
  | false =>
   rw[if_neg (by decide)]
   cases hq:eV t with
   | none=>rfl
   | some d=>have:=h3 d hq; cases this
 have q0:=gb ht
 obtain⟨v,r,hs⟩:∃v r,aL t 32=v::r:=by
  cases h:aL t 32 with
  | nil=>exact absurd h (ij t 32)
  | cons v r=>exact⟨v,r,rfl⟩
 have hr:∀w∈r,w.length≤1048576:=fun w hw=>q0 w (by rw[hs]; simp[hw])
 have hf:(nx (aL t 32) false).1=v:=by rw[hs]; rfl
 have hq:(nx (aL t 32) false).2.1=r:=by rw[hs]; rfl
 have hb:(nx (aL t 32) false).2.2=false:=by rw[hs]; rfl
 by_cases h1:v=eU
 ·subst h1
  obtain⟨⟨n1,r1,b1⟩,e1⟩:∃x,nmb 31 r false=x:=⟨_,rfl⟩
  have hk:=vJ r false hr
  rw[e1]at hk
  refine key _ _ (e8 t ht 0 _ (by rw[hf]; rfl) _ (r1,b1) (by rw[hq,hb]; exact hk)) (fun h=>?_) (fun d h=>?_)
  ·obtain⟨rfl,rfl⟩:=dj h
   obtain⟨w1,rfl,_,g1⟩:=dZ e1
   simp only[eV,hs,if_pos,g1,Option.map_some]
  ·unfold eV at h
   rw[hs]at h
   split at h <;> rename_i hx <;> try cases hx
   ·simp[eU,fh]at h
   ·rename_i w1
    cases g1:numS 31 w1 with
    | none=>rw[if_pos rfl,g1]at h; cases h
    | some n=>rw[c7 g1]at e1; cases e1; rfl
   ·simp[eU,dW,cr]at h
   ·cases h
 by_cases h2:v=dW
 ·subst h2
  obtain⟨⟨n1,r1,b1⟩,e1⟩:∃x,nmb 31 r false=x:=⟨_,rfl⟩
  obtain⟨⟨m,r2,b2⟩,e2⟩:∃x,byt r1 b1=x:=⟨_,rfl⟩
  have hk:=vI r false hr
  rw[e1]at hk
  simp only[e2]at hk
  refine key _ _ (e8 t ht 1 _ (by rw[hf]; rfl) _ (r2,b2) (by rw[hq,hb]; exact hk)) (fun h=>?_) (fun d h=>?_)
  ·obtain⟨rfl,rfl⟩:=dj h
   obtain⟨w2,rfl,rfl,g2⟩:=sE e2
   obtain⟨w1,rfl,_,g1⟩:=dZ e1
   simp only[eV,hs,if_pos,g1,g2]
  ·unfold eV at h
   rw[hs]at h
   split at h <;> rename_i hx <;> try cases hx
   ·simp[dW,fh]at h
   ·simp[dW,eU,dG]at h
   ·rename_i w1 w2
    rw[if_pos rfl]at h
    split at h
    ·rename_i n d' g1 g2
     rw[c7 g1]at e1
     cases e1
     rw[mv g2]at e2
     cases e2
     rfl
    ·cases h
   ·cases h
 by_cases h3:v=dG
 ·subst h3
  obtain⟨⟨n1,r1,b1⟩,e1⟩:∃x,nmb 31 r false=x:=⟨_,rfl⟩
  have hk:=vH r false hr
  rw[e1]at hk
  refine key _ _ (e8 t ht 2 _ (by rw[hf]; rfl) _ (r1,b1) (by rw[hq,hb]; exact hk)) (fun h=>?_) (fun d h=>?_)
  ·obtain⟨rfl,rfl⟩:=dj h
   obtain⟨w1,rfl,_,g1⟩:=dZ e1
   simp only[eV,hs,if_neg h1,if_pos,g1,Option.map_some]
  ·unfold eV at h
   rw[hs]at h
   split at h <;> rename_i hx <;> try cases hx
   ·simp[dG,fh]at h
   ·rename_i w1
    cases g1:numS 31 w1 with
    | none=>rw[if_neg h1,if_pos rfl,g1]at h; cases h
    | some n=>rw[c7 g1]at e1; cases e1; rfl
   ·simp[dG,dW,cr]at h
   ·cases h
 by_cases h4:v=cr
 ·subst h4
  obtain⟨⟨n1,r1,b1⟩,e1⟩:∃x,nmb 31 r false=x:=⟨_,rfl⟩
  obtain⟨⟨n2,r2,b2⟩,e2⟩:∃x,nmb 31 r1 b1=x:=⟨_,rfl⟩
  have hk:=vG r false hr
  rw[e1]at hk
  simp only[e2]at hk
  refine key _ _ (e8 t ht 3 _ (by rw[hf]; rfl) _ (r2,b2) (by rw[hq,hb]; exact hk)) (fun h=>?_) (fun d h=>?_)
  ·obtain⟨rfl,rfl⟩:=dj h
   obtain⟨w2,rfl,rfl,g2⟩:=dZ e2
   obtain⟨w1,rfl,_,g1⟩:=dZ e1
   simp only[eV,hs,if_neg h2,if_pos,g1,g2]
  ·unfold eV at h
   rw[hs]at h
   split at h <;> rename_i hx <;> try cases hx
   ·simp[cr,fh]at h
   ·simp[cr,eU,dG]at h
   ·rename_i w1 w2
    rw[if_neg h2,if_pos rfl]at h
    split at h
    ·rename_i n k g1 g2
     rw[c7 g1]at e1
     cases e1
     rw[c7 g2]at e2
     cases e2
     rfl
    ·cases h
   ·cases h
 by_cases h5:v=fh
 ·subst h5
  have hk:=vF r false
  refine key _ _ (e8 t ht 4 _ (by rw[hf]; rfl) _ (r,false) (by rw[hq,hb]; exact hk)) (fun h=>?_) (fun d h=>?_)
  ·obtain⟨rfl,_⟩:=dj h
   simp only[eV,hs,if_pos]
  ·unfold eV at h
   rw[hs]at h
   split at h <;> rename_i hx <;> try cases hx
   ·rfl
   ·simp[fh,eU,dG]at h
   ·simp[fh,dW,cr]at h
   ·cases h
 ·refine key _ _ (pY t ht (by rw[hf]; exact qY h1 h2 h3 h4 h5)) (fun h=>by cases h) (fun d h=>?_)
  unfold eV at h
  rw[hs]at h
  split at h <;> rename_i hx <;> try cases hx
  ·rw[if_neg h5]at h; cases h
  ·rw[if_neg h1,if_neg h3]at h; cases h
  ·rw[if_neg h2,if_neg h4]at h; cases h
  ·cases h
end Go.Proofs.YtpmhnpnmpjimnaaGreatDoor
namespace Go.Eng
open Go.RowKit
section
variable {P : Program} {T : Tab} {env : Env} {h : Upds} {n : Nat}
theorem sY (hT:an P T) {t e:Nat} {re:TyR} {x i j:Operand} {α:Type} {s:Nat} {enc:α→D} {xs:List α} {k k':IntKind} {m q:Nat} (ht:aT T t=some (.slice e)) (he:lk T e=some re) (hs:Nat.beq re.size s=true)
  (hx:au env x=some (.d (.arr s enc xs))) (hi:au env i=some (.int k m)) (hj:au env j=some (.int k' q)) (h1:m≤q) (h2:q≤xs.length):aq P (.slice t x (some i) (some j) none) env h n (some (.d (.arr s enc ((xs.drop m).take (q-m))))) []:=.of_comes fun C G st σ w a o ho hA hdst hst hn=>by
 obtain⟨ud,hud,hdd⟩:=aM hT ht
 cases hdd
 have hs:=Nat.eq_of_beq_eq_true hs
 obtain⟨hx1,_⟩:=am hst (hA.ev hx)
 obtain⟨hi1,_⟩:=RelV.sc.1 (am hst (hA.ev hi)).1
 obtain⟨hj1,_⟩:=RelV.sc.1 (am hst (hA.ev hj)).1
 have hsz:=(hT e re he).run_size (P:=P)
 have hlen:((xs.drop m).take (q-m)).length=q-m:=by rw[List.length_take,List.length_drop]; omega
 rcases RelV.arr.1 hx1 with ⟨rfl,hv⟩ | ⟨ad,c,hv,hc1,hc2,f,hf⟩
 ·have hq0:q=0:=by simpa using h2
  subst hq0
  have hm0:m=0:=by omega
  subst hm0
  refine .quiet (u :=.slice none 0 0) hst hdst ⟨rfl,rfl⟩ ?_ (RelV.arr.2 (.inl ⟨rfl,rfl⟩)) trivial
  simp[execOp,ho,Instr.sliceAt,Instr.slice,hv,hi1,hj1,run_underlying hud,Instr.sliceBounds,Instr.sliceBound,asIntOf,hsz,Sem.run_bind,Sem.run_pure,Result.andThen_ok]
 ·refine .quiet (u :=.slice (some (if c=m then ad else ad.add (m*s))) (q-m) (c-m)) hst hdst ⟨rfl,rfl⟩ ?_ (RelV.arr.2 (.inr ⟨_,c-m,by rw[hlen],by rw[hlen]; omega,by omega,fun j=>f (j+m),fun j hj=>?_⟩)) trivial
  ·have hcm:¬c<m:=by omega
   have hcq:¬c<q:=by omega
   have hqm:¬q<m:=by omega
   simp[execOp,ho,Instr.sliceAt,Instr.slice,hv,hi1,hj1,run_underlying hud,Instr.sliceBounds,Instr.sliceBound,asIntOf,hsz,hs,Sem.run_bind,Sem.run_pure,Result.andThen_ok,hcq,hcm,hqm]
   repeat (first | rw[if_pos (by omega)] | rw[if_neg (by omega)] | (split <;> first | rfl | omega))
  ·have hj2:j+m<xs.length:=by rw[hlen]at hj; omega
   obtain⟨g1,g2,g3⟩:=hf (j+m) hj2
   refine⟨by rw[List.getElem_take,List.getElem_drop]; simpa[Nat.add_comm]using g1,g2,fun q' u hu=>?_⟩
   have:=g3 q' u hu
   rw[if_neg (by rw[hlen]at hj; omega),add_add,Addr.add_block]
   rw[show m*s+(j*s+q')=(j+m)*s+q' by rw[Nat.add_mul]; omega]
   exact this
end
end Go.Eng
namespace Go.Proofs.YtpmhnpnmpjimnaaGreatDoor
open Go.Eng Go.Plain Go.RowKit
set_option maxHeartbeats 32000000
set_option maxRecDepth 20000
attribute [local irreducible] WC RegS RegD SeqQ BlkQ ScoQ RegK CutK Sat SatN FnIs LoopQ aq OpIs
theorem oK (l:List UInt8) (c:UInt8):Lib.hasSuffix l [c]=decide (l.getLast?=some c):=by
 rw[Bool.eq_iff_iff,decide_eq_true_eq,Lib.hasSuffix,List.isSuffixOf_iff_suffix,List.getLast?_eq_some_iff]
 exact⟨fun⟨t,h⟩=>⟨t,h.symm⟩,fun⟨t,h⟩=>⟨t,h.symm⟩⟩
theorem mS {l:List UInt8} (c:UInt8) (hl:l.length≤9223372036854775807):FnIs Tryz.prog 48 [.d (strD l),.d (strD [c])] [] (.bool (decide (l.getLast?=some c))) []:=
 .of_calls1 rfl ⟨_,Tryz.func48,by kernel_rfl,by kernel_rfl⟩ fun σ w X vs ha hg=>by
  rw[ha.two]
  refine (Tryz.strings_HasSuffix (mkS l) (mkS [c]) w (by rw[bY]; exact hl)).mono ?_
  rintro e w' ⟨rfl,rfl⟩
  exact⟨by rw[c8,c8,oK],Below.refl _ _⟩
theorem vO (ls:List (List UInt8)) (v:List UInt8) (hL:ls.length≤1000000000):FnIs Tryz.prog 51 [.d (.arr 1 strD ls),.d (strD v)] [] (.int .i64 (idxF (fun x=>x==v) ls)) []:=by
 refine aw aa Tryz.func51 rfl rfl rfl ?_;refine sR<|rC<|zW ?_;refine rC ?_;refine rQ iE ?_;refine rC<|zP ?_
 refine wc_inv (fun i:Nat=>⟨[(8,.int .i64 i),(7,.int .i64 ls.length),(1,.d (strD v)),(0,.d (.arr 1 strD ls))],[],72,Tryz.f51.ntmps,64⟩) (fun i=>i≤ls.length∧∀j,j<i→∀y,ls[j]?=some y→(y==v)=false) (fun i=>ls.length-i) 0 [] ⟨Nat.zero_le _,fun j hj=>absurd hj (Nat.not_lt_zero _)⟩
  (lg zi trivial) ?_
 rintro i ⟨hi,hno⟩
 refine bv<|sR ?_;refine rC<|nQ ?_
 by_cases hlt:i<ls.length
 ·have d1:decide ((i:Int)<(ls.length:Int))=true:=dT (by omega)
  obtain⟨x,hx⟩:∃x,ls[i]?=some x:=⟨_,List.getElem?_eq_getElem hlt⟩
  have hx2:ls[((i:Int)).toNat]?=some x:=by rw[Int.toNat_natCast]; exact hx
  by_cases he:v=x
  ·have d2:decide (v=x)=true:=dT he
   rw[j8 hx (p:=fun x=>x==v) (by simp[he]) hno]
   refine wT<|zQ<|zS ?_;refine zD<|nR ?_;refine zU ?_;refine rQ (aA aa rfl rfl rfl rfl rfl (by omega) hx2) ?_;refine rQ iL ?_;refine rQ (dS (a:=v) (b:=x) aa rfl rfl rfl) ?_;refine zI<|sR ?_;refine zD<|zT<|zB<|bT<|zB ?_
   exact⟨trivial,[],lf⟩
  ·have d2:decide (v=x)=false:=dF he
   refine wT<|zQ<|zS ?_;refine zD<|nR ?_;refine zU ?_;refine rQ (aA aa rfl rfl rfl rfl rfl (by omega) hx2) ?_;refine rQ iL ?_;refine rQ (dS (a:=v) (b:=x) aa rfl rfl rfl) ?_;refine zG<|bG<|zC<|ao ?_;refine rQ iD ?_;refine rC<|aB ?_
   exact aY (i+1) [] ⟨hlt,fun j hj y hy=>by
    by_cases e:j=i
    ·subst e; rw[hx]at hy; cases hy; simpa using fun h=>he h.symm
    ·exact hno j (by omega) y hy⟩ (by omega) (lg zi trivial)
 ·have he:i=ls.length:=by omega
  subst he
  have d1:decide ((ls.length:Int)<(ls.length:Int))=false:=dF (by omega)
  rw[j9 (p:=fun x=>x==v) (fun j y hy=>hno j ((List.getElem?_eq_some_iff.1 hy).1) y hy)]
  refine wF<|zX<|sR ?_;refine rC<|zT ?_
  exact⟨trivial,[],lf⟩
theorem wm (l:List SAct):FnIs Tryz.prog 54 [.d (e6 l)] [] (.d (jn l)) []:=by
 refine aw aa Tryz.func54 rfl rfl rfl ?_;refine sR<|rC<|nR ?_;refine zD ?_;refine rQ iE ?_;refine rC ?_;refine rQ iE ?_;refine rQ (fq aa rfl rfl rfl rfl rfl) ?_;refine rC<|zT ?_
 exact⟨trivial,[],lf⟩
end Go.Proofs.YtpmhnpnmpjimnaaGreatDoor
namespace Go.Proofs.YtpmhnpnmpjimnaaGreatDoor
open Go.Eng Go.Plain
set_option maxHeartbeats 32000000
set_option maxRecDepth 20000
attribute [local irreducible] WC RegS RegD SeqQ BlkQ ScoQ RegK CutK Sat SatN FnIs LoopQ aq OpIs
abbrev ss (c:SCfg) (l:List (List POp)) (bs:List SAct):D :=.cons (bt c) (.cons (.arx 1 fQ l) (.cons (jn bs) .nil))
abbrev pa (x:SScr) (n:Nat) (e:Int):AV :=.tup (.acons (.d (ss x.1 x.2.1 x.2.2)) (.acons (.int .i64 n) (.acons (.d (i6 e)) .anil)))
theorem gS:DLe r38.zero (ss zCfg [] []):=DLe.cons (DLe.of_eq rfl) (DLe.cons (DLe.nil_arx _ _) (DLe.cons (DLe.nil_arx _ _) (.refl _)))
theorem y7 (l:List (List POp)):DLe (.arx 1 fQ l) (cE l):=fun _ _ cs h=>Enc.arx_arr (fun _ c hc=>Enc.arx_arr (fun _ _ h=>h) c hc) cs h
theorem uw {t:TypeId} {a b x r:D}:aE (.box t (.d (.cons a (.cons b (.cons x r))))) (.box t (.acons (.d a) (.acons (.d b) (.acons (.d x) (.d r))))):=by
 rintro σ w X q ⟨_,b',cs,h1,h2,h3⟩
 exact⟨rfl,b',cs,h1,h2,h3⟩
theorem oP (t:List UInt8) (h:1048576<t.length):FnIs Tryz.prog 24 [.d (strD t)] [] (pa zScr 0 3) []:=by
 have hd:decide (1048576<(t.length:Int))=true:=dT (by omega)
 refine aw aa Tryz.func24 rfl rfl rfl ?_;refine sR<|rN ?_;refine zD<|zW ?_;refine rC ?_;refine rQ (dB aa rfl rfl) ?_;refine rC ?_;refine zI<|sR ?_;refine rQ iS ?_;refine rW ?_;refine zD<|zT<|ba ?_
 exact⟨trivial,_,rfl,[],lg ⟨⟨_,rfl,AVLe.tup1 (AVLe.d gS rfl) rfl⟩,rfl,trivial⟩ trivial⟩
theorem nO (t:List UInt8) (h:t.length≤1048576) (hlast:t.getLast?≠some 10):FnIs Tryz.prog 24 [.d (strD t)] [] (pa zScr 0 5) []:=by
 have hd:decide (1048576<(t.length:Int))=false:=dF (by omega)
 have hsuf:=mS (l:=t) 10 (by omega)
 rw[dF hlast]at hsuf
 refine aw aa Tryz.func24 rfl rfl rfl ?_;refine sR<|rN ?_;refine zD<|zW ?_;refine rC ?_;refine rQ (dB aa rfl rfl) ?_;refine rC ?_;refine zG<|kS<|qR ?_;refine rC ?_;refine rQ (ak hsuf rfl rfl (aj (aj ae)) (.inl rfl) (fun _=>rfl)) ?_;refine rC ?_;refine zO<|sR ?_;refine rQ iS ?_;refine rW ?_;refine zD<|zT<|ba ?_
 exact⟨trivial,_,rfl,[],lg ⟨⟨_,rfl,AVLe.tup1 (AVLe.d gS rfl) rfl⟩,rfl,trivial⟩ trivial⟩
theorem jl (a b:List (List UInt8)):cm (a++b)=cm a++cm b:=by simp[cm]
theorem kA (l:List (List UInt8)) (i:Nat):(cm (l.take i)).length≤(cm l).length:=by
 have:=congrArg List.length (jl (l.take i) (l.drop i))
 rw[List.take_append_drop,List.length_append]at this
 omega
theorem pn (l:List (List UInt8)) (i:Nat):(cm (l.drop i)).length≤(cm l).length:=by
 have:=congrArg List.length (jl (l.take i) (l.drop i))
 rw[List.take_append_drop,List.length_append]at this
 omega
def preA (bs:List SAct):List SAct ⊕ Nat→List SAct ⊕ Nat
 | .inl l=>.inl (bs++l)
 | .inr j=>.inr j
theorem uM (x:List SAct ⊕ Nat):preA [] x=x:=by cases x <;> rfl
theorem ta (bs:List SAct) (a:SAct) (x:List SAct ⊕ Nat):preA bs (match x with
  | .inl l=>.inl (a::l)
  | .inr j=>.inr j)=preA (bs++[a]) x:=by cases x <;> simp[preA]
theorem tc:∀(k:Nat) (s:List UInt8) (l m:List (List POp)) (n j:Nat) (e:Int),s.length≤k→bL s l n=(m,j,e)→j≤n+s.length:=by
 intro k
 induction k with
 | zero =>
  intro s l m n j e hs h
  have:s=[]:=List.length_eq_zero_iff.1 (by omega)
  subst this
  rw[fw]at h
  cases h
  omega
 | succ k ih =>
  intro s l m n j e hs h
  by_cases hs0:s=[]
  ·subst hs0
   rw[fw]at h
   cases h
   omega
  ·cases hcut:cutL s 10 with
   | none=>rw[gZ l _ hs0 hcut]at h; cases h; omega
   | some pq =>
    obtain⟨t,r⟩:=pq
    rw[gY l _ hs0 hcut]at h
    have hsr:=congrArg List.length (dP hcut).1
    simp only[List.length_append,List.length_cons]at hsr
    split at h
    ·have:=ih r _ m _ j e (by omega) h
     omega
    ·cases h; omega
abbrev R0:D :=.cons (.sc nil_) (.cons (.sc nil_) .nil)
abbrev rowA (c:SCfg) (l:List (List POp)) (bs:List SAct) (r:Nat):Row :=.box 38 (.acons (.d (bt c)) (.acons (.d (.arx 1 fQ l)) (.acons (.own r 0 bs.length 5 none) (.d .nil))))
theorem oO (t:List UInt8) (h:t.length≤1048576) (hlast:t.getLast?=some 10):FnIs Tryz.prog 24 [.d (strD t)] [] (pa (dX (aL t.dropLast 10)).1 (dX (aL t.dropLast 10)).2.1 (dX (aL t.dropLast 10)).2.2) []:=by
 have hd:decide (1048576<(t.length:Int))=false:=dF (by omega)
 have hsuf:=mS (l:=t) 10 (by omega)
 rw[dT hlast]at hsuf
 have hpos:0<t.length:=by
  cases t with
  | nil=>cases hlast
  | cons a l=>simp
 have hdlen:t.dropLast.length=t.length-1:=List.length_dropLast
 have hw1:IntKind.i64.wrap ((t.length:Int)-1)=((t.length-1:Nat):Int):=by rw[aI (by omega) (by omega)]; omega
 have hdl:t.take (t.length-1)=t.dropLast:=List.dropLast_eq_take.symm
 have hsp:=cP (l:=t.dropLast) (c:=10) (by omega)
 have hall:=fm 10 t.dropLast
 rw[←tv hlast]at hall
 have hlsn:=gv t.dropLast 10
 have hmem:∀w∈aL t.dropLast 10,w.length≤1048576:=fun w hw=>by have:=de t.dropLast 10 w hw; omega
 obtain⟨ls,hls⟩:∃ls,aL t.dropLast 10=ls:=⟨_,rfl⟩
 rw[hls]at hsp hall hlsn hmem ⊢
 have hTls:cm ls=t:=hall
 have hlsn:ls.length≤1048576:=by omega
 clear hall hls
 refine aw aa Tryz.func24 rfl rfl rfl ?_;refine sR<|rN ?_;refine zD<|zW ?_;refine rC ?_;refine rQ (dB aa rfl rfl) ?_;refine rC ?_;refine zG<|kS<|qR ?_;refine rC ?_;refine rQ (ak hsuf rfl rfl (aj (aj ae)) (.inl rfl) (fun _=>rfl)) ?_;refine rC ?_;refine zJ<|kS<|sR ?_;refine zD ?_;refine rQ (dB aa rfl rfl) ?_;refine rQ (cq (m:=((t.length-1:Nat):Int)) aa rfl rfl hw1) ?_;refine rQ (yl (l:=t) (hi:=t.length-1) (m:=t.dropLast) aa rfl rfl rfl (by omega) hdl) ?_;refine rQ (ak hsp rfl rfl (aj (aj ae)) (.inl rfl) (fun _=>rfl)) ?_;refine rC<|zW ?_;refine rC<|zP ?_
 refine wc_inv (fun x:Nat×SCfg=>⟨[(31,.int .i64 x.1),(5,.d (.arr 1 strD ls)),(2,.ptr 64 [])],[(64,some (rowC x.2 R0))],72,Tryz.f24.ntmps,64⟩) (fun x=>x.1≤5∧x.1≤ls.length∧dV 5 0 ls zCfg=dV (5-x.1) x.1 (ls.drop x.1) x.2) (fun x=>5-x.1) (0,zCfg) [(64,some _)] ⟨Nat.zero_le _,Nat.zero_le _,rfl⟩
  (lg zj ⟨⟨rfl,rfl,_,rfl,aE.of_eq rfl⟩,trivial⟩) ?_
 rintro⟨i,c⟩ ⟨hi5,hil,hinv⟩
 simp only at hi5 hil hinv
 refine bv ?_
 by_cases hi:i<5
 ·have d1:decide ((i:Int)<5)=true:=dT (by omega)
  obtain⟨f,hf⟩:∃f,5-i=f+1:=⟨4-i,by omega⟩
  by_cases hlt:i<ls.length
  ·have d2:decide ((ls.length:Int)≤(i:Int))=false:=dF (by omega)
   obtain⟨x,hx⟩:∃x,ls[i]?=some x:=⟨_,List.getElem?_eq_getElem hlt⟩
   have hx2:ls[((i:Int)).toNat]?=some x:=by rw[Int.toNat_natCast]; exact hx
   have hdr:ls.drop i=x::ls.drop (i+1):=by
    rw[List.drop_eq_getElem_cons hlt]
    rw[List.getElem?_eq_getElem hlt]at hx
    rw[Option.some.inj hx]
   obtain⟨res,c',hh,hq⟩:=xE i hi x c R0 (hmem x (List.mem_of_getElem? hx))
   rw[hf,hdr,dV,hq]at hinv
   unfold fZ at hh
   cases res with
   | true =>
    refine sR<|rC<|nQ ?_;refine wT<|zQ<|zS ?_;refine zD<|nR ?_;refine zD ?_;refine rQ iE ?_;refine zD ?_;refine rO ?_;refine rC ?_;refine rO ?_;refine rC ?_;refine rO ?_;refine rC ?_;refine rO ?_;refine rQ (aA aa rfl rfl rfl rfl rfl (by omega) hx2) ?_;refine rO ?_;refine rQ iL ?_;refine rO ?_;refine rC ?_;refine rO ?_;refine aJ (aO [(0,some 64)] hh rfl rfl rfl (aj (aj (aK rfl rfl ae))) ⟨zH,trivial⟩ rfl rfl (.inl rfl) rfl rfl) rfl ?_;refine rO ?_;refine rC ?_;refine rQ iF ?_;refine zJ<|bG<|zC<|ao ?_;refine rQ iD ?_;refine rC<|aB ?_
    exact aY (i+1,c') [] ⟨hi,hlt,by rw[hinv,if_pos rfl]; show dV f (i+1) _ _=dV (5-(i+1)) (i+1) _ _; rw[show 5-(i+1)=f by omega]⟩ (by show 5-(i+1)<5-i; omega) (lg zj ⟨zR,trivial⟩)
   | false =>
    rw[show dX ls=(zScr,i+1,5) by unfold dX; rw[hinv,if_neg (by decide)]]
    refine sR<|rC<|nQ ?_;refine wT<|zQ<|zS ?_;refine zD<|nR ?_;refine zD ?_;refine rQ iE ?_;refine zD ?_;refine rO ?_;refine rC ?_;refine rO ?_;refine rC ?_;refine rO ?_;refine rC ?_;refine rO ?_;refine rQ (aA aa rfl rfl rfl rfl rfl (by omega) hx2) ?_;refine rO ?_;refine rQ iL ?_;refine rO ?_;refine rC ?_;refine rO ?_;refine aJ (aO [(0,some 64)] hh rfl rfl rfl (aj (aj (aK rfl rfl ae))) ⟨zH,trivial⟩ rfl rfl (.inl rfl) rfl rfl) rfl ?_;refine rO ?_;refine rC ?_;refine rQ iF ?_;refine zO<|sR ?_;refine rQ iS ?_;refine rC ?_;refine rQ iD ?_;refine rW ?_;refine zD<|zT<|zB<|bT<|zB ?_
    exact⟨trivial,_,rfl,[],lg ⟨⟨_,rfl,AVLe.tup1 (AVLe.d gS rfl) rfl⟩,rfl,trivial⟩ trivial⟩
  ·have d2:decide ((ls.length:Int)≤(i:Int))=true:=dT (by omega)
   rw[hf,List.drop_eq_nil_of_le (by omega),dV]at hinv
   rw[show dX ls=(zScr,i+1,5) by unfold dX; rw[hinv]]
   refine sR<|rC<|nQ ?_;refine wT<|zQ<|zS ?_;refine zD<|nR ?_;refine zD ?_;refine rQ iE ?_;refine zD ?_
   iterate 8 refine rS ?_
   refine rQ iT ?_;refine zO<|sR ?_;refine rQ iS ?_;refine rC ?_;refine rQ iD ?_;refine rW ?_;refine zD<|zT<|zB<|bT<|zB ?_
   exact⟨trivial,_,rfl,[],lg ⟨⟨_,rfl,AVLe.tup1 (AVLe.d gS rfl) rfl⟩,rfl,trivial⟩ trivial⟩
 have hi5:i=5:=by omega
 subst hi5
 have d1:decide (((5:Nat):Int)<5)=false:=rfl
 have h5:=hil
 have hinv:dV 5 0 ls zCfg=.inl c:=hinv
 have hix:=vO (ls.drop 5) bF (by rw[List.length_drop]; omega)
 cases hk:(ls.drop 5).findIdx? (fun x=>x==bF) with
 | none =>
  simp only[idxF,hk]at hix
  rw[show dX ls=(zScr,ls.length+1,5) by unfold dX; rw[hinv]; simp only[hk]]
  have d2:decide ((-1:Int)<0)=true:=rfl
  refine sR<|rC<|nQ ?_;refine wG<|zX<|sR ?_;refine rC ?_;refine rQ (bV (m:=5) aa rfl rfl rfl rfl rfl h5) ?_;refine rQ (ak hix rfl rfl (aj (aj ae)) (.inl rfl) (fun _=>rfl)) ?_;refine rC<|zW ?_;refine zD ?_;refine zO<|sR ?_;refine rQ iS ?_;refine rC ?_;refine rQ iE ?_;refine rQ iD ?_;refine rW ?_;refine zD<|zT<|ba ?_
  exact⟨trivial,_,rfl,[],lg ⟨⟨_,rfl,AVLe.tup1 (AVLe.d gS rfl) rfl⟩,rfl,trivial⟩ trivial⟩
 | some k =>
 simp only[idxF,hk]at hix
 have hkl:k<ls.length-5:=by
  have:=(List.findIdx?_eq_some_iff_getElem.1 hk).1
  rwa [List.length_drop]at this
 have h5k:5+k≤ls.length:=by omega
 have d2:decide ((k:Int)<0)=false:=dF (by omega)
 refine sR<|rC<|nQ ?_;refine wG<|zX<|sR ?_;refine rC ?_;refine rQ (bV (m:=5) aa rfl rfl rfl rfl rfl h5) ?_;refine rQ (ak hix rfl rfl (aj (aj ae)) (.inl rfl) (fun _=>rfl)) ?_;refine rC<|zW ?_;refine zD ?_;refine zJ<|kS<|sR ?_;refine rC<|zW ?_;refine zD ?_;refine rQ iD ?_;refine rQ (sY (m:=5) (q:=5+k) aa rfl rfl rfl rfl rfl rfl (by omega) h5k) ?_;refine rQ iE ?_;refine rC<|zP ?_
 obtain⟨mid,hmid⟩:∃m,(ls.drop 5).take (5+k-5)=m:=⟨_,rfl⟩
 rw[hmid]
 have hmid2:mid=(ls.drop 5).take k:=by rw[←hmid,show 5+k-5=k by omega]
 have hmlen:(cm mid).length≤t.length:=by
  rw[hmid2,←hTls]
  exact Nat.le_trans (kA _ _) (pn _ _)
 have hml:mid.length≤1048576:=by rw[hmid2,List.length_take,List.length_drop]; omega
 have hmem2:∀w∈mid,w.length≤1048576:=fun w hw=>hmem w (by rw[hmid2]at hw; exact List.mem_of_mem_drop (List.mem_of_mem_take hw))
 refine wc_inv (fun j:Nat=>⟨[(66,.int .i64 j),(65,.int .i64 mid.length),(64,.d (.arr 1 strD mid)),(8,.d (strD (cm (mid.take j)))),(7,.int .i64 k),(5,.d (.arr 1 strD ls)),(2,.ptr 64 [])],[(64,some (rowC c R0))],72,Tryz.f24.ntmps,64⟩) (fun j=>j≤mid.length) (fun j=>mid.length-j) 0 [] (Nat.zero_le _)
  (lg zf ⟨zR,trivial⟩) ?_
 intro j hj
 refine bv ?_
 by_cases hjl:j<mid.length
 ·have d3:decide ((j:Int)<(mid.length:Int))=true:=dT (by omega)
  obtain⟨x,hx⟩:∃x,mid[j]?=some x:=⟨_,List.getElem?_eq_getElem hjl⟩
  have hx2:mid[((j:Int)).toNat]?=some x:=by rw[Int.toNat_natCast]; exact hx
  have hxl:=hmem2 x (List.mem_of_getElem? hx)
  have htk:=kA mid j
  have hl72:x.length+[(10:UInt8)].length≤9223372036854775807:=by simp; omega
  have hl73:(cm (mid.take j)).length+(x++[10]).length≤9223372036854775807:=by simp; omega
  have hm73:cm (mid.take j)++(x++[10])=cm (mid.take (j+1)):=by rw[List.take_add_one,hx,Option.toList_some,jl]; simp[cm]
  refine sR<|rC<|nQ ?_;refine wT<|zQ<|zS ?_;refine rQ (aA aa rfl rfl rfl rfl rfl (by omega) hx2) ?_;refine rQ iL ?_;refine rC<|nS<|ao ?_;refine zD ?_;refine rQ (aR (a:=x) (b:=[10]) rfl rfl hl72 rfl) ?_;refine rQ (aR (a:=cm (mid.take j)) (b:=x++[10]) rfl rfl hl73 hm73) ?_;refine rC<|aB<|zC<|ao ?_;refine rQ iD ?_;refine rC<|aB ?_
  exact aY (j+1) [] hjl (by omega) (lg zf ⟨zR,trivial⟩)
 have hje:j=mid.length:=by omega
 subst hje
 have d3:decide ((mid.length:Int)<(mid.length:Int))=false:=dF (by omega)
 rw[List.take_length]
 have hpp:=uY (cm mid) (by omega)
 obtain⟨⟨l,n,e⟩,hpe⟩:∃x,bL (cm mid) [] 1=x:=⟨_,rfl⟩
 rw[hpe]at hpp
 simp only at hpp
 have hfd:(ls.drop 5).findIdx? (· == bF)=some k:=hk
 have hpl:dX ls=if e≠0 then (zScr,n+5,e) else match jT (ls.drop (6+k)) (6+k) with
    | .inr i=>(zScr,i+1,5)
    | .inl bs=>if schk c l bs≠0 then (zScr,0,schk c l bs) else ((c,l,bs),0,0):=by
  unfold dX
  rw[hinv]
  simp only[hfd]
  rw[←hmid2,hpe]
  rfl
 by_cases he:e=0
 ·subst he
  have d4:(!decide ((0:Int)=0))=false:=rfl
  rw[hpl,if_neg (fun h=>h rfl)]
  obtain⟨p1,p2,p3,p4⟩:=tb _ _ [] _ 1 _ (Nat.le_refl _) (by decide) (by intro p hp; cases hp) hpe
  refine sR<|rC<|nQ ?_;refine wF<|zX<|sR ?_;refine rC ?_;refine rQ (ak hpp rfl rfl (aj ae) (.inl rfl) (fun _=>rfl)) ?_;iterate 7 refine rC ?_
  refine zW<|zD ?_;refine zJ<|kS<|sR ?_;refine zD ?_;refine rX<|zW ?_;refine rC ?_;refine rQ iD ?_;refine rC<|zP ?_
  refine wc_inv (fun x:Nat×List SAct=>⟨[(13,.int .i64 x.1),(5,.d (.arr 1 strD ls)),(2,.ptr 64 [])],[(64,some (rowA c l x.2 65)),(65,some (.ds 48 5 false aX x.2))],72,Tryz.f24.ntmps,64⟩) (fun x=>x.1≤ls.length∧x.2.length≤x.1∧jT (ls.drop (6+k)) (6+k)=preA x.2 (jT (ls.drop x.1) x.1)) (fun x=>ls.length-x.1) (6+k,[]) [(65,none)] ⟨by show 6+k≤ls.length; omega,Nat.zero_le _,(uM _).symm⟩
   (lg zj ⟨⟨rfl,rfl,_,rfl,uw⟩,⟨rfl,rfl,rfl⟩,trivial⟩) ?_
  rintro⟨i,bs⟩ ⟨hi,hbi,hac0⟩
  simp only at hi hbi hac0
  refine bv ?_
  by_cases hlt:i<ls.length
  ·have d5:decide ((i:Int)<(ls.length:Int))=true:=dT (by omega)
   obtain⟨x,hx⟩:∃x,ls[i]?=some x:=⟨_,List.getElem?_eq_getElem hlt⟩
   have hx2:ls[((i:Int)).toNat]?=some x:=by rw[Int.toNat_natCast]; exact hx
   have hdr:ls.drop i=x::ls.drop (i+1):=by
    rw[List.drop_eq_getElem_cons hlt]
    rw[List.getElem?_eq_getElem hlt]at hx
    rw[Option.some.inj hx]
   have hlen:bs.length+1≤1048576:=by omega
   obtain⟨a,res,hac,hq⟩:=yV x (hmem x (List.mem_of_getElem? hx))
   unfold nK at hac
   rw[hdr,jT,hq]at hac0
   cases res with
   | true =>
    rw[if_pos rfl]at hac0
    have hac1:jT (ls.drop (6+k)) (6+k)=preA (bs++[a]) (jT (ls.drop (i+1)) (i+1)):=hac0.trans (ta bs a _)
    refine qR<|zD ?_;refine rQ iE ?_;refine rC ?_;refine zI<|zQ<|zS ?_;refine zD ?_;refine rQ (aA aa rfl rfl rfl rfl rfl (by omega) hx2) ?_;refine rQ iL ?_;refine rQ (ak hac rfl rfl (aj ae) (.inl rfl) (fun _=>rfl)) ?_;refine zU ?_;refine rN ?_;refine rW ?_;refine rC<|zW ?_;refine zD ?_;refine zJ<|kS<|ao ?_;refine rC ?_;iterate 2 refine rQ iM ?_
    refine aN (aV (s:=5) aa rfl rfl rfl rfl rfl rfl rfl rfl) rfl ?_;refine aJ (bR (xs:=bs) (s:=5) (enc:=aX) aa a rfl rfl rfl rfl rfl rfl rfl rfl rfl hlen rfl) rfl ?_;refine rC ?_;refine aW (aF aa rfl rfl rfl ⟨_,⟨_,⟨rfl,rfl,rfl⟩,rfl⟩,rfl⟩ rfl)<|aB<|zC<|ao ?_;refine rC ?_;refine rQ iD ?_;refine rC<|aB ?_
    exact aY (i+1,bs++[a]) [(65,some 240)] ⟨hlt,by simp; omega,hac1⟩ (by show ls.length-(i+1)<ls.length-i; omega) (lg zj ⟨⟨rfl,rfl,_,rfl,aE.of_eq (by rw[rowA,List.length_append]; rfl)⟩,zR,trivial⟩)
   | false =>
    rw[if_neg (by decide)]at hac0
    rw[hac0]
    refine qR<|zD ?_;refine rQ iE ?_;refine rC ?_;refine zI<|zQ<|zS ?_;refine zD ?_;refine rQ (aA aa rfl rfl rfl rfl rfl (by omega) hx2) ?_;refine rQ iL ?_;refine rQ (ak hac rfl rfl (aj ae) (.inl rfl) (fun _=>rfl)) ?_;refine zU ?_;refine rN ?_;refine rW ?_;refine rC<|zW ?_;refine zD ?_;refine zO<|sR ?_;refine rQ iS ?_;refine rC ?_;refine rQ iD ?_;refine rW ?_;refine zD<|zT<|ba<|zB<|bT<|zB ?_
    exact⟨trivial,_,rfl,[],lg ⟨⟨_,rfl,AVLe.tup1 (AVLe.d gS rfl) rfl⟩,rfl,trivial⟩ trivial⟩
  ·have d5:decide ((i:Int)<(ls.length:Int))=false:=dF (by omega)
   rw[show ls.drop i=[] from List.drop_eq_nil_of_le (by omega),jT]at hac0
   rw[hac0]
   simp only[preA,List.append_nil]
   refine eC (env':=[(13,_),(5,_),(2,_)]) (h':=[(64,some _)]) 65 _ rfl ⟨zE,zE,zE,trivial⟩ ⟨⟨rfl,_,rfl,FrzR.box (Frz.dcons (.refl _) (Frz.dcons (.refl _) (Frz.dcons (Frz.own rfl) (.refl _))))⟩,trivial⟩ ?_
   obtain⟨_,_,hcw⟩:=tD hinv
   have hck:=dK c l bs hcw.ok (wx p3) (by omega)
   have hle:DLe (.cons (bt c) (.cons (.arx 1 fQ l) (.cons (e6 bs) .nil))) (bB c l bs):=DLe.cons (.refl _) (DLe.cons (y7 l) (.refl _))
   have hcl:=wm bs
   obtain⟨e5,he5⟩:∃x,schk c l bs=x:=⟨_,rfl⟩
   rw[he5]at hck ⊢
   by_cases h5z:e5=0
   ·subst h5z
    have d6:(!decide ((0:Int)=0))=false:=rfl
    rw[if_neg (fun h=>h rfl)]
    refine qR<|zD ?_;refine rQ iE ?_;refine rC ?_;refine zG<|zX<|qR ?_;refine rQ iM ?_;refine rQ (ak hck rfl rfl (bu rfl trivial hle ae) (.inl rfl) (fun _=>rfl)) ?_;refine rC<|nR ?_;refine zD ?_;refine zJ<|kS<|sR ?_;refine rC ?_;refine rQ iB ?_;refine rQ (ak hcl rfl rfl (aj ae) (.inl rfl) (fun _=>rfl)) ?_;refine rC ?_;refine rX<|nR ?_;refine rQ iM ?_;refine rW ?_;refine zD<|zT ?_
    exact⟨trivial,_,rfl,[],lf⟩
   ·have d6:(!decide (e5=0))=true:=by rw[dF h5z]; rfl
    rw[if_pos h5z]
    refine qR<|zD ?_;refine rQ iE ?_;refine rC ?_;refine zG<|zX<|qR ?_;refine rQ iM ?_;refine rQ (ak hck rfl rfl (bu rfl trivial hle ae) (.inl rfl) (fun _=>rfl)) ?_;refine rC<|nR ?_;refine zD ?_;refine zI<|sR ?_;refine rQ iS ?_;refine rC ?_;refine rW ?_;refine zD<|zT<|ba ?_
    exact⟨trivial,_,rfl,[],lg ⟨⟨_,rfl,AVLe.tup1 (AVLe.d gS rfl) rfl⟩,rfl,trivial⟩ trivial⟩
 ·have d4:(!decide (e=0))=true:=by rw[dF he]; rfl
  rw[hpl,if_pos he]
  have hnn:=tc _ _ _ _ _ _ _ (Nat.le_refl _) hpe
  refine sR<|rC<|nQ ?_;refine wF<|zX<|sR ?_;refine rC ?_;refine rQ (ak hpp rfl rfl (aj ae) (.inl rfl) (fun _=>rfl)) ?_;iterate 7 refine rC ?_
  refine zW<|zD ?_;refine zI<|sR ?_;refine rQ iS ?_;refine rC ?_;refine rQ iD ?_;refine rC ?_;refine rW ?_;refine zD<|zT<|ba ?_
  exact⟨trivial,_,rfl,[],lg ⟨⟨_,rfl,AVLe.tup1 (AVLe.d gS rfl) rfl⟩,rfl,trivial⟩ trivial⟩
def gX (t:List UInt8):SScr×Nat×Int:=if 1048576<t.length then (zScr,0,3) else n7 t
theorem jY (t:List UInt8):FnIs Tryz.prog 24 [.d (strD t)] [] (pa (gX t).1 (gX t).2.1 (gX t).2.2) []:=by
 by_cases h:1048576<t.length
 ·rw[show gX t=(zScr,0,3) from if_pos h]
  exact oP t h
 rw[show gX t=n7 t from if_neg h]
 by_cases hl:t.getLast?=some 10
 ·rw[n7,if_pos hl]
  exact oO t (by omega) hl
 ·rw[n7,if_neg hl]
  exact nO t (by omega) hl
end Go.Proofs.YtpmhnpnmpjimnaaGreatDoor
namespace Go.Proofs.YtpmhnpnmpjimnaaGreatDoor
open Go.Eng Go.Plain
set_option maxHeartbeats 32000000
set_option maxRecDepth 20000
def encV:Bool×POp→D
 | (true,o)=>.cons (u8s o.kind) (.cons (i6 o.index) (.cons (.sc nil_) .nil))
 | (false,o)=>br o
def VOk (x:Bool×POp):Prop:=x.1=true→x.2.data=[]
theorem xL {w:World} {X:Nat→Prop} {x:Bool×POp} (hx:VOk x) {cs:List Value} (h:Enc w X (encV x) cs):Enc w X (br x.2) cs:=by
 obtain⟨b,o⟩:=x
 cases b with
 | false=>exact h
 | true =>
  have hd:o.data=[]:=hx rfl
  obtain⟨c1,r1,rfl,h1,c2,r2,rfl,h2,c3,r3,rfl,h3,h4⟩:=h
  exact⟨c1,_,rfl,h1,c2,_,rfl,h2,c3,r3,rfl,.inl ⟨by rw[hd]; rfl,h3.1⟩,h4⟩
theorem jL {α β:Type} {s:Nat} {enc:α→D} {enc':β→D} {g:α→β} {xs:List α} {ys:List β} (hy:ys=xs.map g) (h:∀x∈xs,DLe (enc x) (enc' (g x))):DLe (.arr s enc xs) (.arr s enc' ys):=by
 subst hy
 rintro w X cs (⟨rfl,rfl⟩ | ⟨a,c,rfl,h1,h2,f,hf⟩)
 ·exact .inl ⟨rfl,rfl⟩
 ·refine .inr ⟨a,c,by rw[List.length_map],by rw[List.length_map]; exact h1,h2,f,fun i hi=>?_⟩
  rw[List.length_map]at hi
  obtain⟨g1,g2,g3⟩:=hf i hi
  refine⟨?_,g2,g3⟩
  rw[List.getElem_map]
  exact h _ (List.getElem_mem _) _ _ _ g1
abbrev encPV (l:List (Bool×POp)):D :=.arr 3 encV l
end Go.Proofs.YtpmhnpnmpjimnaaGreatDoor
namespace Go.Eng
open Go.RowKit
theorem Frz.ownxe {r te s:Nat} {α:Type} {enc:α→D} {xs:List α} {len:Nat} (hl:len=xs.length):Frz r (.ds te s true enc xs) (.own r 0 len s none) (.d (.arx s enc xs)):=by
 subst hl
 refine⟨rfl,fun _=>rfl,fun _ _=>trivial,fun σ w X X' hx hn hr cs h=>?_⟩
 rcases h with ⟨h0,_,hl,_,rfl⟩ | ⟨b,c,ad,hb,rfl,hle1,hle2,hle3,had⟩
 ·exact .inl ⟨List.eq_nil_of_length_eq_zero hl,none,rfl⟩
 ·rcases hr with ⟨h0,rfl⟩ | ⟨b',c',cur,hb',hex,hh,hsz,hlen,hmax,f,hf,htake⟩
  ·rw[hb]at h0; cases h0
  ·rw[hb]at hb'
   cases hb'
   have hc:c=xs.length:=hex rfl
   subst hc
   refine .inr ⟨ad,by simp,hmax,f,fun i hi=>?_⟩
   obtain⟨h1,h2⟩:=hf i hi
   have hoff:ad=⟨b,0*s,none⟩:=had (by omega)
   subst hoff
   refine⟨Enc.sub hx _ _ h1,h2,fun j u hj=>⟨?_,hn b _ hb⟩⟩
   rw[db,cell_of_row w b _ cur te (0,0) hh]
   have hjs:j<s:=by rw[←h2]; exact (List.getElem?_eq_some_iff.1 hj).1
   have hcg:=cY (f:=f) (s:=s) xs.length (fun i hi=>(hf i hi).2) i j hi hjs
   rw[←htake,hj,List.getElem?_take]at hcg
   have hlt2:i*s+j<xs.length*s:=by
    have:(i+1)*s≤xs.length*s:=Nat.mul_le_mul_right s hi
    rw[Nat.add_mul]at this; omega
   rw[if_pos hlt2]at hcg
   rw[←Array.getElem?_toList,Nat.zero_mul,Nat.zero_add]
   exact hcg
section
variable {P : Program} {T : Tab} {env : Env} {h : Upds} {n : Nat}
end
end Go.Eng
namespace Go.Proofs.YtpmhnpnmpjimnaaGreatDoor
open Go.Eng Go.Plain
set_option maxHeartbeats 32000000
set_option maxRecDepth 20000
attribute [local irreducible] WC RegS RegD SeqQ BlkQ ScoQ RegK CutK Sat SatN FnIs LoopQ aq OpIs
theorem pv {d:Nat} (h:d<16):(hexD.drop d).take (d+1-d)=[hexC d]:=by
 have:∀d,d<16→(hexD.drop d).take (d+1-d)=[hexC d]:=by decide
 exact this d h
theorem s7 (l:List UInt8) (hL:l.length≤1000000000):FnIs Tryz.prog 23 [.d (encB l)] [] (.d (strD (hexP l))) []:=by
 have hbl:(byI l).length=l.length:=ch l
 refine aw aa Tryz.func23 rfl rfl rfl ?_
 by_cases hn:l=[]
 ·have hd:decide (((byI l).length:Int)=0)=true:=by rw[hn]; rfl
  rw[show hexP l=[45] from if_pos hn]
  refine sR<|rC<|zW ?_;refine rC ?_;refine rQ iE ?_;refine rC ?_;refine zI<|sR ?_;refine rC<|zT<|ba ?_
  exact⟨trivial,[],lf⟩
 have hpos:0<l.length:=List.length_pos_iff.2 hn
 have hd:decide (((byI l).length:Int)=0)=false:=dF (by omega)
 refine sR<|rC<|zW ?_;refine rC ?_;refine rQ iE ?_;refine rC ?_;refine zG<|kS<|sR ?_;refine rC<|nQ<|sR ?_;refine rC<|zP ?_
 refine wc_inv (fun i:Nat=>⟨[(4,.int .i64 i),(3,.d (strD ((l.take i).flatMap hexB))),(0,.d (encB l))],[],72,Tryz.f23.ntmps,64⟩) (fun i=>i≤l.length) (fun i=>l.length-i) 0 [] (Nat.zero_le _)
  (lg zj trivial) ?_
 intro i hi
 refine bv ?_
 by_cases hlt:i<l.length
 ·have d1:decide ((i:Int)<((byI l).length:Int))=true:=dT (by omega)
  obtain⟨b,hb⟩:∃b,l[i]?=some b:=⟨_,List.getElem?_eq_getElem hlt⟩
  have hb':(byI l)[((i:Int)).toNat]?=some (b.toNat:Int):=by rw[Int.toNat_natCast]; exact jQ hb
  have hb8:b.toNat<256:=b.toNat_lt
  have hw16:IntKind.u8.wrap ((b.toNat/16:Nat):Int)=((b.toNat/16:Nat):Int):=cG (by omega)
  have hw1:IntKind.u8.wrap (((b.toNat/16:Nat):Int)+1)=((b.toNat/16+1:Nat):Int):=cG (a:=b.toNat/16+1) (by omega)
  have hw2:IntKind.u8.wrap (((b.toNat % 16:Nat):Int)+1)=((b.toNat % 16+1:Nat):Int):=cG (a:=b.toNat % 16+1) (by omega)
  have hle1:b.toNat/16+1≤hexD.length:=by show _≤16; omega
  have hle2:b.toNat % 16+1≤hexD.length:=by show _≤16; omega
  have hcut1:=pv (d:=b.toNat/16) (by omega)
  have hcut2:=pv (d:=b.toNat % 16) (by omega)
  have hpl:((l.take i).flatMap hexB).length=2*i:=by rw[fy,List.length_take,Nat.min_eq_left hi]
  have hlen1:((l.take i).flatMap hexB).length+[hexC (b.toNat/16)].length≤9223372036854775807:=by rw[hpl]; simp; omega
  have hlen2:((l.take i).flatMap hexB++[hexC (b.toNat/16)]).length+[hexC (b.toNat % 16)].length≤9223372036854775807:=by rw[List.length_append,hpl]; simp; omega
  have hgo:=l6 hb
  refine qR<|zD ?_;refine rQ iE ?_;refine rC ?_;refine zI<|zQ<|aZ<|b9 ?_;refine aH (by kernel_rfl) ?_;refine dC [0] [] ?_;refine dC [4] [] ?_;refine dQ [16,17] [] iA ?_;refine dQ [18] [] iL ?_;refine dQ [19] [] (ct (a:=b.toNat) (b:=16) aa rfl rfl rfl (by decide) hw16) ?_;refine dC [0] [] ?_;refine dC [4] [] ?_;refine dQ [21,22] [] iA ?_;refine dQ [23] [] iL ?_;refine dQ [24] [] (bn (a:=b.toNat) (b:=16) aa rfl rfl rfl (by decide)) ?_;refine dC [20] [] ?_;refine dC [25] [] ?_;refine aC (by kernel_rfl)<|aU ?_;refine aH (by kernel_rfl) ?_;refine dC [3] [] ?_;iterate 2 refine dC [5] [] ?_
  refine dQ [28] [] (bk (m:=((b.toNat/16+1:Nat):Int)) aa rfl rfl hw1) ?_;refine dQ [27,29] [] (rF (l:=hexD) (lo:=b.toNat/16) (hi:=b.toNat/16+1) aa rfl rfl rfl rfl hle1 (by omega) hcut1) ?_;refine dQ [26,30] [] (aR (a:=(l.take i).flatMap hexB) (b:=[hexC (b.toNat/16)]) rfl rfl hlen1 rfl) ?_;iterate 2 refine dC [6] [] ?_
  refine dQ [33] [] (bk (m:=((b.toNat % 16+1:Nat):Int)) aa rfl rfl hw2) ?_;refine dQ [32,34] [] (rF (l:=hexD) (lo:=b.toNat % 16) (hi:=b.toNat % 16+1) aa rfl rfl rfl rfl hle2 (by omega) hcut2) ?_;refine dQ [31,35] [] (aR (a:=(l.take i).flatMap hexB++[hexC (b.toNat/16)]) (b:=[hexC (b.toNat % 16)]) rfl rfl hlen2 rfl) ?_;refine dC [36] [] ?_;refine aC (by kernel_rfl)<|zC<|ao ?_;refine rC ?_;refine rQ iD ?_;refine rC<|aB ?_
  exact aY (i+1) [] hlt (by omega) (lg ⟨zE,rfl,⟨_,rfl,AVLe.of_eq (by rw[hgo]; rfl)⟩,rfl,zE,rfl,trivial⟩ trivial)
 ·have he:i=l.length:=by omega
  subst he
  have d1:decide ((l.length:Int)<((byI l).length:Int))=false:=dF (by omega)
  rw[List.take_length,show hexP l=l.flatMap hexB from if_neg hn]
  refine qR<|zD ?_;refine rQ iE ?_;refine rC ?_;refine zG<|zX<|sR ?_;refine zD<|zT ?_
  exact⟨trivial,[],lf⟩
def cA (p:SAct→Bool) (l:List SAct):Nat:=l.countP p
theorem wu {p:SAct→Bool} {l:List SAct} {i:Nat} {a:SAct} (h:l[i]?=some a):cA p (l.take (i+1))=cA p (l.take i)+if p a=true then 1 else 0:=by
 rw[List.take_add_one,h,Option.toList_some,cA,cA,List.countP_append,List.countP_cons,List.countP_nil,Nat.zero_add]
theorem wt (p:SAct→Bool) (l:List SAct):cA p l≤l.length:=List.countP_le_length
def isP (a:SAct):Bool:=decide (a.kind=1)
def isE (a:SAct):Bool:=decide (a.kind=2)||decide (a.kind=3)||decide (a.kind=4)
def isF (a:SAct):Bool:=decide (a.kind=5)
theorem nz (c:SCfg) (l:List (List POp)) (bs:List SAct) (hL:bs.length≤1000000000):FnIs Tryz.prog 9 [.d (bB c l bs)] [] (.tup (.acons (.int .i64 (cA isP bs)) (.acons (.int .i64 (cA isE bs)) (.acons (.int .i64 (cA isF bs)) .anil)))) []:=by
 refine aw aa Tryz.func9 rfl rfl rfl ?_;refine sR<|rN ?_;refine zU<|zW ?_;refine rC ?_;refine rQ iB ?_;refine rQ iE ?_;refine rC<|zP ?_
 refine wc_inv (fun i:Nat=>⟨[(10,.int .i64 i),(9,.int .i64 bs.length),(8,.d (e6 bs)),(2,.int .i64 (cA isP (bs.take i))),(3,.int .i64 (cA isE (bs.take i))),(4,.int .i64 (cA isF (bs.take i)))],[],72,Tryz.f9.ntmps,64⟩) (fun i=>i≤bs.length) (fun i=>bs.length-i) 0 [] (Nat.zero_le _)
  (lg zg trivial) ?_
 intro i hi
 refine bv ?_
 by_cases hlt:i<bs.length
 ·have d0:decide ((i:Int)<(bs.length:Int))=true:=dT (by omega)
  obtain⟨a,ha⟩:∃a,bs[i]?=some a:=⟨_,List.getElem?_eq_getElem hlt⟩
  have ha2:bs[((i:Int)).toNat]?=some a:=by rw[Int.toNat_natCast]; exact ha
  have g1:=wu (p:=isP) ha
  have g2:=wu (p:=isE) ha
  have g3:=wu (p:=isF) ha
  have b1:=wt isP (bs.take i)
  have b2:=wt isE (bs.take i)
  have b3:=wt isF (bs.take i)
  rw[List.length_take]at b1 b2 b3
  refine sR<|rC<|nQ ?_;refine wT<|zQ<|zS ?_;refine rQ (aA aa rfl rfl rfl rfl rfl (by omega) ha2) ?_;refine rQ iL ?_;refine rN ?_;refine rW<|nR ?_;refine rC ?_;refine rQ iB<|zP<|sR ?_;refine zD<|nS ?_
  by_cases k1:a.kind=1
  ·skip
   have d1:decide (a.kind=1)=true:=dT (by omega)
   rw[if_pos (by simp[isP]; omega)]at g1
   rw[if_neg (by simp[isE]; omega)]at g2
   rw[if_neg (by simp[isF]; omega)]at g3
   refine wT<|ao ?_;refine rC ?_;refine rQ iD ?_;refine rC<|aB ?_;iterate 2 refine ew ?_
   refine aU<|ao<|rQ iD ?_;refine rC<|aB ?_
   exact aY (i+1) [] hlt (by omega) (lg ⟨zE,rfl,zE,rfl,zE,rfl,⟨_,rfl,AVLe.of_eq (by rw[g1]; rfl)⟩,rfl,⟨_,rfl,AVLe.of_eq (by rw[g2]; rfl)⟩,rfl,⟨_,rfl,AVLe.of_eq (by rw[g3]; rfl)⟩,rfl,trivial⟩ trivial)
  by_cases k2:a.kind=2
  ·skip
   have d1:decide (a.kind=1)=false:=dF (by omega)
   have d2:decide (a.kind=2)=true:=dT (by omega)
   rw[if_neg (by simp[isP]; omega)]at g1
   rw[if_pos (by simp[isE]; omega)]at g2
   rw[if_neg (by simp[isF]; omega)]at g3
   refine wF<|qR ?_;refine zD ?_;refine zI<|kS ?_;refine wT<|ao ?_;refine rC ?_;refine rQ iD ?_;refine rC<|aB ?_;iterate 2 refine ew ?_
   refine aU<|ao<|rQ iD ?_;refine rC<|aB ?_
   exact aY (i+1) [] hlt (by omega) (lg ⟨zE,rfl,zE,rfl,zE,rfl,⟨_,rfl,AVLe.of_eq (by rw[g1]; rfl)⟩,rfl,⟨_,rfl,AVLe.of_eq (by rw[g2]; rfl)⟩,rfl,⟨_,rfl,AVLe.of_eq (by rw[g3]; rfl)⟩,rfl,trivial⟩ trivial)
  by_cases k3:a.kind=3
  ·skip
   have d1:decide (a.kind=1)=false:=dF (by omega)
   have d2:decide (a.kind=2)=false:=dF (by omega)
   have d3:decide (a.kind=3)=true:=dT (by omega)
   rw[if_neg (by simp[isP]; omega)]at g1
   rw[if_pos (by simp[isE]; omega)]at g2
   rw[if_neg (by simp[isF]; omega)]at g3
   refine wF<|qR ?_;refine zD ?_;refine zG<|sR ?_;refine zD ?_;refine zI<|kS ?_;refine wT<|ao ?_;refine rC ?_;refine rQ iD ?_;refine rC<|aB ?_;iterate 2 refine ew ?_
   refine aU<|ao<|rQ iD ?_;refine rC<|aB ?_
   exact aY (i+1) [] hlt (by omega) (lg ⟨zE,rfl,zE,rfl,zE,rfl,⟨_,rfl,AVLe.of_eq (by rw[g1]; rfl)⟩,rfl,⟨_,rfl,AVLe.of_eq (by rw[g2]; rfl)⟩,rfl,⟨_,rfl,AVLe.of_eq (by rw[g3]; rfl)⟩,rfl,trivial⟩ trivial)
  by_cases k4:a.kind=4
  ·skip
   have d1:decide (a.kind=1)=false:=dF (by omega)
   have d2:decide (a.kind=2)=false:=dF (by omega)
   have d3:decide (a.kind=3)=false:=dF (by omega)
   have d4:decide (a.kind=4)=true:=dT (by omega)
   rw[if_neg (by simp[isP]; omega)]at g1
   rw[if_pos (by simp[isE]; omega)]at g2
   rw[if_neg (by simp[isF]; omega)]at g3
   refine wF<|qR ?_;refine zD ?_;refine zG<|sR ?_;refine zD ?_;refine zG<|ao ?_;refine zD ?_;refine zI<|ao ?_;refine rC ?_;refine rQ iD ?_;refine rC<|aB ?_;iterate 2 refine ew ?_
   refine aU<|ao<|rQ iD ?_;refine rC<|aB ?_
   exact aY (i+1) [] hlt (by omega) (lg ⟨zE,rfl,zE,rfl,zE,rfl,⟨_,rfl,AVLe.of_eq (by rw[g1]; rfl)⟩,rfl,⟨_,rfl,AVLe.of_eq (by rw[g2]; rfl)⟩,rfl,⟨_,rfl,AVLe.of_eq (by rw[g3]; rfl)⟩,rfl,trivial⟩ trivial)
  by_cases k5:a.kind=5
  ·skip
   have d1:decide (a.kind=1)=false:=dF (by omega)
   have d2:decide (a.kind=2)=false:=dF (by omega)
   have d3:decide (a.kind=3)=false:=dF (by omega)
   have d4:decide (a.kind=4)=false:=dF (by omega)
   have d5:decide (a.kind=5)=true:=dT (by omega)
   rw[if_neg (by simp[isP]; omega)]at g1
   rw[if_neg (by simp[isE]; omega)]at g2
   rw[if_pos (by simp[isF]; omega)]at g3
   refine wF<|qR ?_;refine zD ?_;refine zG<|sR ?_;refine zD ?_;refine zG<|ao ?_;refine zD ?_;refine zG<|sR ?_;refine zD ?_;refine zI<|ao ?_;refine rC ?_;refine rQ iD ?_;refine rC<|aB ?_;iterate 2 refine ew ?_
   refine aU<|ao<|rQ iD ?_;refine rC<|aB ?_
   exact aY (i+1) [] hlt (by omega) (lg ⟨zE,rfl,zE,rfl,zE,rfl,⟨_,rfl,AVLe.of_eq (by rw[g1]; rfl)⟩,rfl,⟨_,rfl,AVLe.of_eq (by rw[g2]; rfl)⟩,rfl,⟨_,rfl,AVLe.of_eq (by rw[g3]; rfl)⟩,rfl,trivial⟩ trivial)
  ·skip
   have d1:decide (a.kind=1)=false:=dF (by omega)
   have d2:decide (a.kind=2)=false:=dF (by omega)
   have d3:decide (a.kind=3)=false:=dF (by omega)
   have d4:decide (a.kind=4)=false:=dF (by omega)
   have d5:decide (a.kind=5)=false:=dF (by omega)
   rw[if_neg (by simp[isP]; omega)]at g1
   rw[if_neg (by simp[isE]; omega)]at g2
   rw[if_neg (by simp[isF]; omega)]at g3
   refine wF<|qR ?_;refine zD ?_;refine zG<|sR ?_;refine zD ?_;refine zG<|ao ?_;refine zD ?_;refine zG<|sR ?_;refine zD ?_;refine zG<|bG ?_;iterate 2 refine ew ?_
   refine aU<|ao<|rQ iD ?_;refine rC<|aB ?_
   exact aY (i+1) [] hlt (by omega) (lg ⟨zE,rfl,zE,rfl,zE,rfl,⟨_,rfl,AVLe.of_eq (by rw[g1]; rfl)⟩,rfl,⟨_,rfl,AVLe.of_eq (by rw[g2]; rfl)⟩,rfl,⟨_,rfl,AVLe.of_eq (by rw[g3]; rfl)⟩,rfl,trivial⟩ trivial)
 ·have he:i=bs.length:=by omega
  subst he
  have d0:decide ((bs.length:Int)<(bs.length:Int))=false:=dF (by omega)
  rw[List.take_length]
  refine sR<|rC<|nQ ?_;refine wF<|zX<|sR ?_;iterate 6 refine rC ?_
  refine zT ?_
  exact⟨trivial,[],lf⟩
def nr:Option SAct→D
 | none=>.cons (u8s 0) (.cons (i6 0) (.cons (i6 0) (.cons (.sc (.slice none 0 0)) (.cons (i6 0) .nil))))
 | some a=>aX a
theorem wK (l:List SAct):eQ [.d (e6 l)] [.d (.arr 5 nr (l.map some))]:=⟨⟨AVLe.d (jL rfl fun _ _ _ _ _ h=>h) rfl,fun _ _=>trivial⟩,trivial⟩
theorem sG (l:List SAct):aE (.ds 48 5 true nr (l.map some)) (.ds 48 5 true aX l):=
 aE.ds_map (fun o=>match o with | some x=>x | none=>⟨0,0,0,[],0⟩) (by rw[List.map_map]; exact (List.map_id _).symm) fun x hx=>by
  obtain⟨y,_,rfl⟩:=List.mem_map.1 hx
  exact fun _ _ _ h=>h
theorem ni (l:List (Option SAct)) (hp:0<l.length) (hlen:l.length≤1048576):FnIs Tryz.prog 14 [.d (.arr 5 nr l)] [] (.own 64 0 l.length 5 none) [(64,.ds 48 5 true nr l)]:=by
 have hd:decide ((l.length:Int)=0)=false:=dF (by omega)
 have hcp:l.take (List.replicate l.length (none:Option SAct)).length++(List.replicate l.length (none:Option SAct)).drop l.length=l:=by simp
 have hmin:min l.length (List.replicate l.length (none:Option SAct)).length=l.length:=by simp
 refine aw aa Tryz.func14 rfl rfl rfl ?_;refine sR<|rC<|zW ?_;refine rC ?_;refine rQ iE ?_;refine rC ?_;refine zG<|kS<|sR ?_;refine rC ?_;refine rQ iE ?_;refine aN (da (enc:=nr) (s:=5) (N:=l.length) aa none rfl rfl rfl rfl rfl rfl rfl hlen rfl) rfl ?_;refine rC<|nR ?_;refine zD ?_;refine aN (jM (r:=64+8+8+8+8+8+8) (xs:=List.replicate l.length none) (ys:=l) (enc:=nr) (zs:=l) (m:=l.length) aa rfl rfl rfl rfl (by rw[List.length_replicate]; rfl) rfl rfl hcp hmin) rfl<|nR ?_;refine zD<|zT ?_
 exact⟨trivial,[(64,some _)],lg zV ⟨zR,trivial⟩⟩
theorem nj (l:List SAct) (hlen:l.length≤1048576):FnIs Tryz.prog 14 [.d (e6 l)] [] (.d (jn l)) []:=by
 cases l with
 | nil =>
  have hd:decide ((0:Int)=0)=true:=rfl
  refine aw aa Tryz.func14 rfl rfl rfl ?_;refine sR<|rC<|zW ?_;refine rC ?_;refine rQ iE ?_;refine rC ?_;refine zO<|sR ?_;refine rC<|zT<|ba ?_
  exact⟨trivial,[],lg ⟨⟨_,rfl,nil_arx _ _⟩,rfl,trivial⟩ trivial⟩
 | cons a l=>exact FnIs.args_le (wK (a::l)) ((ni ((a::l).map some) (by simp) (by rw[List.length_map]; exact hlen)).freeze_out 64 _ rfl (Frz.row_le (sG (a::l)) (Frz.ownxe (by simp))) trivial)
def pickA (n:Int):SAct:=⟨1,n,0,[],0⟩
def mf:Bool×SAct→D
 | (true,a)=>.cons (u8s a.kind) (.cons (i6 a.thread) (.cons (i6 a.sector) (.cons (.sc nil_) (.cons (i6 a.back) .nil))))
 | (false,a)=>aX a
def AVOk (x:Bool×SAct):Prop:=x.1=true→x.2.bytes=[]
theorem vZ {x:Bool×SAct} (h:AVOk x):DLe (mf x) (aX x.2):=by
 obtain⟨b,⟨k,t,s,y,r⟩⟩:=x
 cases b with
 | false=>exact fun _ _ _ h=>h
 | true =>
  have:y=[]:=h rfl
  subst this
  exact iO k t s r
theorem tQ {l:List (Bool×SAct)} {bs:List SAct} (hb:bs=l.map (·.2)) (h:∀x∈l,AVOk x):DLe (.arr 5 mf l) (e6 bs):=jL hb fun x hx=>vZ (h x hx)
theorem ra (x:Bool×SAct):(mf x).size=5:=by obtain⟨b,a⟩:=x; cases b <;> rfl
theorem pk (f c:Nat):(lvl f c)[0]?=some c:=by
 cases f with
 | zero=>rfl
 | succ f=>rw[lvl]; split <;> rfl
theorem lP:∀(f c i x:Nat),i+1<(lvl f c).length→(lvl f c)[i]?=some x→x≠1∧(lvl f c)[i+1]?=some ((x+3)/4)
 | 0,c,i,x,h,_=>by simp[lvl]at h
 | f+1,c,i,x,h,hx=>by
  rw[lvl]at h hx ⊢
  by_cases hc:c=1
  ·rw[if_pos hc]at h; simp at h
  ·rw[if_neg hc]at h hx ⊢
   cases i with
   | zero =>
    have:c=x:=Option.some.inj hx
    subst this
    exact⟨hc,by rw[List.getElem?_cons_succ]; exact pk f _⟩
   | succ i =>
    rw[List.getElem?_cons_succ]at hx
    rw[List.getElem?_cons_succ]
    exact lP f _ i x (by simpa using h) hx
theorem pj:∀(g c:Nat),1≤c→c≤4 ^ g→(lvl (g+1) c)[(lvl (g+1) c).length-1]?=some 1
 | g,c,h1,h2=>by
  by_cases hc:c=1
  ·rw[lvl,if_pos hc,hc]; rfl
  ·obtain⟨k,rfl,h3,h4⟩:=jz h1 hc h2
   have ih:=pj k _ h4 h3
   have hp:0<(lvl (k+1) ((c+3)/4)).length:=List.length_pos_iff.2 (qI _ _)
   rw[lvl,if_neg hc,List.length_cons,show (lvl (k+1) ((c+3)/4)).length+1-1=((lvl (k+1) ((c+3)/4)).length-1)+1 by omega,List.getElem?_cons_succ]
   exact ih
theorem ky (n:Nat) (h2:n≤4096) (q x:Nat) (hx:(dD n)[q]?=some x):FnIs Tryz.prog 81 [.int .i64 n,.int .i64 q] [] (.int .i64 x) []:=by
 have hql:=(List.getElem?_eq_some_iff.1 hx).1
 have hll:=n9 6 ((n+3)/4)
 have hq7:q<7:=by unfold dD at hql; omega
 refine aw aa Tryz.func81 rfl rfl rfl ?_;refine sR<|rC<|nR ?_;refine zD<|zW ?_;refine rC<|zP ?_
 refine wc_inv (fun s:Nat×Nat=>⟨[(6,.int .i64 s.1),(5,.int .i64 s.2),(1,.int .i64 q)],[],64,Tryz.f81.ntmps,64⟩) (fun s=>s.1≤q+1∧s.2≤5000∧(s.1=0→s.2=n)∧(∀j,s.1=j+1→(dD n)[j]?=some s.2)) (fun s=>q+1-s.1) (0,n) [] ⟨by omega,by omega,fun _=>rfl,fun j hj=>by cases hj⟩
  (lg zj trivial) ?_
 rintro⟨l,c⟩ ⟨hl,hc,h0,hj⟩
 simp only at hl hc h0 hj
 have hw1:IntKind.i64.wrap ((c:Int)+3)=((c+3:Nat):Int):=by rw[show (c:Int)+3=((c+3:Nat):Int) by omega]; exact aI (by omega) (by omega)
 have hw2:IntKind.i64.wrap (((c+3)/4:Nat):Int)=(((c+3)/4:Nat):Int):=aI (by omega) (by omega)
 refine bv ?_
 by_cases hlt:l≤q
 ·have d1:decide ((l:Int)≤(q:Int))=true:=dT (by omega)
  cases l with
  | zero =>
   have hcn:=h0 rfl
   have d2:decide (0<((0:Nat):Int))=false:=rfl
   refine qR<|zU ?_;refine zO<|zQ<|aZ<|qR ?_;refine zU ?_
   iterate 2 refine rT ?_
   refine rQ iG ?_;refine zJ<|kS<|ao ?_;refine rC ?_;refine rQ (bk (m:=((c+3:Nat):Int)) aa rfl rfl hw1) ?_;refine rQ (ct (a:=c+3) (b:=4) aa rfl rfl rfl (by decide) hw2) ?_;refine rC<|aB<|zC<|ao ?_;refine rC ?_;refine rQ iD ?_;refine rC<|aB ?_
   exact aY (0+1,(c+3)/4) [] ⟨by omega,by show (c+3)/4≤5000; omega,(fun h=>by cases h),fun j h=>by
    obtain rfl:j=0:=by omega
    rw[hcn]; exact pk 6 _⟩ (by show q+1-(0+1)<q+1-0; omega) (lg zj trivial)
  | succ l =>
   have hg:=hj l rfl
   obtain⟨hne,hnx⟩:=lP 6 _ l c (by show l+1<(dD n).length; omega) hg
   have d2:decide (0<((l+1:Nat):Int))=true:=dT (by omega)
   have d3:decide ((c:Int)=1)=false:=dF (by omega)
   refine qR<|zU ?_;refine zI<|zQ<|aZ<|qR ?_;refine zU ?_;refine rO ?_;refine rC ?_;refine rO ?_;refine rC ?_;refine rQ iT ?_;refine zG<|kS<|ao ?_;refine rC ?_;refine rQ (bk (m:=((c+3:Nat):Int)) aa rfl rfl hw1) ?_;refine rQ (ct (a:=c+3) (b:=4) aa rfl rfl rfl (by decide) hw2) ?_;refine rC<|aB<|zC<|ao ?_;refine rC ?_;refine rQ iD ?_;refine rC<|aB ?_
   exact aY (l+1+1,(c+3)/4) [] ⟨by omega,by show (c+3)/4≤5000; omega,(fun h=>by cases h),fun j h=>by
    obtain rfl:j=l+1:=by omega
    exact hnx⟩ (by show q+1-(l+1+1)<q+1-(l+1); omega) (lg zj trivial)
 ·have he:l=q+1:=by omega
  subst he
  have hg:=hj q rfl
  rw[hx]at hg
  obtain rfl:x=c:=Option.some.inj hg
  have d1:decide (((q+1:Nat):Int)≤(q:Int))=false:=dF (by omega)
  refine qR<|zU ?_;refine zG<|zX<|sR ?_;refine zD<|zT ?_
  exact⟨trivial,[],lf⟩
theorem nW (n:Nat) (h1:1≤n) (h2:n≤4096):FnIs Tryz.prog 55 [.int .i64 n] [] (.int .i64 (hgtN n)) []:=by
 have hl6:=gp h1 h2
 have hpos:0<(dD n).length:=List.length_pos_iff.2 (qI _ _)
 have hlast:(dD n)[hgtN n]?=some 1:=pj 5 _ (by omega) (by show (n+3)/4≤4 ^ 5; omega)
 refine aw aa Tryz.func55 rfl rfl rfl ?_;refine sR<|rC<|nR ?_;refine rC<|nQ<|aZ ?_
 refine wc_inv (fun i:Nat=>⟨[(3,.int .i64 i),(0,.int .i64 n)],[],64,Tryz.f55.ntmps,64⟩) (fun i=>i≤hgtN n) (fun i=>hgtN n-i) 0 [] (Nat.zero_le _)
  (lg zk trivial) ?_
 intro i hi
 have hh:hgtN n=(dD n).length-1:=rfl
 refine bv ?_
 by_cases hlt:i<hgtN n
 ·obtain⟨x,hx⟩:∃x,(dD n)[i]?=some x:=⟨_,List.getElem?_eq_getElem (by omega)⟩
  obtain⟨hne,_⟩:=lP 6 _ i x (by show i+1<(dD n).length; omega) hx
  have hct:=ky n h2 i x hx
  have d1:(!decide ((x:Int)=1))=true:=by rw[dF (by omega)]; rfl
  refine qR<|zD ?_;refine rQ (ak hct rfl rfl (aj (aj ae)) (.inl rfl) (fun _=>rfl)) ?_;refine rC ?_;refine zI<|kS<|aZ<|ao ?_;refine rC ?_;refine rQ iD ?_;refine rC<|aB<|ew ?_
  exact aY (i+1) [] hlt (by omega) (lg zk trivial)
 ·have he:i=hgtN n:=by omega
  rw[←he]at hlast ⊢
  have hct:=ky n h2 i 1 hlast
  have d1:(!decide ((((1:Nat)):Int)=1))=false:=rfl
  refine qR<|zD ?_;refine rQ (ak hct rfl rfl (aj (aj ae)) (.inl rfl) (fun _=>rfl)) ?_;refine rC ?_;refine zJ<|dA<|gg<|eJ<|gq<|aU<|sR ?_;refine zD<|zT ?_
  exact⟨trivial,[],lf⟩
end Go.Proofs.YtpmhnpnmpjimnaaGreatDoor
namespace Go.Plain
open Go.Eng Go.Lib
def valF (a:Nat) (w:List UInt8):Nat:=w.foldl (fun n b=>10*n+(b.toNat-48)) a
def valN (w:List UInt8):Nat:=valF 0 w
def Digs (w:List UInt8):Prop:=∀b∈w,48≤b.toNat∧b.toNat≤57
def NumOk (w:List UInt8):Prop:=w≠[]∧w.length≤20∧¬(1<w.length∧w.head?=some 48)∧Digs w∧valN w<18446744073709551616
theorem pz {α:Type} (a z:α) (i N:Nat) (h:i<N):(List.replicate i a++List.replicate (N-i) z).set i a=List.replicate (i+1) a++List.replicate (N-(i+1)) z:=by
 rw[List.set_append_right _ _ (by simp),List.length_replicate,Nat.sub_self,show N-i=(N-(i+1))+1 by omega,List.replicate_succ,List.set_cons_zero,List.replicate_succ',List.append_assoc]
 rfl
theorem pA {α:Type} (a z:α) (i N:Nat) (h:i<N):(List.replicate i a++List.replicate (N-i) z)[i]?=some z:=by
 rw[List.getElem?_append_right (by simp),List.length_replicate,Nat.sub_self,show N-i=(N-(i+1))+1 by omega,List.replicate_succ]; rfl
end Go.Plain
namespace Go.Proofs.YtpmhnpnmpjimnaaGreatDoor
open Go.Eng Go.Plain
set_option maxHeartbeats 32000000
set_option maxRecDepth 20000
attribute [local irreducible] WC RegS RegD SeqQ BlkQ ScoQ RegK CutK Sat SatN FnIs LoopQ aq OpIs
structure CX where
 b:UInt8
 s:UInt8
 k:UInt8
 f:UInt8
 l:UInt8
 r:UInt8
 m:UInt8
def me (x:CX) (P:D):D :=.cons (u8s x.b.toNat) (.cons (u8s x.s.toNat) (.cons (u8s x.k.toNat) (.cons (u8s x.f.toNat) (.cons (u8s x.l.toNat) (.cons (u8s x.r.toNat) (.cons (u8s x.m.toNat) (.cons P .nil)))))))
def CX.blocks (x:CX):Nat:=1+x.b.toNat % 20
def CX.shards (x:CX):Nat:=min (1+x.s.toNat % 2) x.blocks
def CX.clients (x:CX):Nat:=1+x.k.toNat % 3
def CX.reserve (x:CX):Nat:=1+x.r.toNat % 6
def CX.need (x:CX):Nat:=2*x.clients+hgtN x.blocks+1
def CX.frames (x:CX):Nat:=max (x.clients+1) ((x.need+x.shards-1)/x.shards)+x.f.toNat % 3
def CX.limit (x:CX):Nat:=if x.l.toNat % 8=0 then x.reserve+x.l.toNat/8 % 4 else 1000
def fB (x:CX):SCfg:=⟨x.blocks,x.shards,x.frames,x.clients,x.limit,x.reserve,List.replicate 32 x.m,0⟩
theorem dI (x:CX):1≤x.blocks∧x.blocks≤20∧1≤x.shards∧x.shards≤2∧1≤x.clients∧x.clients≤3∧1≤x.reserve∧x.reserve≤6∧hgtN x.blocks≤6∧x.shards≤x.blocks:=by
 have h1:1≤x.blocks∧x.blocks≤20:=by unfold CX.blocks; omega
 have h2:=n9 6 ((x.blocks+3)/4)
 have h3:hgtN x.blocks=(lvl 6 ((x.blocks+3)/4)).length-1:=rfl
 unfold CX.shards CX.clients CX.reserve
 omega
theorem mu (x:CX):wchk (fB x)=0:=by
 obtain⟨a1,a2,a3,a4,a5,a6,a7,a8,a9,a10⟩:=dI x
 have hn:x.need=2*x.clients+hgtN x.blocks+1:=rfl
 have hd:x.need≤x.shards*((x.need+x.shards-1)/x.shards):=by
  rcases (show x.shards=1∨x.shards=2 by omega)with h | h
  ·rw[h]; omega
  ·rw[h]; omega
 have hf:x.frames=max (x.clients+1) ((x.need+x.shards-1)/x.shards)+x.f.toNat % 3:=rfl
 have hq:(x.need+x.shards-1)/x.shards≤14:=by
  rcases (show x.shards=1∨x.shards=2 by omega)with h | h
  ·rw[h]; omega
  ·rw[h]; omega
 have hfr:x.shards*((x.need+x.shards-1)/x.shards)≤x.shards*x.frames:=Nat.mul_le_mul_left _ (by omega)
 have hfb:x.clients+1≤x.frames∧x.frames≤64:=by omega
 have hl:x.reserve≤x.limit:=by unfold CX.limit; split <;> omega
 have e1:((fB x).blocks.toNat)=x.blocks:=rfl
 have hmul:(2*(x.clients:Int)+hgtN x.blocks+1)≤(x.shards:Int)*(x.frames:Int):=by
  have:((x.shards*x.frames:Nat):Int)=(x.shards:Int)*(x.frames:Int):=by simp
  rw[←this]; omega
 rw[wchk,e1]
 show (if ¬(1≤(x.blocks:Int)∧(x.blocks:Int)≤4096)∨¬(1≤(x.shards:Int)∧(x.shards:Int)≤min 8 (x.blocks:Int))∨¬(1≤(x.clients:Int)∧(x.clients:Int)≤8) then (7:Int) else if ¬((x.clients:Int)+1≤(x.frames:Int)∧(x.frames:Int)≤64)∨(x.shards:Int)*(x.frames:Int)<2*(x.clients:Int)+hgtN x.blocks+1 then 7 else if (x.reserve:Int)<1∨4294967296<(x.reserve:Int)∨(x.limit:Int)<(x.reserve:Int)∨5<(0:Int) then 7 else 0)=0
 rw[if_neg (by omega),if_neg (by
  rintro (h | h)
  ·omega
  ·omega),if_neg (by omega)]
theorem tU (x:CX) {α:Type} (e:α→D) (ps:List α):FnIs Tryz.prog 25 [.d (me x (.cons (.arr 1 e ps) .nil))] [] (.d (bt (fB x))) []:=by
 obtain⟨a1,a2,a3,a4,a5,a6,a7,a8,a9,a10⟩:=dI x
 have hb8:x.b.toNat<256:=x.b.toNat_lt
 have hB:x.blocks=1+x.b.toNat % 20:=rfl
 have hC:x.clients=1+x.k.toNat % 3:=rfl
 have hR:x.reserve=1+x.r.toNat % 6:=rfl
 have hS:x.shards=min (1+x.s.toNat % 2) x.blocks:=rfl
 have hN:x.need=2*x.clients+hgtN x.blocks+1:=rfl
 have hF:x.frames=max (x.clients+1) ((x.need+x.shards-1)/x.shards)+x.f.toNat % 3:=rfl
 have hq:(x.need+x.shards-1)/x.shards≤14:=by
  rcases (show x.shards=1∨x.shards=2 by omega)with h | h
  ·rw[h]; omega
  ·rw[h]; omega
 have hq0:(0:Int)≤(((x.need+x.shards-1)/x.shards:Nat):Int):=Int.natCast_nonneg _
 have hmin:min ((1+x.s.toNat % 2:Nat):Int) (x.blocks:Int)=(x.shards:Int):=by omega
 have hmax:max ((x.clients+1:Nat):Int) (((x.need+x.shards-1)/x.shards:Nat):Int)=((max (x.clients+1) ((x.need+x.shards-1)/x.shards):Nat):Int):=by omega
 have hw51:IntKind.i64.wrap (((x.need+x.shards-1)/x.shards:Nat):Int)=(((x.need+x.shards-1)/x.shards:Nat):Int):=aI (by omega) (by omega)
 have hl8:x.l.toNat<256:=x.l.toNat_lt
 have hw68:IntKind.u8.wrap ((x.l.toNat/8:Nat):Int)=((x.l.toNat/8:Nat):Int):=cG (by omega)
 have w0:IntKind.i64.wrap (((x.b.toNat % 20:Nat):Int))=((x.b.toNat % 20:Nat):Int):=by rw[show ((x.b.toNat % 20:Nat):Int)=((x.b.toNat % 20:Nat):Int) by omega]; exact aI (by omega) (by omega)
 have w1:IntKind.i64.wrap (1+((x.b.toNat % 20:Nat):Int))=((x.blocks:Nat):Int):=by rw[show 1+((x.b.toNat % 20:Nat):Int)=((x.blocks:Nat):Int) by omega]; exact aI (by omega) (by omega)
 have w2:IntKind.i64.wrap (((x.s.toNat % 2:Nat):Int))=((x.s.toNat % 2:Nat):Int):=by rw[show ((x.s.toNat % 2:Nat):Int)=((x.s.toNat % 2:Nat):Int) by omega]; exact aI (by omega) (by omega)
 have w3:IntKind.i64.wrap (1+((x.s.toNat % 2:Nat):Int))=((1+x.s.toNat % 2:Nat):Int):=by rw[show 1+((x.s.toNat % 2:Nat):Int)=((1+x.s.toNat % 2:Nat):Int) by omega]; exact aI (by omega) (by omega)
 have w4:IntKind.i64.wrap (((x.k.toNat % 3:Nat):Int))=((x.k.toNat % 3:Nat):Int):=by rw[show ((x.k.toNat % 3:Nat):Int)=((x.k.toNat % 3:Nat):Int) by omega]; exact aI (by omega) (by omega)
 have w5:IntKind.i64.wrap (1+((x.k.toNat % 3:Nat):Int))=((x.clients:Nat):Int):=by rw[show 1+((x.k.toNat % 3:Nat):Int)=((x.clients:Nat):Int) by omega]; exact aI (by omega) (by omega)
 have w6:IntKind.u64.wrap (((x.r.toNat % 6:Nat):Int))=((x.r.toNat % 6:Nat):Int):=by rw[show ((x.r.toNat % 6:Nat):Int)=((x.r.toNat % 6:Nat):Int) by omega]; exact wrap_u64 (by omega) (by omega)
 have w7:IntKind.u64.wrap (1+((x.r.toNat % 6:Nat):Int))=((x.reserve:Nat):Int):=by rw[show 1+((x.r.toNat % 6:Nat):Int)=((x.reserve:Nat):Int) by omega]; exact wrap_u64 (by omega) (by omega)
 have w8:IntKind.i64.wrap (2*(x.clients:Int))=((2*x.clients:Nat):Int):=by rw[show 2*(x.clients:Int)=((2*x.clients:Nat):Int) by omega]; exact aI (by omega) (by omega)
 have w9:IntKind.i64.wrap (((2*x.clients:Nat):Int)+(hgtN x.blocks:Int))=((2*x.clients+hgtN x.blocks:Nat):Int):=by rw[show ((2*x.clients:Nat):Int)+(hgtN x.blocks:Int)=((2*x.clients+hgtN x.blocks:Nat):Int) by omega]; exact aI (by omega) (by omega)
 have w10:IntKind.i64.wrap (((2*x.clients+hgtN x.blocks:Nat):Int)+1)=((x.need:Nat):Int):=by rw[show ((2*x.clients+hgtN x.blocks:Nat):Int)+1=((x.need:Nat):Int) by omega]; exact aI (by omega) (by omega)
 have w11:IntKind.i64.wrap ((x.clients:Int)+1)=((x.clients+1:Nat):Int):=by rw[show (x.clients:Int)+1=((x.clients+1:Nat):Int) by omega]; exact aI (by omega) (by omega)
 have w12:IntKind.i64.wrap ((x.need:Int)+(x.shards:Int))=((x.need+x.shards:Nat):Int):=by rw[show (x.need:Int)+(x.shards:Int)=((x.need+x.shards:Nat):Int) by omega]; exact aI (by omega) (by omega)
 have w13:IntKind.i64.wrap (((x.need+x.shards:Nat):Int)-1)=((x.need+x.shards-1:Nat):Int):=by rw[show ((x.need+x.shards:Nat):Int)-1=((x.need+x.shards-1:Nat):Int) by omega]; exact aI (by omega) (by omega)
 have w14:IntKind.i64.wrap (((x.f.toNat % 3:Nat):Int))=((x.f.toNat % 3:Nat):Int):=by rw[show ((x.f.toNat % 3:Nat):Int)=((x.f.toNat % 3:Nat):Int) by omega]; exact aI (by omega) (by omega)
 have w15:IntKind.i64.wrap (((max (x.clients+1) ((x.need+x.shards-1)/x.shards):Nat):Int)+((x.f.toNat % 3:Nat):Int))=((x.frames:Nat):Int):=by rw[show ((max (x.clients+1) ((x.need+x.shards-1)/x.shards):Nat):Int)+((x.f.toNat % 3:Nat):Int)=((x.frames:Nat):Int) by omega]; exact aI (by omega) (by omega)
 have w16:IntKind.u64.wrap (((x.l.toNat/8 % 4:Nat):Int))=((x.l.toNat/8 % 4:Nat):Int):=by rw[show ((x.l.toNat/8 % 4:Nat):Int)=((x.l.toNat/8 % 4:Nat):Int) by omega]; exact wrap_u64 (by omega) (by omega)
 have w17:IntKind.u64.wrap ((x.reserve:Int)+((x.l.toNat/8 % 4:Nat):Int))=((x.reserve+x.l.toNat/8 % 4:Nat):Int):=by rw[show (x.reserve:Int)+((x.l.toNat/8 % 4:Nat):Int)=((x.reserve+x.l.toNat/8 % 4:Nat):Int) by omega]; exact wrap_u64 (by omega) (by omega)
 have hh:=nW x.blocks a1 (by omega)
 refine aw aa Tryz.func25 rfl rfl rfl ?_;refine sR ?_;iterate 2 refine rN ?_
 refine nR<|rC ?_;refine rQ iB ?_;refine rQ (bn (a:=x.b.toNat) (b:=20) aa rfl rfl rfl (by decide)) ?_;refine rQ (bg (m:=((x.b.toNat % 20:Nat):Int)) aa rfl rfl rfl w0) ?_;refine rQ (bk (m:=((x.blocks:Nat):Int)) aa rfl rfl w1) ?_;refine rC ?_;refine rQ iB ?_;refine rQ (bn (a:=x.s.toNat) (b:=2) aa rfl rfl rfl (by decide)) ?_;refine rQ (bg (m:=((x.s.toNat % 2:Nat):Int)) aa rfl rfl rfl w2) ?_;refine rQ (bk (m:=((1+x.s.toNat % 2:Nat):Int)) aa rfl rfl w3) ?_;refine rC ?_;refine rQ iB ?_;refine rQ (bn (a:=x.k.toNat) (b:=3) aa rfl rfl rfl (by decide)) ?_;refine rQ (bg (m:=((x.k.toNat % 3:Nat):Int)) aa rfl rfl rfl w4) ?_;refine rQ (bk (m:=((x.clients:Nat):Int)) aa rfl rfl w5) ?_;refine rC ?_;refine rQ iB ?_;refine rQ (bn (a:=x.r.toNat) (b:=6) aa rfl rfl rfl (by decide)) ?_;refine rQ (bg (m:=((x.r.toNat % 6:Nat):Int)) aa rfl rfl rfl w6) ?_;refine rQ (bk (m:=((x.reserve:Nat):Int)) aa rfl rfl w7) ?_;refine rQ iS ?_;refine rN ?_;refine rW<|nR ?_;refine rC ?_;refine rQ iB ?_;refine rC ?_;refine rQ iB ?_;refine rQ (kX (m:=(x.shards:Int)) rfl rfl hmin) ?_;refine rC ?_;refine rX<|nQ ?_;refine aH (by kernel_rfl) ?_;refine dC [3] [] ?_;refine dQ [33] [248] iB ?_;refine dQ [34] [] (dL (m:=((2*x.clients:Nat):Int)) aa rfl rfl w8) ?_;refine dC [3] [] ?_;refine dQ [36] [248] iB ?_;refine dQ [37] [] (ak hh rfl rfl (aj ae) (.inl rfl) (fun _=>rfl)) ?_;refine dQ [35,38] [] (bk (m:=((2*x.clients+hgtN x.blocks:Nat):Int)) aa rfl rfl w9) ?_;refine dQ [39] [] (bk (m:=((x.need:Nat):Int)) aa rfl rfl w10) ?_;refine dC [40] [] ?_;refine aC (by kernel_rfl)<|aU<|b9 ?_;refine aH (by kernel_rfl) ?_;refine dC [3] [] ?_;refine dQ [41] [248] iB ?_;refine dQ [42] [] (bk (m:=((x.clients+1:Nat):Int)) aa rfl rfl w11) ?_;refine dC [4] [] ?_;refine dC [3] [] ?_;refine dQ [45] [248] iB ?_;refine dQ [44,46] [] (bk (m:=((x.need+x.shards:Nat):Int)) aa rfl rfl w12) ?_;refine dQ [47] [] (cq (m:=((x.need+x.shards-1:Nat):Int)) aa rfl rfl w13) ?_;refine dC [3] [] ?_;refine dQ [49] [248] iB ?_;refine dQ [48,50] [] (ct (a:=x.need+x.shards-1) (b:=x.shards) aa rfl rfl rfl (by omega) hw51) ?_;refine dQ [43,51] [] (xx (m:=((max (x.clients+1) ((x.need+x.shards-1)/x.shards):Nat):Int)) rfl rfl hmax) ?_;refine dC [1] [] ?_;refine dQ [53] [64] iB ?_;refine dQ [54] [] (bn (a:=x.f.toNat) (b:=3) aa rfl rfl rfl (by decide)) ?_;refine dQ [55] [] (bg (m:=((x.f.toNat % 3:Nat):Int)) aa rfl rfl rfl w14) ?_;refine dQ [52,56] [] (bk (m:=((x.frames:Nat):Int)) aa rfl rfl w15) ?_;refine dC [3] [] ?_;refine ca [58,57] [248] (aF aa rfl rfl rfl ⟨_,⟨_,⟨_,⟨rfl,rfl,rfl⟩,rfl⟩,rfl⟩,rfl⟩ rfl) ?_;refine aC (by kernel_rfl)<|aU<|sR ?_;refine rC ?_;refine rX<|zW ?_;refine rC ?_;refine rQ iB ?_;refine rQ (bn (a:=x.l.toNat) (b:=8) aa rfl rfl rfl (by decide)) ?_;refine rC<|nS ?_
 by_cases hl:x.l.toNat % 8=0
 ·have d1:decide (((x.l.toNat % 8:Nat):Int)=0)=true:=dT (by omega)
  have hlim:x.limit=x.reserve+x.l.toNat/8 % 4:=if_pos hl
  refine wT<|ao ?_;refine rC ?_;refine rQ iB ?_;refine rC ?_;refine rQ iB ?_;refine rQ (ct (a:=x.l.toNat) (b:=8) aa rfl rfl rfl (by decide) hw68) ?_;refine rQ (bn (a:=x.l.toNat/8) (b:=4) aa rfl rfl rfl (by decide)) ?_;refine rQ (bg (m:=((x.l.toNat/8 % 4:Nat):Int)) aa rfl rfl rfl w16) ?_;refine rQ (bk (m:=((x.reserve+x.l.toNat/8 % 4:Nat):Int)) aa rfl rfl w17) ?_;refine rC ?_;refine rX<|zW ?_;refine rC<|nS<|aZ ?_
  refine wc_inv (fun i:Nat=>⟨[(5,.int .i64 i),(3,.ptr 65 []),(2,.ptr 66 []),(1,.ptr 64 [])],[(64,some (.box 26 (.d (me x (.cons (.arr 1 e ps) .nil))))),(65,some (.box 34 (.d (bt ⟨x.blocks,x.shards,x.frames,x.clients,x.limit,x.reserve,List.replicate i x.m++List.replicate (32-i) 0,0⟩)))),(66,some (.box 34 (.d r34.zero)))],72,Tryz.f25.ntmps,64⟩) (fun i=>i≤32) (fun i=>32-i) 0 [(64,some _),(65,some _),(66,some _)] (Nat.zero_le _)
   (lg zi ⟨zR,⟨rfl,rfl,_,rfl,aE.of_eq (by rw[hlim]; rfl)⟩,zR,trivial⟩) ?_
  intro i hi
  refine bv ?_
  by_cases hlt:i<32
  ·have d5:decide ((i:Int)<32)=true:=dT (by omega)
   have hget:(byI (List.replicate i x.m++List.replicate (32-i) 0))[((i:Int)).toNat]?=some 0:=by rw[Int.toNat_natCast]; exact jQ (pA x.m 0 i 32 hlt)
   have hset:(byI (List.replicate i x.m++List.replicate (32-i) 0)).set ((i:Int)).toNat (x.m.toNat:Int)=byI (List.replicate (i+1) x.m++List.replicate (32-(i+1)) 0):=by rw[Int.toNat_natCast,byI,byI,←List.map_set,pz x.m 0 i 32 hlt]
   refine qR<|zD ?_;refine zI<|zQ<|aZ<|ao ?_;refine zD ?_;refine rQ iB ?_;refine rC ?_;refine rQ (ay aa (fun K hk=>⟨by omega,by omega,hk⟩)) ?_;refine aW (aF aa rfl rfl rfl ⟨_,⟨_,⟨_,⟨rfl,(0:Int),(x.m.toNat:Int),hget,⟨rfl,rfl,rfl⟩,rfl⟩,rfl⟩,rfl⟩,rfl⟩ rfl)<|aB<|zC<|ao ?_;refine rC ?_;refine rQ iD ?_;refine rC<|aB ?_
   exact aY (i+1) [(64,some _),(65,some _),(66,some _)] hlt (by omega) (lg zi ⟨zR,⟨rfl,rfl,_,rfl,aE.of_eq (congrArg (fun q=>Row.box 34 (.d (.cons (i6 x.blocks) (.cons (i6 x.shards) (.cons (i6 x.frames) (.cons (i6 x.clients) (.cons (u6 x.limit) (.cons (u6 x.reserve) (.cons (.vec 32 1 bp q) (.cons (u8s 0) .nil)))))))))) hset)⟩,zR,trivial⟩)
  ·have he:i=32:=by omega
   subst he
   have d5:decide (((32:Nat):Int)<32)=false:=rfl
   rw[Nat.sub_self,List.replicate_zero,List.append_nil]
   refine qR<|zD ?_;refine zJ<|zX<|sR ?_;refine rQ iM ?_;refine rW<|nS<|cg ?_
   exact⟨trivial,_,rfl,[],lf⟩
 ·have d1:decide (((x.l.toNat % 8:Nat):Int)=0)=false:=dF (by omega)
  have hlim:x.limit=1000:=if_neg hl
  refine wF<|kS<|qR ?_;refine rC<|zP ?_
  refine wc_inv (fun i:Nat=>⟨[(5,.int .i64 i),(3,.ptr 65 []),(2,.ptr 66 []),(1,.ptr 64 [])],[(64,some (.box 26 (.d (me x (.cons (.arr 1 e ps) .nil))))),(65,some (.box 34 (.d (bt ⟨x.blocks,x.shards,x.frames,x.clients,x.limit,x.reserve,List.replicate i x.m++List.replicate (32-i) 0,0⟩)))),(66,some (.box 34 (.d r34.zero)))],72,Tryz.f25.ntmps,64⟩) (fun i=>i≤32) (fun i=>32-i) 0 [(64,some _),(65,some _),(66,some _)] (Nat.zero_le _)
   (lg zi ⟨zR,⟨rfl,rfl,_,rfl,aE.of_eq (by rw[hlim]; rfl)⟩,zR,trivial⟩) ?_
  intro i hi
  refine bv ?_
  by_cases hlt:i<32
  ·have d5:decide ((i:Int)<32)=true:=dT (by omega)
   have hget:(byI (List.replicate i x.m++List.replicate (32-i) 0))[((i:Int)).toNat]?=some 0:=by rw[Int.toNat_natCast]; exact jQ (pA x.m 0 i 32 hlt)
   have hset:(byI (List.replicate i x.m++List.replicate (32-i) 0)).set ((i:Int)).toNat (x.m.toNat:Int)=byI (List.replicate (i+1) x.m++List.replicate (32-(i+1)) 0):=by rw[Int.toNat_natCast,byI,byI,←List.map_set,pz x.m 0 i 32 hlt]
   refine qR<|zD ?_;refine zI<|zQ<|aZ<|ao ?_;refine zD ?_;refine rQ iB ?_;refine rC ?_;refine rQ (ay aa (fun K hk=>⟨by omega,by omega,hk⟩)) ?_;refine aW (aF aa rfl rfl rfl ⟨_,⟨_,⟨_,⟨rfl,(0:Int),(x.m.toNat:Int),hget,⟨rfl,rfl,rfl⟩,rfl⟩,rfl⟩,rfl⟩,rfl⟩ rfl)<|aB<|zC<|ao ?_;refine rC ?_;refine rQ iD ?_;refine rC<|aB ?_
   exact aY (i+1) [(64,some _),(65,some _),(66,some _)] hlt (by omega) (lg zi ⟨zR,⟨rfl,rfl,_,rfl,aE.of_eq (congrArg (fun q=>Row.box 34 (.d (.cons (i6 x.blocks) (.cons (i6 x.shards) (.cons (i6 x.frames) (.cons (i6 x.clients) (.cons (u6 x.limit) (.cons (u6 x.reserve) (.cons (.vec 32 1 bp q) (.cons (u8s 0) .nil)))))))))) hset)⟩,zR,trivial⟩)
  ·have he:i=32:=by omega
   subst he
   have d5:decide (((32:Nat):Int)<32)=false:=rfl
   rw[Nat.sub_self,List.replicate_zero,List.append_nil]
   refine qR<|zD ?_;refine zJ<|zX<|sR ?_;refine rQ iM ?_;refine rW<|nS<|cg ?_
   exact⟨trivial,_,rfl,[],lf⟩
theorem qt (n:Nat) (h1:1≤n) (h2:n≤4096):FnIs Tryz.prog 27 [.int .i64 n] [] (.int .i64 (cp n)) []:=by
 have hsum:=mj h2
 have hS:cp n≤30000:=by unfold cp; omega
 have hw1:IntKind.i64.wrap (2*(n:Int))=((2*n:Nat):Int):=by rw[show 2*(n:Int)=((2*n:Nat):Int) by omega]; exact aI (by omega) (by omega)
 have hw2:IntKind.i64.wrap ((n:Int)+3)=((n+3:Nat):Int):=by rw[show (n:Int)+3=((n+3:Nat):Int) by omega]; exact aI (by omega) (by omega)
 have hw3:IntKind.i64.wrap (((n+3)/4:Nat):Int)=(((n+3)/4:Nat):Int):=aI (by omega) (by omega)
 refine aw aa Tryz.func27 rfl rfl rfl ?_;refine sR<|rC<|nR ?_;refine rC ?_;refine rQ (dL (m:=((2*n:Nat):Int)) aa rfl rfl hw1) ?_;refine rC<|nR ?_;refine rC ?_;refine rQ (bk (m:=((n+3:Nat):Int)) aa rfl rfl hw2) ?_;refine rQ (ct (a:=n+3) (b:=4) aa rfl rfl rfl (by decide) hw3) ?_;refine rC<|zP ?_
 refine wc_inv (fun s:Nat×Nat×Nat=>⟨[(3,.int .i64 s.2.2),(4,.int .i64 s.1)],[],64,Tryz.f27.ntmps,64⟩) (fun s=>s.2.2+2*(lvl (s.2.1+1) s.1).sum=cp n∧1≤s.1∧s.1≤4 ^ s.2.1) (fun s=>s.2.1) ((n+3)/4,5,2*n) [] ⟨rfl,by show 1≤(n+3)/4; omega,by show (n+3)/4≤4 ^ 5; omega⟩
  (lg zk trivial) ?_
 rintro⟨c,g,t⟩ ⟨hs,hc1,hc2⟩
 simp only at hs hc1 hc2
 have hcs:c≤(lvl (g+1) c).sum:=by
  rw[lvl]
  split
  ·simp
  ·simp only[List.sum_cons]; omega
 have hw4:IntKind.i64.wrap (2*(c:Int))=((2*c:Nat):Int):=by rw[show 2*(c:Int)=((2*c:Nat):Int) by omega]; exact aI (by omega) (by omega)
 have hw5:IntKind.i64.wrap ((t:Int)+((2*c:Nat):Int))=((t+2*c:Nat):Int):=by rw[show (t:Int)+((2*c:Nat):Int)=((t+2*c:Nat):Int) by omega]; exact aI (by omega) (by omega)
 have hw6:IntKind.i64.wrap ((c:Int)+3)=((c+3:Nat):Int):=by rw[show (c:Int)+3=((c+3:Nat):Int) by omega]; exact aI (by omega) (by omega)
 have hw7:IntKind.i64.wrap (((c+3)/4:Nat):Int)=(((c+3)/4:Nat):Int):=aI (by omega) (by omega)
 refine bv ?_
 by_cases hc:c=1
 ·have d1:decide ((c:Int)=1)=true:=dT (by omega)
  rw[lvl,if_pos hc]at hs
  simp only[List.sum_cons,List.sum_nil]at hs
  rw[←hs]
  refine zS<|zD ?_;refine rQ (dL (m:=((2*c:Nat):Int)) aa rfl rfl hw4) ?_;refine rQ (bk (m:=((t+2*c:Nat):Int)) aa rfl rfl hw5) ?_;refine rC<|nQ<|sR ?_;refine zD ?_;refine zI<|sR ?_;refine zD<|zT<|ba<|fD<|bT<|fD ?_
  exact⟨trivial,[],lf⟩
 ·have d1:decide ((c:Int)=1)=false:=dF (by omega)
  obtain⟨k,rfl,hk1,hk2⟩:=jz hc1 hc hc2
  rw[lvl,if_neg hc]at hs
  simp only[List.sum_cons]at hs
  refine zS<|zD ?_;refine rQ (dL (m:=((2*c:Nat):Int)) aa rfl rfl hw4) ?_;refine rQ (bk (m:=((t+2*c:Nat):Int)) aa rfl rfl hw5) ?_;refine rC<|nQ<|sR ?_;refine zD ?_;refine zG<|kS<|ao ?_;refine rC ?_;refine rQ (bk (m:=((c+3:Nat):Int)) aa rfl rfl hw6) ?_;refine rQ (ct (a:=c+3) (b:=4) aa rfl rfl rfl (by decide) hw7) ?_;refine rC<|aB<|ew ?_
  exact aY ((c+3)/4,k,t+2*c) [] ⟨by show t+2*c+2*(lvl (k+1) ((c+3)/4)).sum=_; omega,hk2,hk1⟩ (Nat.lt_succ_self k) (lg zk trivial)
structure XA where
 k:UInt8
 a:UInt8
 b:UInt8
 bytes:List UInt8
def sp (x:XA):D :=.cons (u8s x.k.toNat) (.cons (u8s x.a.toNat) (.cons (u8s x.b.toNat) (.cons (encB x.bytes) .nil)))
def aOf (x:XA) (y:CX):SAct :=
 if x.k.toNat % 8=4 then⟨2,0,(x.a.toNat % cp y.blocks:Nat),x.bytes.take 200,0⟩
 else if x.k.toNat % 8=5 then⟨3,0,(x.a.toNat % cp y.blocks:Nat),[],0⟩
 else if x.k.toNat % 8=6 then⟨4,0,(x.a.toNat % cp y.blocks:Nat),[],(x.b.toNat % 4:Nat)⟩
 else if x.k.toNat % 8=7 then⟨5,0,0,[],0⟩
 else⟨1,(x.a.toNat % (y.clients+y.shards):Nat),0,[],0⟩
theorem y5 (x:XA) (y:CX):actB ((y.clients:Int)+(y.shards:Int)) (cp y.blocks) (aOf x y)=true∧(aOf x y).Wr:=by
 obtain⟨a1,a2,a3,a4,a5,a6,a7,a8,a9,a10⟩:=dI y
 have hs:=lx (n:=y.blocks) (by omega) (by omega)
 rw[Int.toNat_natCast]at hs
 obtain⟨s1,s2⟩:=hs
 have hm:x.a.toNat % cp y.blocks<cp y.blocks:=Nat.mod_lt _ (by omega)
 have hm2:x.a.toNat % (y.clients+y.shards)<y.clients+y.shards:=Nat.mod_lt _ (by omega)
 have ht:(x.bytes.take 200).length≤200:=by rw[List.length_take]; omega
 have hk:1≤cp y.blocks∧cp y.blocks≤30000:=by omega
 unfold aOf
 generalize x.a.toNat % cp y.blocks=g at *
 generalize x.a.toNat % (y.clients+y.shards)=h at *
 split
 ·exact⟨by simp[actB]; omega,⟨by simp,⟨by simp,by simp,fun _=>rfl⟩,⟨Int.natCast_nonneg _,by simp only; omega,fun h=>by simp at h⟩,fun h=>absurd rfl h,⟨by simp,by simp,fun _=>rfl⟩⟩⟩
 split
 ·exact⟨by simp[actB]; omega,⟨by simp,⟨by simp,by simp,fun _=>rfl⟩,⟨Int.natCast_nonneg _,by simp only; omega,fun h=>by simp at h⟩,fun _=>rfl,⟨by simp,by simp,fun _=>rfl⟩⟩⟩
 split
 ·exact⟨by simp[actB]; omega,⟨by simp,⟨by simp,by simp,fun _=>rfl⟩,⟨Int.natCast_nonneg _,by simp only; omega,fun h=>by simp at h⟩,fun _=>rfl,⟨Int.natCast_nonneg _,by simp only; omega,fun h=>absurd rfl h⟩⟩⟩
 split
 ·exact⟨by simp[actB],⟨by simp,⟨by simp,by simp,fun _=>rfl⟩,⟨by simp,by simp,fun _=>rfl⟩,fun _=>rfl,⟨by simp,by simp,fun _=>rfl⟩⟩⟩
 ·exact⟨by simp[actB]; omega,⟨by simp,⟨Int.natCast_nonneg _,by simp only; omega,fun h=>absurd rfl h⟩,⟨by simp,by simp,fun _=>rfl⟩,fun _=>rfl,⟨by simp,by simp,fun _=>rfl⟩⟩⟩
theorem yT (x:XA) (y:CX):FnIs Tryz.prog 12 [.d (sp x),.d (bt (fB y))] [] (.d (aX (aOf x y))) []:=by
 obtain⟨a1,a2,a3,a4,a5,a6,a7,a8,a9,a10⟩:=dI y
 have hs:=lx (n:=y.blocks) (by omega) (by omega)
 rw[Int.toNat_natCast]at hs
 obtain⟨s1,s2⟩:=hs
 have hse:=qt y.blocks a1 (by omega)
 have ha8:x.a.toNat<256:=x.a.toNat_lt
 have hw9:IntKind.i64.wrap (x.a.toNat:Int)=(x.a.toNat:Int):=aI (by omega) (by omega)
 have hw43:IntKind.i64.wrap ((x.b.toNat % 4:Nat):Int)=((x.b.toNat % 4:Nat):Int):=aI (by omega) (by omega)
 have hw55:IntKind.i64.wrap ((y.clients:Int)+(y.shards:Int))=((y.clients+y.shards:Nat):Int):=by rw[show (y.clients:Int)+(y.shards:Int)=((y.clients+y.shards:Nat):Int) by omega]; exact aI (by omega) (by omega)
 refine aw aa Tryz.func12 rfl rfl rfl ?_
 by_cases k4:x.k.toNat % 8=4
 ·have d4:decide (((x.k.toNat % 8:Nat):Int)=4)=true:=dT (by omega)
  rw[show aOf x y=⟨2,0,(x.a.toNat % cp y.blocks:Nat),x.bytes.take 200,0⟩ from if_pos k4]
  have hbl:(byI x.bytes).length=x.bytes.length:=ch x.bytes
  obtain⟨q,hq⟩:∃q,min 200 x.bytes.length=q:=⟨_,rfl⟩
  have hmin:min (200:Int) ((byI x.bytes).length:Int)=(q:Int):=by omega
  have hql:(q:Int)≤((byI x.bytes).length:Int):=by omega
  have htq:x.bytes.take 200=x.bytes.take q:=by
   rw[←hq]
   rcases Nat.le_total 200 x.bytes.length with h | h
   ·rw[Nat.min_eq_left h]
   ·rw[Nat.min_eq_right h,List.take_length,List.take_of_length_le h]
  have htk:(byI x.bytes).take ((q:Int)).toNat=byI (x.bytes.take q):=by rw[Int.toNat_natCast,byI,byI,List.map_take]
  by_cases hz:x.bytes=[]
  ·obtain rfl:0=q:=by rw[←hq,hz]; rfl
   rw[show x.bytes.take 200=[] by rw[hz]; rfl]
   refine sR ?_;iterate 3 refine rN ?_
   refine nQ<|aH (by kernel_rfl) ?_;refine dC [2] [] ?_;refine dQ [7] [64] iB ?_;refine dQ [8] [] (bg (m:=(x.a.toNat:Int)) aa rfl rfl rfl hw9) ?_;refine dC [3] [] ?_;refine dQ [10] [72] iB ?_;refine dQ [11] [] (ak hse rfl rfl (aj ae) (.inl rfl) (fun _=>rfl)) ?_;refine dQ [9,12] [] (bn (a:=x.a.toNat) (b:=cp y.blocks) aa rfl rfl rfl (by omega)) ?_;refine dC [13] [] ?_;refine aC (by kernel_rfl)<|aU<|qR ?_;refine rC ?_;refine rQ iB ?_;refine rQ (bn (a:=x.k.toNat) (b:=8) aa rfl rfl rfl (by decide))<|zP<|sR ?_;refine zD ?_;refine zI<|sR ?_;refine rC ?_;refine rQ iS ?_;refine rN ?_;refine rW<|nQ ?_;refine aH (by kernel_rfl) ?_;refine dC [6] [] ?_;refine dQ [21] [208] iB ?_;refine dC [2] [] ?_;refine dQ [23] [64] iB ?_;refine dC [2] [] ?_;refine dQ [25] [64] iB ?_;refine dQ [26] [] iE ?_;refine dQ [27] [] (kX (m:=((0:Nat):Int)) rfl rfl hmin) ?_;refine dQ [24,28] [] (dh (m:=((0:Nat):Int)) aa rfl rfl rfl rfl (by omega) hql) ?_;refine dQ [22,29] [] (gL aa rfl rfl rfl rfl) ?_;refine dC [6] [] ?_;refine ca [31,30] [208] (aF aa rfl rfl rfl ⟨_,⟨_,⟨_,⟨rfl,rfl,rfl⟩,rfl⟩,rfl⟩,rfl⟩ rfl) ?_;refine aC (by kernel_rfl)<|aU<|sR ?_;refine rQ iM ?_;refine rW<|zT<|zB ?_
   exact⟨trivial,_,rfl,[],lg ⟨⟨_,rfl,fY _ _ _ _⟩,rfl,trivial⟩ trivial⟩
  ·have hbp:0<x.bytes.length:=List.length_pos_iff.2 hz
   have hpos:0<((byI x.bytes).take ((q:Int)).toNat).length:=by rw[Int.toNat_natCast,List.length_take]; omega
   have hbig:((byI x.bytes).take ((q:Int)).toNat).length≤1048576:=by rw[Int.toNat_natCast,List.length_take]; omega
   rw[htq]
   refine sR ?_;iterate 3 refine rN ?_
   refine nQ<|aH (by kernel_rfl) ?_;refine dC [2] [] ?_;refine dQ [7] [64] iB ?_;refine dQ [8] [] (bg (m:=(x.a.toNat:Int)) aa rfl rfl rfl hw9) ?_;refine dC [3] [] ?_;refine dQ [10] [72] iB ?_;refine dQ [11] [] (ak hse rfl rfl (aj ae) (.inl rfl) (fun _=>rfl)) ?_;refine dQ [9,12] [] (bn (a:=x.a.toNat) (b:=cp y.blocks) aa rfl rfl rfl (by omega)) ?_;refine dC [13] [] ?_;refine aC (by kernel_rfl)<|aU<|qR ?_;refine rC ?_;refine rQ iB ?_;refine rQ (bn (a:=x.k.toNat) (b:=8) aa rfl rfl rfl (by decide))<|zP<|sR ?_;refine zD ?_;refine zI<|sR ?_;refine rC ?_;refine rQ iS ?_;refine rN ?_;refine rW<|nQ ?_;refine aH (by kernel_rfl) ?_;refine dC [6] [] ?_;refine dQ [21] [208] iB ?_;refine dC [2] [] ?_;refine dQ [23] [64] iB ?_;refine dC [2] [] ?_;refine dQ [25] [64] iB ?_;refine dQ [26] [] iE ?_;refine dQ [27] [] (kX (m:=((q:Nat):Int)) rfl rfl hmin) ?_;refine dQ [24,28] [] (dh (m:=(q:Int)) aa rfl rfl rfl rfl (by omega) hql) ?_;refine dQ [22,29] [] (aq.frozen (cF (s:=1) (enc:=bp) (ys:=(byI x.bytes).take ((q:Int)).toNat) aa rfl rfl rfl rfl rfl (.inr rfl) rfl hpos hbig rfl) (Frz.own rfl)) ?_;refine dC [6] [] ?_;refine ca [31,30] [208] (aF aa rfl rfl rfl ⟨_,⟨_,⟨_,⟨rfl,rfl,rfl⟩,rfl⟩,rfl⟩,rfl⟩ rfl) ?_;refine aC (by kernel_rfl)<|aU<|sR ?_;refine rQ iM ?_;refine rW<|zT<|zB ?_
   exact⟨trivial,_,rfl,[],lg ⟨⟨_,rfl,AVLe.of_eq (by rw[htk]; rfl)⟩,rfl,trivial⟩ trivial⟩
 have d4:decide (((x.k.toNat % 8:Nat):Int)=4)=false:=dF (by omega)
 by_cases k5:x.k.toNat % 8=5
 ·have d5:decide (((x.k.toNat % 8:Nat):Int)=5)=true:=dT (by omega)
  rw[show aOf x y=⟨3,0,(x.a.toNat % cp y.blocks:Nat),[],0⟩ by rw[aOf,if_neg k4,if_pos k5]]
  refine sR ?_;iterate 3 refine rN ?_
  refine nQ<|aH (by kernel_rfl) ?_;refine dC [2] [] ?_;refine dQ [7] [64] iB ?_;refine dQ [8] [] (bg (m:=(x.a.toNat:Int)) aa rfl rfl rfl hw9) ?_;refine dC [3] [] ?_;refine dQ [10] [72] iB ?_;refine dQ [11] [] (ak hse rfl rfl (aj ae) (.inl rfl) (fun _=>rfl)) ?_;refine dQ [9,12] [] (bn (a:=x.a.toNat) (b:=cp y.blocks) aa rfl rfl rfl (by omega)) ?_;refine dC [13] [] ?_;refine aC (by kernel_rfl)<|aU<|qR ?_;refine rC ?_;refine rQ iB ?_;refine rQ (bn (a:=x.k.toNat) (b:=8) aa rfl rfl rfl (by decide))<|zP<|sR ?_;refine zD ?_;refine zG<|sR ?_;refine zD ?_;refine zI<|sR ?_;refine rC ?_;refine rQ iS ?_;refine rW<|zT<|zB ?_
  exact⟨trivial,_,rfl,[],lg ⟨⟨_,rfl,fY _ _ _ _⟩,rfl,trivial⟩ trivial⟩
 have d5:decide (((x.k.toNat % 8:Nat):Int)=5)=false:=dF (by omega)
 by_cases k6:x.k.toNat % 8=6
 ·have d6:decide (((x.k.toNat % 8:Nat):Int)=6)=true:=dT (by omega)
  rw[show aOf x y=⟨4,0,(x.a.toNat % cp y.blocks:Nat),[],(x.b.toNat % 4:Nat)⟩ by rw[aOf,if_neg k4,if_neg k5,if_pos k6]]
  refine sR ?_;iterate 3 refine rN ?_
  refine nQ<|aH (by kernel_rfl) ?_;refine dC [2] [] ?_;refine dQ [7] [64] iB ?_;refine dQ [8] [] (bg (m:=(x.a.toNat:Int)) aa rfl rfl rfl hw9) ?_;refine dC [3] [] ?_;refine dQ [10] [72] iB ?_;refine dQ [11] [] (ak hse rfl rfl (aj ae) (.inl rfl) (fun _=>rfl)) ?_;refine dQ [9,12] [] (bn (a:=x.a.toNat) (b:=cp y.blocks) aa rfl rfl rfl (by omega)) ?_;refine dC [13] [] ?_;refine aC (by kernel_rfl)<|aU<|qR ?_;refine rC ?_;refine rQ iB ?_;refine rQ (bn (a:=x.k.toNat) (b:=8) aa rfl rfl rfl (by decide))<|zP<|sR ?_;refine zD ?_;refine zG<|sR ?_;refine zD ?_;refine zG<|sR ?_;refine zD ?_;refine zI<|sR ?_;refine zD ?_;refine rQ iB ?_;refine rQ (bn (a:=x.b.toNat) (b:=4) aa rfl rfl rfl (by decide)) ?_;refine rQ (bg (m:=((x.b.toNat % 4:Nat):Int)) aa rfl rfl rfl hw43) ?_;refine rQ iS ?_;refine rW<|zT<|zB ?_
  exact⟨trivial,_,rfl,[],lg ⟨⟨_,rfl,fY _ _ _ _⟩,rfl,trivial⟩ trivial⟩
 have d6:decide (((x.k.toNat % 8:Nat):Int)=6)=false:=dF (by omega)
 by_cases k7:x.k.toNat % 8=7
 ·have d7:decide (((x.k.toNat % 8:Nat):Int)=7)=true:=dT (by omega)
  rw[show aOf x y=⟨5,0,0,[],0⟩ by rw[aOf,if_neg k4,if_neg k5,if_neg k6,if_pos k7]]
  refine sR ?_;iterate 3 refine rN ?_
  refine nQ<|aH (by kernel_rfl) ?_;refine dC [2] [] ?_;refine dQ [7] [64] iB ?_;refine dQ [8] [] (bg (m:=(x.a.toNat:Int)) aa rfl rfl rfl hw9) ?_;refine dC [3] [] ?_;refine dQ [10] [72] iB ?_;refine dQ [11] [] (ak hse rfl rfl (aj ae) (.inl rfl) (fun _=>rfl)) ?_;refine dQ [9,12] [] (bn (a:=x.a.toNat) (b:=cp y.blocks) aa rfl rfl rfl (by omega)) ?_;refine dC [13] [] ?_;refine aC (by kernel_rfl)<|aU<|qR ?_;refine rC ?_;refine rQ iB ?_;refine rQ (bn (a:=x.k.toNat) (b:=8) aa rfl rfl rfl (by decide))<|zP<|sR ?_;refine zD ?_;refine zG<|sR ?_;refine zD ?_;refine zG<|sR ?_;refine zD ?_;refine zG<|sR ?_;refine zD ?_;refine zI<|sR ?_;refine rQ iS ?_;refine rW<|zT<|zB ?_
  exact⟨trivial,_,rfl,[],lg ⟨⟨_,rfl,fY _ _ _ _⟩,rfl,trivial⟩ trivial⟩
 have d7:decide (((x.k.toNat % 8:Nat):Int)=7)=false:=dF (by omega)
 rw[show aOf x y=⟨1,(x.a.toNat % (y.clients+y.shards):Nat),0,[],0⟩ by rw[aOf,if_neg k4,if_neg k5,if_neg k6,if_neg k7]]
 refine sR ?_;iterate 3 refine rN ?_
 refine nQ<|aH (by kernel_rfl) ?_;refine dC [2] [] ?_;refine dQ [7] [64] iB ?_;refine dQ [8] [] (bg (m:=(x.a.toNat:Int)) aa rfl rfl rfl hw9) ?_;refine dC [3] [] ?_;refine dQ [10] [72] iB ?_;refine dQ [11] [] (ak hse rfl rfl (aj ae) (.inl rfl) (fun _=>rfl)) ?_;refine dQ [9,12] [] (bn (a:=x.a.toNat) (b:=cp y.blocks) aa rfl rfl rfl (by omega)) ?_;refine dC [13] [] ?_;refine aC (by kernel_rfl)<|aU<|qR ?_;refine rC ?_;refine rQ iB ?_;refine rQ (bn (a:=x.k.toNat) (b:=8) aa rfl rfl rfl (by decide))<|zP<|sR ?_;refine zD ?_;refine zG<|sR ?_;refine zD ?_;refine zG<|sR ?_;refine zD ?_;refine zG<|sR ?_;refine zD ?_;refine zG<|bG<|zC<|sR ?_;refine rC ?_;refine rQ iB ?_;refine rQ (bg (m:=(x.a.toNat:Int)) aa rfl rfl rfl hw9) ?_;refine rC ?_;refine rQ iB ?_;refine rC ?_;refine rQ iB ?_;refine rQ (bk (m:=((y.clients+y.shards:Nat):Int)) aa rfl rfl hw55) ?_;refine rQ (bn (a:=x.a.toNat) (b:=y.clients+y.shards) aa rfl rfl rfl (by omega)) ?_;refine rQ iS ?_;refine rW<|zT ?_
 exact⟨trivial,_,rfl,[],lg ⟨⟨_,rfl,fY _ _ _ _⟩,rfl,trivial⟩ trivial⟩
structure PQ where
 kind:UInt8
 index:UInt8
 data:UInt8
def encQ (x:PQ):D :=.cons (u8s x.kind.toNat) (.cons (u8s x.index.toNat) (.cons (u8s x.data.toNat) .nil))
def qOf (x:PQ):POp :=
 if x.kind.toNat % 9<4 then⟨1,((x.index.toNat % 22:Nat):Int)-1,[]⟩
 else if x.kind.toNat % 9<7 then⟨2,((x.index.toNat % 22:Nat):Int)-1,List.replicate 32 x.data⟩
 else if x.kind.toNat % 9=8 then⟨((x.data.toNat % 4:Nat):Int),(x.index.toNat:Int)-100,List.replicate (x.index.toNat % 32) x.data⟩
 else⟨3,0,[]⟩
theorem m9 (k i:Int):AVLe (.d (.cons (.sc (.int .u8 k)) (.cons (.sc (.int .i64 i)) (.cons (.sc nil_) .nil)))) (.d (br ⟨k,i,[]⟩)):=
 AVLe.d (x:=encV (true,⟨k,i,[]⟩)) (fun w X cs h=>xL (x:=(true,⟨k,i,[]⟩)) (fun _=>rfl) h) rfl
def gP (d:Int) (n i:Nat):List Int:=List.replicate i d++List.replicate (n-i) 0
theorem qZ (d:Int) (n:Nat):gP d n 0=List.replicate n 0:=by simp[gP]
theorem tM {d:Int} {n i:Nat} (h:i<n):(gP d n i)[i]?=some 0:=by
 obtain⟨k,hk⟩:∃k,n-i=k+1:=⟨n-i-1,by omega⟩
 rw[gP,hk,List.getElem?_append_right (by simp),List.length_replicate,Nat.sub_self]
 rfl
theorem tL {d:Int} {n i:Nat} (h:i<n):(gP d n i).set i d=gP d n (i+1):=by
 obtain⟨k,hk⟩:∃k,n-i=k+1:=⟨n-i-1,by omega⟩
 rw[gP,gP,List.set_append_right _ _ (by simp),List.replicate_succ' (n:=i),List.append_assoc,hk,show n-(i+1)=k by omega,List.length_replicate,Nat.sub_self]
 rfl
theorem tN (d:UInt8) (n:Nat):gP d.toNat n n=byI (List.replicate n d):=by simp[gP,byI]
theorem yu (x:PQ):FnIs Tryz.prog 56 [.d (encQ x)] [] (.d (br (qOf x))) []:=by
 have hx1:=x.kind.toNat_lt
 have hx2:=x.index.toNat_lt
 have hx3:=x.data.toNat_lt
 refine aw aa Tryz.func56 rfl rfl rfl ?_;refine sR ?_;iterate 2 refine rN ?_
 refine nR<|rQ iS ?_;refine rN ?_;refine rW<|nR ?_;refine aN (da (enc:=bp) (s:=1) (N:=32) aa (0:Int) rfl rfl rfl rfl rfl rfl rfl (by decide) rfl) rfl ?_;refine rC<|zW ?_;refine rC<|zP ?_
 refine wc_inv (fun i:Nat=>⟨[(5,.int .i64 i),(4,.own 67 0 32 1 none),(3,.ptr 66 []),(2,.ptr 65 []),(1,.ptr 64 [])],[(64,some (.box 119 (.d (encQ x)))),(65,some (.box 52 (.d (encV (true,pc))))),(66,some (.box 52 (.d (encV (true,⟨3,0,[]⟩))))),(67,some (.ds 5 1 true bp (gP x.data.toNat 32 i)))],72,Tryz.f56.ntmps,64⟩) (fun i=>i≤32) (fun i=>32-i) 0 [(64,some _),(65,some _),(66,some _),(67,some _)] (Nat.zero_le _)
  (lg zh ⟨zR,zR,zR,⟨rfl,rfl,_,rfl,aE.of_eq (by rw[qZ]; rfl)⟩,trivial⟩) ?_
 intro i hi
 by_cases hlt:i<32
 ·have h3:decide ((i:Int)<32)=true:=dT (by omega)
  have hg:(gP x.data.toNat 32 i)[((i:Int)).toNat]?=some 0:=by rw[Int.toNat_natCast]; exact tM hlt
  have hset:=tL (d:=(x.data.toNat:Int)) hlt
  refine bv<|qR ?_;refine zD ?_;refine zI<|zQ<|aZ<|ao ?_;refine zU ?_;refine rQ iB ?_;refine rQ (aP aa rfl rfl rfl rfl rfl (by omega) (by omega)) ?_;refine aW (aF aa rfl rfl rfl ⟨rfl,(0:Int),(x.data.toNat:Int),hg,⟨rfl,rfl,rfl⟩,rfl⟩ rfl)<|aB<|zC<|ao ?_;refine rC ?_;refine rQ iD ?_;refine rC<|aB ?_
  exact aY (i+1) [] hlt (by omega) (lg zh ⟨zR,zR,zR,⟨rfl,rfl,_,rfl,aE.of_eq (congrArg (Row.ds 5 1 true bp) hset)⟩,trivial⟩)
 ·have he:i=32:=by omega
  subst he
  rw[tN]
  have h3:decide (((32:Nat):Int)<32)=false:=rfl
  have hl32:32=(byI (List.replicate 32 x.data)).length:=by rw[ch,List.length_replicate]
  refine bv ?_;refine eC (env':=[(5,_),(4,_),(3,_),(2,_),(1,_)]) (h':=[(64,some _),(65,some _),(66,some _)]) 67 _ rfl ⟨zE,⟨_,rfl,Frz.own hl32⟩,zE,zE,zE,trivial⟩ ⟨⟨rfl,_,rfl,.refl _⟩,⟨rfl,_,rfl,.refl _⟩,⟨rfl,_,rfl,.refl _⟩,trivial⟩ ?_
  have hw27:IntKind.i64.wrap ((x.index.toNat % 22:Nat):Int)=((x.index.toNat % 22:Nat):Int):=aI (by omega) (by omega)
  have hw48:IntKind.i64.wrap (x.index.toNat:Int)=(x.index.toNat:Int):=aI (by omega) (by omega)
  have h54:((x.index.toNat % 32:Nat):Int)≤(byI (List.replicate 32 x.data)).length:=by rw[ch,List.length_replicate]; omega
  by_cases q4:x.kind.toNat % 9<4
  ·have d4:decide (((x.kind.toNat % 9:Nat):Int)<4)=true:=dT (by omega)
   rw[show qOf x=⟨1,((x.index.toNat % 22:Nat):Int)-1,[]⟩ by rw[qOf,if_pos q4]]
   refine qR<|zD ?_;refine zJ<|zX<|qR ?_;refine rC ?_;refine rQ iB ?_;refine rQ (bn (a:=x.kind.toNat) (b:=9) aa rfl rfl rfl (by decide)) ?_;refine rC<|zP<|sR ?_;refine zU ?_;refine zI<|ao ?_;refine rC ?_;refine rQ iB ?_;refine rQ (bn (a:=x.index.toNat) (b:=22) aa rfl rfl rfl (by decide)) ?_;refine rQ (bg (m:=((x.index.toNat % 22:Nat):Int)) aa rfl rfl rfl hw27) ?_;refine rQ (cq aa rfl rfl (aI (by omega) (by omega))) ?_;refine rQ iS ?_;refine rW<|aB<|zC<|sR ?_;refine rQ iM ?_;refine rW<|zT ?_
   exact⟨trivial,_,rfl,[],lg ⟨⟨_,rfl,m9 _ _⟩,rfl,trivial⟩ trivial⟩
  have d4:decide (((x.kind.toNat % 9:Nat):Int)<4)=false:=dF (by omega)
  by_cases q7:x.kind.toNat % 9<7
  ·have d7:decide (((x.kind.toNat % 9:Nat):Int)<7)=true:=dT (by omega)
   rw[show qOf x=⟨2,((x.index.toNat % 22:Nat):Int)-1,List.replicate 32 x.data⟩ by rw[qOf,if_neg q4,if_pos q7]]
   refine qR<|zD ?_;refine zJ<|zX<|qR ?_;refine rC ?_;refine rQ iB ?_;refine rQ (bn (a:=x.kind.toNat) (b:=9) aa rfl rfl rfl (by decide)) ?_;refine rC<|zP<|sR ?_;refine zU ?_;refine zG<|sR ?_;refine zU ?_;refine zI<|ao ?_;refine rC ?_;refine rQ iB ?_;refine rQ (bn (a:=x.index.toNat) (b:=22) aa rfl rfl rfl (by decide)) ?_;refine rQ (bg (m:=((x.index.toNat % 22:Nat):Int)) aa rfl rfl rfl hw27) ?_;refine rQ (cq aa rfl rfl (aI (by omega) (by omega))) ?_;refine rC ?_;refine rQ iS ?_;refine rW<|aB<|zC<|sR ?_;refine rQ iM ?_;refine rW<|zT ?_
   exact⟨trivial,_,rfl,[],lf⟩
  have d7:decide (((x.kind.toNat % 9:Nat):Int)<7)=false:=dF (by omega)
  by_cases q8:x.kind.toNat % 9=8
  ·have d8:decide (((x.kind.toNat % 9:Nat):Int)=8)=true:=dT (by omega)
   rw[show qOf x=⟨((x.data.toNat % 4:Nat):Int),(x.index.toNat:Int)-100,List.replicate (x.index.toNat % 32) x.data⟩ by rw[qOf,if_neg q4,if_neg q7,if_pos q8]]
   have ht:(byI (List.replicate 32 x.data)).take (((x.index.toNat % 32:Nat):Int)).toNat=byI (List.replicate (x.index.toNat % 32) x.data):=by
    rw[Int.toNat_natCast,byI,byI,←List.map_take,List.take_replicate,Nat.min_eq_left (by omega)]
   refine qR<|zD ?_;refine zJ<|zX<|qR ?_;refine rC ?_;refine rQ iB ?_;refine rQ (bn (a:=x.kind.toNat) (b:=9) aa rfl rfl rfl (by decide)) ?_;refine rC<|zP<|sR ?_;refine zU ?_;refine zG<|sR ?_;refine zU ?_;refine zG<|sR ?_;refine zU ?_;refine zI ?_;refine aH (by kernel_rfl) ?_;refine dC [1] [] ?_;refine dQ [43] [64] iB ?_;refine dQ [44] [] (bn (a:=x.data.toNat) (b:=4) aa rfl rfl rfl (by decide)) ?_;refine dC [1] [] ?_;refine dQ [46] [64] iB ?_;refine dQ [47] [] (bg (m:=(x.index.toNat:Int)) aa rfl rfl rfl hw48) ?_;refine dQ [48] [] (cq aa rfl rfl (aI (by omega) (by omega))) ?_;refine dC [4] [] ?_;refine dC [1] [] ?_;refine dQ [51] [64] iB ?_;refine dQ [52] [] (bn (a:=x.index.toNat) (b:=32) aa rfl rfl rfl (by decide)) ?_;refine dQ [50,53] [] (dh (m:=((x.index.toNat % 32:Nat):Int)) aa rfl rfl rfl rfl (by omega) h54) ?_;refine dQ [45,49,54] [] iS ?_;refine ca [3,55] [66] (aF aa rfl rfl rfl ⟨_,⟨rfl,rfl,rfl⟩,rfl⟩ rfl) ?_;refine aC (by kernel_rfl)<|ew<|aU<|sR ?_;refine rQ iM ?_;refine rW<|zT ?_
   rw[ht]
   exact⟨trivial,_,rfl,[],lf⟩
  ·have d8:decide (((x.kind.toNat % 9:Nat):Int)=8)=false:=dF (by omega)
   rw[show qOf x=⟨3,0,[]⟩ by rw[qOf,if_neg q4,if_neg q7,if_neg q8]]
   refine qR<|zD ?_;refine zJ<|zX<|qR ?_;refine rC ?_;refine rQ iB ?_;refine rQ (bn (a:=x.kind.toNat) (b:=9) aa rfl rfl rfl (by decide)) ?_;refine rC<|zP<|sR ?_;refine zU ?_;refine zG<|sR ?_;refine zU ?_;refine zG<|sR ?_;refine zU ?_;refine zG<|bG<|zC<|sR ?_;refine rQ iM ?_;refine rW<|zT ?_
   exact⟨trivial,_,rfl,[],lg ⟨⟨_,rfl,m9 _ _⟩,rfl,trivial⟩ trivial⟩
abbrev yf (q:List PQ):D :=.arr 3 encQ q
def kD (l:List (List PQ)):D :=.cons (.arr 1 yf l) .nil
def ec (q:List PQ):List POp:=(q.take 3).map qOf
def pOf (l:List (List PQ)):List (List POp):=(l.take 3).map ec
theorem x6 {α:Type} {l:List α} {i:Nat} (h:i≤3) (h2:i=l.length∨i=3):l.take i=l.take 3:=by
 rcases h2 with rfl | rfl
 ·rw[List.take_length,List.take_of_length_le h]
 ·rfl
theorem xd (l:List (List PQ)):FnIs Tryz.prog 26 [.d (kD l)] [] (.own 64 0 (pOf l).length 1 none) [(64,.ds 49 1 false encP (pOf l))]:=by
 refine aw aa Tryz.func26 rfl rfl rfl ?_;refine sR<|rN ?_;refine rC<|nR ?_;refine rC<|zW ?_;refine rC<|nS<|aZ ?_
 refine wc_inv (fun i:Nat=>⟨[(4,.int .i64 i),(3,.own 65 0 ((l.take i).map ec).length 1 none),(1,.ptr 64 [])],[(64,some (.box 24 (.d (kD l)))),(65,some (.ds 49 1 false encP ((l.take i).map ec)))],72,Tryz.f26.ntmps,64⟩) (fun i=>i≤l.length∧i≤3) (fun i=>l.length-i) 0 [(64,some _),(65,none)] ⟨Nat.zero_le _,by decide⟩
  (lg zj ⟨zR,⟨rfl,rfl,rfl⟩,trivial⟩) ?_
 intro i hi
 obtain⟨hi,hi3⟩:=hi
 by_cases hlt:i<l.length∧i<3
 ·obtain⟨h1,h2⟩:=hlt
  have d1:decide ((i:Int)<(l.length:Int))=true:=dT (by omega)
  have d2:decide ((i:Int)<3)=true:=dT (by omega)
  obtain⟨q,hq0⟩:∃q,l[i]?=some q:=⟨_,List.getElem?_eq_getElem h1⟩
  have hq:l[((i:Int)).toNat]?=some q:=by rw[Int.toNat_natCast]; exact hq0
  have htk:(l.take (i+1)).map ec=(l.take i).map ec++[ec q]:=by rw[List.take_add_one,hq0]; simp
  have hln:((l.take i).map ec).length=i:=by rw[List.length_map,List.length_take]; omega
  have hB:((l.take i).map ec).length+1≤1048576:=by omega
  have hlq:((l.take (i+1)).map ec).length=((l.take i).map ec).length+1:=by rw[htk]; simp
  refine bv<|qR ?_;refine zD ?_;refine rQ iB ?_;refine rQ iE ?_;refine zD ?_;refine rO ?_;refine rC ?_;refine rO ?_;refine rC ?_;refine rQ iT ?_;refine zI<|zQ<|zS ?_;refine rC<|zW ?_;refine rC<|zP ?_
  refine wc_inv (fun j:Nat=>⟨[(6,.int .i64 j),(5,.own 66 0 ((q.take j).map qOf).length 3 none),(4,.int .i64 i),(3,.own 65 0 ((l.take i).map ec).length 1 none),(1,.ptr 64 [])],[(64,some (.box 24 (.d (kD l)))),(65,some (.ds 49 1 false encP ((l.take i).map ec))),(66,some (.ds 52 3 false br ((q.take j).map qOf)))],72,Tryz.f26.ntmps,64⟩) (fun j=>j≤q.length∧j≤3) (fun j=>q.length-j) 0 [(66,none)] ⟨Nat.zero_le _,by decide⟩
   (lg zh ⟨zR,zR,⟨rfl,rfl,rfl⟩,trivial⟩) ?_
  intro j hj
  obtain⟨hj,hj3⟩:=hj
  by_cases hjl:j<q.length∧j<3
  ·obtain⟨h3,h4⟩:=hjl
   have d3:decide ((j:Int)<(q.length:Int))=true:=dT (by omega)
   have d4:decide ((j:Int)<3)=true:=dT (by omega)
   obtain⟨x,hx0⟩:∃x,q[j]?=some x:=⟨_,List.getElem?_eq_getElem h3⟩
   have hx:q[((j:Int)).toNat]?=some x:=by rw[Int.toNat_natCast]; exact hx0
   have htj:(q.take (j+1)).map qOf=(q.take j).map qOf++[qOf x]:=by rw[List.take_add_one,hx0]; simp
   have hlj:((q.take (j+1)).map qOf).length=((q.take j).map qOf).length+1:=by rw[htj]; simp
   have hA:((q.take j).map qOf).length+1≤1048576:=by rw[List.length_map,List.length_take]; omega
   refine bv<|qR ?_;refine zD ?_;refine rQ iB ?_;refine rC ?_;refine rQ (aA aa rfl rfl rfl rfl rfl (by omega) hq) ?_;refine rQ iL ?_;refine rQ iE ?_;refine zD ?_;refine rO ?_;refine rC ?_;refine rO ?_;refine rC ?_;refine rQ iT ?_;refine zI<|zQ<|aZ<|ao ?_;refine zD ?_;refine rQ iB ?_;refine rC ?_;refine rQ (aA aa rfl rfl rfl rfl rfl (by omega) hq) ?_;refine rQ iL ?_;refine rC ?_;refine rQ (aA aa rfl rfl rfl rfl rfl (by omega) hx) ?_;refine rQ iL ?_;refine rQ (ak (yu x) rfl rfl (aj ae) (.inl rfl) (fun _=>rfl)) ?_;refine aN (aV (s:=3) aa rfl rfl rfl rfl rfl rfl rfl rfl) rfl ?_;refine aJ (bR (xs:=(q.take j).map qOf) (s:=3) (enc:=br) aa (qOf x) rfl rfl rfl rfl rfl rfl rfl rfl rfl hA rfl) rfl ?_;refine rC<|aB<|zC<|ao ?_;refine rC ?_;refine rQ iD ?_;refine rC<|aB ?_
   exact aY (j+1) [(66,some _)] ⟨h3,by omega⟩ (by omega) (lg ⟨zE,rfl,⟨_,rfl,AVLe.of_eq (by rw[hlj]; rfl)⟩,rfl,zE,rfl,zE,rfl,zE,rfl,trivial⟩ ⟨zR,zR,⟨rfl,rfl,_,rfl,aE.of_eq (by rw[htj]; rfl)⟩,trivial⟩)
  ·have hops:(q.take j).map qOf=ec q:=by rw[ec,x6 hj3 (by omega)]
   rw[hops]
   refine bv ?_;refine eC (env':=[(6,_),(5,_),(4,_),(3,_),(1,_)]) (h':=[(64,some _),(65,some _)]) 66 _ rfl ⟨zE,⟨_,rfl,Frz.own rfl⟩,zE,zE,zE,trivial⟩ ⟨⟨rfl,_,rfl,.refl _⟩,⟨rfl,_,rfl,.refl _⟩,trivial⟩ ?_
   by_cases h5:j<q.length
   ·have d3:decide ((j:Int)<(q.length:Int))=true:=dT (by omega)
    have d4:decide ((j:Int)<3)=false:=dF (by omega)
    refine qR<|zD ?_;refine rQ iB ?_;refine rC ?_;refine rQ (aA aa rfl rfl rfl rfl rfl (by omega) hq) ?_;refine rQ iL ?_;refine rQ iE ?_;refine zD ?_;refine rO ?_;refine rC ?_;refine rO ?_;refine rC ?_;refine rQ iT ?_;refine zG<|dA<|gg<|eJ<|gq<|aU<|ao ?_;refine zD ?_;refine aN (aV (s:=1) aa rfl rfl rfl rfl rfl rfl rfl rfl) rfl ?_;refine aJ (bR (xs:=(l.take i).map ec) (s:=1) (enc:=encP) aa (ec q) rfl rfl rfl rfl rfl rfl rfl rfl rfl hB rfl) rfl ?_;refine rC<|aB<|zC<|ao ?_;refine rC ?_;refine rQ iD ?_;refine rC<|aB ?_
    exact aY (i+1) [(65,some _)] ⟨h1,by omega⟩ (by omega) (lg ⟨zE,rfl,⟨_,rfl,AVLe.of_eq (by rw[hlq]; rfl)⟩,rfl,zE,rfl,trivial⟩ ⟨zR,⟨rfl,rfl,_,rfl,aE.of_eq (by rw[htk]; rfl)⟩,trivial⟩)
   ·have d3:decide ((j:Int)<(q.length:Int))=false:=dF (by omega)
    refine qR<|zD ?_;refine rQ iB ?_;refine rC ?_;refine rQ (aA aa rfl rfl rfl rfl rfl (by omega) hq) ?_;refine rQ iL ?_;refine rQ iE ?_;refine zD ?_
    iterate 2 refine rS ?_
    refine rQ iF ?_;refine zJ<|zX<|ao ?_;refine zD ?_;refine aN (aV (s:=1) aa rfl rfl rfl rfl rfl rfl rfl rfl) rfl ?_;refine aJ (bR (xs:=(l.take i).map ec) (s:=1) (enc:=encP) aa (ec q) rfl rfl rfl rfl rfl rfl rfl rfl rfl hB rfl) rfl ?_;refine rC<|aB<|zC<|ao ?_;refine rC ?_;refine rQ iD ?_;refine rC<|aB ?_
    exact aY (i+1) [(65,some _)] ⟨h1,by omega⟩ (by omega) (lg ⟨zE,rfl,⟨_,rfl,AVLe.of_eq (by rw[hlq]; rfl)⟩,rfl,zE,rfl,trivial⟩ ⟨zR,⟨rfl,rfl,_,rfl,aE.of_eq (by rw[htk]; rfl)⟩,trivial⟩)
 ·have hops:(l.take i).map ec=pOf l:=by rw[pOf,x6 hi3 (by omega)]
  rw[hops]
  refine bv ?_
  by_cases h5:i<l.length
  ·have d1:decide ((i:Int)<(l.length:Int))=true:=dT (by omega)
   have d2:decide ((i:Int)<3)=false:=dF (by omega)
   refine qR<|zD ?_;refine rQ iB ?_;refine rQ iE ?_;refine zD ?_;refine rO ?_;refine rC ?_;refine rO ?_;refine rC ?_;refine rQ iT ?_;refine zG<|dA<|gg<|eJ<|gq<|aU<|sR ?_;refine zD<|zT ?_
   exact⟨trivial,[(64,some 65)],lg zV ⟨zR,trivial⟩⟩
  ·have d1:decide ((i:Int)<(l.length:Int))=false:=dF (by omega)
   refine qR<|zD ?_;refine rQ iB ?_;refine rQ iE ?_;refine zD ?_
   iterate 2 refine rS ?_
   refine rQ iF ?_;refine zJ<|zX<|sR ?_;refine zD<|zT ?_
   exact⟨trivial,[(64,some 65)],lg zV ⟨zR,trivial⟩⟩
theorem yy (l:List (List PQ)):FnIs Tryz.prog 26 [.d (kD l)] [] (.d (cE (pOf l))) []:=(xd l).freeze_out 64 _ rfl (Frz.own rfl) trivial
def idxM (n:Nat) (o:POp):POp:=if (n:Int)<o.index then⟨o.kind,((o.index.toNat % n:Nat):Int),o.data⟩ else o
def o7 (n:Nat) (all:List (List POp)) (i:Nat):List POp:=((all[i]?).getD []).map (idxM n)
def cv (n m:Nat) (all:List (List POp)):List (List POp):=(List.range m).map (o7 n all)
theorem s9 (n m:Nat) (all:List (List POp)):cv n (m+1) all=cv n m all++[o7 n all m]:=by
 rw[cv,cv,List.range_succ,List.map_append]; rfl
theorem fv (n m:Nat) (all:List (List POp)):(cv n m all).length=m:=by simp[cv]
theorem yR (x:CX) (ps:List (List PQ)) (all:List (List POp)) (hall:pOf ps=all) (hb:∀p∈all,p.length≤1000) (hal:all.length≤1000):FnIs Tryz.prog 11 [.d (me x (kD ps))] [] (.tup (.acons (.d (bt (fB x))) (.acons (.d (cE (cv x.blocks x.clients all))) .anil))) []:=by
 obtain⟨a1,a2,a3,a4,a5,a6,a7,a8,a9,a10⟩:=dI x
 have hcf:=tU x yf ps
 have hpo:=yy ps
 rw[hall]at hpo
 refine aw aa Tryz.func11 rfl rfl rfl ?_;refine sR ?_;iterate 2 refine rN ?_
 refine rC<|nR ?_;refine rQ iM ?_;refine rQ (ak hcf rfl rfl (aj ae) (.inl rfl) (fun _=>rfl)) ?_;refine rN ?_;refine rW<|nR ?_;refine rC ?_;refine rQ iB ?_;refine rQ (ak hpo rfl rfl (aj ae) (.inl rfl) (fun _=>rfl)) ?_;refine rC<|nR ?_;refine rC<|zW ?_;refine rC<|zP ?_
 refine wc_inv (fun i:Nat=>⟨[(7,.int .i64 i),(6,.own 67 0 (cv x.blocks i all).length 1 none),(5,.d (cE all)),(4,.ptr 65 []),(2,.ptr 66 [])],[(65,some (.box 34 (.d (bt (fB x))))),(66,some (.box 34 (.d r34.zero))),(67,some (.ds 49 1 false encP (cv x.blocks i all)))],72,Tryz.f11.ntmps,64⟩) (fun i=>i≤x.clients) (fun i=>x.clients-i) 0 [(65,some _),(66,some _),(67,none)] (Nat.zero_le _)
  (lg zh ⟨zR,zR,⟨rfl,rfl,rfl⟩,trivial⟩) ?_
 intro i hi
 refine bv ?_
 by_cases hlt:i<x.clients
 ·have d1:decide ((i:Int)<(x.clients:Int))=true:=dT (by omega)
  obtain⟨p,hp⟩:∃p,(all[i]?).getD []=p:=⟨_,rfl⟩
  have hpl:p.length≤1000:=by
   rw[←hp]
   cases hq:all[i]? with
   | none=>simp
   | some q=>exact hb q (List.mem_of_getElem? hq)
  have hgo:=s9 x.blocks i all
  rw[show o7 x.blocks all i=p.map (idxM x.blocks) by rw[o7,hp]]at hgo
  have hln:=fv x.blocks i all
  have hA2:(cv x.blocks i all).length+1≤1048576:=by omega
  have hlq:(cv x.blocks (i+1) all).length=(cv x.blocks i all).length+1:=by rw[hgo]; simp
  refine qR<|zD ?_;refine rQ iB ?_;refine rC ?_;refine zI<|zQ<|zS ?_;refine rC<|zW ?_;refine rC<|zP ?_
  refine wc_inv (fun k:Nat=>⟨[(9,.int .i64 k),(8,.own 68 0 ((p.take k).map (idxM x.blocks)).length 3 none),(7,.int .i64 i),(6,.own 67 0 (cv x.blocks i all).length 1 none),(5,.d (cE all)),(4,.ptr 65 []),(2,.ptr 66 [])],[(65,some (.box 34 (.d (bt (fB x))))),(66,some (.box 34 (.d r34.zero))),(67,some (.ds 49 1 false encP (cv x.blocks i all))),(68,some (.ds 52 3 false br ((p.take k).map (idxM x.blocks))))],72,Tryz.f11.ntmps,64⟩) (fun k=>k≤p.length) (fun k=>p.length-k) 0 [(65,some _),(66,some _),(67,some _),(68,none)] (Nat.zero_le _)
   (lg zf ⟨zR,zR,zR,⟨rfl,rfl,rfl⟩,trivial⟩) ?_
  intro k hk
  refine bv ?_
  by_cases hkl:k<p.length
  ·have hia:i<all.length:=by
    rcases Nat.lt_or_ge i all.length with h | h
    ·exact h
    ·rw[List.getElem?_eq_none h]at hp; rw[←hp]at hkl; exact absurd hkl (Nat.not_lt_zero _)
   have hp0:all[i]?=some p:=by rw[List.getElem?_eq_getElem hia]at hp ⊢; rw[←hp]; rfl
   have hp2:all[((i:Int)).toNat]?=some p:=by rw[Int.toNat_natCast]; exact hp0
   have d2:decide ((i:Int)<(all.length:Int))=true:=dT (by omega)
   have d3:decide ((k:Int)<(p.length:Int))=true:=dT (by omega)
   obtain⟨o,ho⟩:∃o,p[k]?=some o:=⟨_,List.getElem?_eq_getElem hkl⟩
   have hA:((p.take k).map (idxM x.blocks)).length+1≤1048576:=by rw[List.length_map,List.length_take]; omega
   have htj:(p.take (k+1)).map (idxM x.blocks)=(p.take k).map (idxM x.blocks)++[idxM x.blocks o]:=by rw[List.take_add_one,ho]; simp
   have hlj:((p.take (k+1)).map (idxM x.blocks)).length=((p.take k).map (idxM x.blocks)).length+1:=by rw[htj]; simp
   by_cases hbig:(x.blocks:Int)<o.index
   ·rw[show idxM x.blocks o=⟨o.kind,((o.index.toNat % x.blocks:Nat):Int),o.data⟩ from if_pos hbig]at htj
    obtain⟨w,hw⟩:∃w:Nat,o.index=w:=⟨o.index.toNat,by omega⟩
    obtain⟨kd,ix,dt⟩:=o
    simp only at hw hbig htj
    subst hw
    rw[Int.toNat_natCast]at htj
    have ho2:p[((k:Int)).toNat]?=some ⟨kd,(w:Int),dt⟩:=by rw[Int.toNat_natCast]; exact ho
    have d4:decide ((x.blocks:Int)<(w:Int))=true:=dT hbig
    refine qR<|zD ?_;refine rQ iE ?_;refine zD ?_;refine rO ?_;refine rC ?_;refine rO ?_;refine rC ?_;refine rO ?_;refine rC ?_;refine rO ?_;refine rQ (aA aa rfl rfl rfl rfl rfl (by omega) hp2) ?_;refine rO ?_;refine rQ iL ?_;refine rO ?_;refine rQ iE ?_;refine rO ?_;refine rC ?_;refine rQ iT ?_;refine zI<|zQ<|aZ<|sR ?_;refine zD ?_;refine rQ (aA aa rfl rfl rfl rfl rfl (by omega) hp2) ?_;refine rQ iL ?_;refine rC ?_;refine rQ (aA aa rfl rfl rfl rfl rfl (by omega) ho2) ?_;refine rQ iL ?_;refine rN ?_;refine rW<|zW ?_;refine rC ?_;refine rQ iB ?_;refine rC ?_;refine rQ iB ?_;refine rC ?_;refine zI<|ao ?_;refine rC ?_;refine rQ iB ?_;refine rC ?_;refine rQ iB ?_;refine rQ (bn (a:=w) (b:=x.blocks) aa rfl rfl rfl (by omega)) ?_;refine rC ?_;refine rX<|nS<|ao ?_;refine rC ?_;refine rQ iM ?_;refine aN (aV (s:=3) aa rfl rfl rfl rfl rfl rfl rfl rfl) rfl ?_;refine aJ (bR (xs:=(p.take k).map (idxM x.blocks)) (s:=3) (enc:=br) aa (⟨kd,((w % x.blocks:Nat):Int),dt⟩:POp) rfl rfl rfl rfl rfl rfl rfl rfl rfl hA rfl) rfl ?_;refine rC<|aB<|zC<|ao ?_;refine rC ?_;refine rQ iD ?_;refine rC<|aB ?_
    exact aY (k+1) [(65,some _),(66,some _),(67,some _),(68,some _)] hkl (by omega) (lg ⟨zE,rfl,⟨_,rfl,AVLe.of_eq (by rw[hlj]; rfl)⟩,rfl,zE,rfl,zE,rfl,zE,rfl,zE,rfl,zE,rfl,trivial⟩ ⟨zR,zR,zR,⟨rfl,rfl,_,rfl,aE.of_eq (by rw[htj]; rfl)⟩,trivial⟩)
   ·rw[show idxM x.blocks o=o from if_neg hbig]at htj
    have ho2:p[((k:Int)).toNat]?=some o:=by rw[Int.toNat_natCast]; exact ho
    have d4:decide ((x.blocks:Int)<o.index)=false:=dF hbig
    refine qR<|zD ?_;refine rQ iE ?_;refine zD ?_;refine rO ?_;refine rC ?_;refine rO ?_;refine rC ?_;refine rO ?_;refine rC ?_;refine rO ?_;refine rQ (aA aa rfl rfl rfl rfl rfl (by omega) hp2) ?_;refine rO ?_;refine rQ iL ?_;refine rO ?_;refine rQ iE ?_;refine rO ?_;refine rC ?_;refine rQ iT ?_;refine zI<|zQ<|aZ<|sR ?_;refine zD ?_;refine rQ (aA aa rfl rfl rfl rfl rfl (by omega) hp2) ?_;refine rQ iL ?_;refine rC ?_;refine rQ (aA aa rfl rfl rfl rfl rfl (by omega) ho2) ?_;refine rQ iL ?_;refine rN ?_;refine rW<|zW ?_;refine rC ?_;refine rQ iB ?_;refine rC ?_;refine rQ iB ?_;refine rC ?_;refine zG<|kS<|ao ?_;refine rC ?_;refine rQ iM ?_;refine aN (aV (s:=3) aa rfl rfl rfl rfl rfl rfl rfl rfl) rfl ?_;refine aJ (bR (xs:=(p.take k).map (idxM x.blocks)) (s:=3) (enc:=br) aa o rfl rfl rfl rfl rfl rfl rfl rfl rfl hA rfl) rfl ?_;refine rC<|aB<|zC<|ao ?_;refine rC ?_;refine rQ iD ?_;refine rC<|aB ?_
    exact aY (k+1) [(65,some _),(66,some _),(67,some _),(68,some _)] hkl (by omega) (lg ⟨zE,rfl,⟨_,rfl,AVLe.of_eq (by rw[hlj]; rfl)⟩,rfl,zE,rfl,zE,rfl,zE,rfl,zE,rfl,zE,rfl,trivial⟩ ⟨zR,zR,zR,⟨rfl,rfl,_,rfl,aE.of_eq (by rw[htj]; rfl)⟩,trivial⟩)
  ·have he:k=p.length:=by omega
   subst he
   rw[List.take_length]
   refine eC (env':=[(9,_),(8,_),(7,_),(6,_),(5,_),(4,_),(2,_)]) (h':=[(65,some _),(66,some _),(67,some _)]) 68 _ rfl ⟨zE,⟨_,rfl,Frz.own rfl⟩,zE,zE,zE,zE,zE,trivial⟩ ⟨⟨rfl,_,rfl,.refl _⟩,⟨rfl,_,rfl,.refl _⟩,⟨rfl,_,rfl,.refl _⟩,trivial⟩ ?_
   by_cases hia:i<all.length
   ·have hp0:all[i]?=some p:=by rw[List.getElem?_eq_getElem hia]at hp ⊢; rw[←hp]; rfl
    have hp2:all[((i:Int)).toNat]?=some p:=by rw[Int.toNat_natCast]; exact hp0
    have d2:decide ((i:Int)<(all.length:Int))=true:=dT (by omega)
    have d3:decide ((p.length:Int)<(p.length:Int))=false:=dF (by omega)
    refine qR<|zD ?_;refine rQ iE ?_;refine zD ?_;refine rO ?_;refine rC ?_;refine rO ?_;refine rC ?_;refine rO ?_;refine rC ?_;refine rO ?_;refine rQ (aA aa rfl rfl rfl rfl rfl (by omega) hp2) ?_;refine rO ?_;refine rQ iL ?_;refine rO ?_;refine rQ iE ?_;refine rO ?_;refine rC ?_;refine rQ iT ?_;refine zG<|dA<|gg<|eJ<|gq<|aU<|ao ?_;refine zD ?_;refine aN (aV (s:=1) aa rfl rfl rfl rfl rfl rfl rfl rfl) rfl ?_;refine aJ (bR (xs:=cv x.blocks i all) (s:=1) (enc:=encP) aa (p.map (idxM x.blocks)) rfl rfl rfl rfl rfl rfl rfl rfl rfl hA2 rfl) rfl ?_;refine rC<|aB<|zC<|ao ?_;refine rC ?_;refine rQ iD ?_;refine rC<|aB ?_
    exact aY (i+1) [(65,some _),(66,some _),(67,some _)] hlt (by omega) (lg ⟨zE,rfl,⟨_,rfl,AVLe.of_eq (by rw[hlq]; rfl)⟩,rfl,zE,rfl,zE,rfl,zE,rfl,trivial⟩ ⟨zR,zR,⟨rfl,rfl,_,rfl,aE.of_eq (by rw[hgo]; rfl)⟩,trivial⟩)
   ·have d2:decide ((i:Int)<(all.length:Int))=false:=dF (by omega)
    refine qR<|zD ?_;refine rQ iE ?_;refine zD ?_
    iterate 7 refine rS ?_
    refine rQ iF ?_;refine zJ<|zX<|ao ?_;refine zD ?_;refine aN (aV (s:=1) aa rfl rfl rfl rfl rfl rfl rfl rfl) rfl ?_;refine aJ (bR (xs:=cv x.blocks i all) (s:=1) (enc:=encP) aa (p.map (idxM x.blocks)) rfl rfl rfl rfl rfl rfl rfl rfl rfl hA2 rfl) rfl ?_;refine rC<|aB<|zC<|ao ?_;refine rC ?_;refine rQ iD ?_;refine rC<|aB ?_
    exact aY (i+1) [(65,some _),(66,some _),(67,some _)] hlt (by omega) (lg ⟨zE,rfl,⟨_,rfl,AVLe.of_eq (by rw[hlq]; rfl)⟩,rfl,zE,rfl,zE,rfl,zE,rfl,trivial⟩ ⟨zR,zR,⟨rfl,rfl,_,rfl,aE.of_eq (by rw[hgo]; rfl)⟩,trivial⟩)
 ·have he:i=x.clients:=by omega
  subst he
  have d1:decide ((x.clients:Int)<(x.clients:Int))=false:=dF (by omega)
  refine eC (env':=[(7,_),(6,_),(5,_),(4,_),(2,_)]) (h':=[(65,some _),(66,some _)]) 67 _ rfl ⟨zE,⟨_,rfl,Frz.own rfl⟩,zE,zE,zE,trivial⟩ ⟨⟨rfl,_,rfl,.refl _⟩,⟨rfl,_,rfl,.refl _⟩,trivial⟩<|qR ?_;refine zD ?_;refine rQ iB ?_;refine rC ?_;refine zG<|zX<|sR ?_;refine rQ iM ?_;refine rC ?_;refine rW ?_;refine rC<|zT ?_
  exact⟨trivial,_,rfl,[],lf⟩
end Go.Proofs.YtpmhnpnmpjimnaaGreatDoor
