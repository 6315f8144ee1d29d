-- Printed by a changed copy of the printer; impl.bestPit and spec.paFind by contracts walked by hand
import Derived.Test.YtlkppimbbbdmbaaPFnForcedx0
import Derived.Test.YtlkppimbbbdmbaaPFnForcedx1
namespace Go.Proofs.Ytlkppimbbbdmbaa.PFnForced
open Go.RowKit Go.Proofs.YtlkppimbbbdmbaaW.PrintWords Go.Proofs.YtlkppimbbbdmbaaW.PrintLast Go.Proofs.YtlkppimbbbdmbaaW.PrintMore
attribute [local go_sem] max2_int min2_int max_two min_two max_three min_three max_four min_four
set_option linter.unusedVariables false
set_option linter.unusedSimpArgs false
def impl_outOf.l0:Nat→List Bool→List Bool→Int→Int→Option (List Bool)
 |0,_,_,_,_=>none
 |k+1,x0,x3,x9,x10=>if x10<x9 then(if 0≤x10 then(if x10<(x0.length:Int)then(if x10<(x3.length:Int)then(impl_outOf.l0 k x0 (x3.set (x10:Int).toNat (!(rdOf false x0 x10))) x9 (wrap64 (x10+1)))else(none))else(none))else(none))else(some x3)
def impl_outOf.f (k:Nat) (l0:List Bool):Option (List Bool):=if 0≤(l0.length:Int)then(if((l0.length:Int):Int).toNat≤281474976710656 then(impl_outOf.l0 k l0 (List.replicate ((l0.length:Int):Int).toNat false) (l0.length:Int) 0)else(none))else(none)
set_option maxHeartbeats 8000000 in
set_option maxRecDepth 100000 in
theorem impl_outOf.calls (k:Nat) (A0:Option Addr) (c0:Nat) (l0:List Bool) (r:List Bool) (w:World) (hr0:Kd.C Kd.bool w A0 l0.length l0) (hc0:l0.length≤c0) (h:impl_outOf.f k l0=some r):
  Calls Try.prog 126 #[.slice A0 l0.length c0] w fun e w'=> ∃v0_:Value,e= .returned (v0_)∧Kd.R Kd.bool 4 w' w.heap.size (fun _=>True) v0_ r∧Below w.heap.size w w':=by
 have HR0:=Aside0.mk hr0;have HC0:=Aside0.mk hc0;clear hr0 hc0;have HB:=Aside0.mk (Below.refl w.heap.size w);have H:=h;clear h
 unfold impl_outOf.f at H
 replace H:=itp H;rcases H with⟨c2,H⟩|⟨c2,H⟩
 ·have c2b0:=eq_true c2;have c2b1:=decide_eq_true c2;clear c2;replace H:=ite_ H;obtain⟨c3b0,c3b1,H⟩:=H;obtain⟨y171,Ny171⟩:=nmx ((List.replicate ((l0.length:Int):Int).toNat false):List Bool);rw[←Ny171.out]at H;have H':=Aside0.mk H;clear H
  go_enter Try.func126,Try.ntmps126
  go_wp2_with(first|((with_reducible refine gate_dst (N:=7) rfl ?_);refine Kd.R_make Kd.bool _ 4 rfl (N:=7) rfl 80 _ _ rfl (l0.length:Int) rfl rfl Try.underlying80 (.bool false) 1 info4 rfl (by decide) (by omega) false (ok:=fun _=>True) (okp:=fun _=>True) rfl (fun _ hk=>hk) trivial (of_decide_eq_true asx) (Nat.le_trans (Nat.mul_le_mul_right _ (of_decide_eq_true asx:(l0.length:Int).toNat≤281474976710656)) (by omega)) (Below.refl _ _) (Nat.le_refl _) ?_;intro v172 w4 ho5 hb hg_ hnew_;clear hg_ hnew_;(first|rw[←Ny171.out]at ho5|(simp only[Int.reduceToNat]at ho5;rw[←Ny171.out]at ho5));have HO173:=eRr ho5 (bz HB);replace HB:=bs HB hb;clear hb ho5))
  go_loopg [10] k (fun kq v10 w'=> ∃(x3_1:List Bool) (x10_1:Int),v10= .int .i64 x10_1∧Aside0 (impl_outOf.l0 kq l0 x3_1 (l0.length:Int) x10_1=some r)∧Aside0 (kq≤k)∧Aside0 (Kd.R Kd.bool 4 w' w.heap.size (fun _=>True) v172 x3_1)∧Aside0 (Below w.heap.size w w'))
  case atStart=>exact⟨(y171),(0),eqx,H',⟨Nat.le_refl _⟩,mR HO173,⟨cB HB⟩⟩
  case round=>
   clear H';obtain⟨x3_1,x10_1,rfl,HA,HK1,HO_3,HB⟩:=hrel;obtain _|k1:=gk
   ·exact nz HA.out
   have H:=HA.out;clear HA;simp only[impl_outOf.l0]at H;replace H:=itb H;rcases H with⟨c6b0,H⟩|⟨c6b0,H⟩
   ·replace H:=itd H;obtain⟨c7b0,H⟩:=H;replace H:=itd H;obtain⟨c8b0,H⟩:=H;replace H:=itd H;obtain⟨c9b0,H⟩:=H;obtain⟨y175,Ny175⟩:=nmx ((x3_1.set (x10_1:Int).toNat (!(rdOf false l0 x10_1))):List Bool);rw[←Ny175.out]at H;have H':=Aside0.mk H;clear H;obtain⟨ad174,e174,hx174_0,p174,q174⟩:=ldb (i:=x10_1) HR0.out;cases e174;replace hx174_0:=hc_ HB hx174_0;have p10:0≤(x10_1:Int):=of_decide_eq_true asx;have q10:(x10_1:Int)<((x3_1.length:Int):Int):=of_decide_eq_true asx;obtain⟨go10,co10,eo10,gb10,gl10,cl10,HG10⟩:=Kd.R_form HO_3.out (by omega)
    (first|cases eo10|(injection eo10 with ea_ en_ ec_;(first|subst ea_|(injection ea_ with ea_;subst ea_));subst ec_;clear en_))
    have GB10:=Aside0.mk gb10;have GG10:=Aside0.mk HG10;clear gb10 gl10 HG10;obtain⟨hx10_0,hf10_0⟩:=Kd.R_celln false HO_3.out (x10_1:Int) p10 q10;replace p10:=eq_true p10;replace q10:=eq_true q10;have HP11:=Kd.R_putg HO_3.out (x10_1:Int) (!(rdOf false l0 x10_1))
    go_wp2_with(first|((with_reducible refine gate_store (t:=4) (p:=20) rfl ?_);refine store_event (t:=4) (p:=20) (v:=?vo_w12) (w1:=(wr.setCell ⟨go10,(x10_1:Int).toNat,none⟩ (.bool (!(rdOf false l0 x10_1))))) ?hg ?ho ?hn ?hr ?_;(case ho=>rfl);(case hg=>rfl);(case hn=>rfl);(case hr=>first|(go_simp;done)|(go_simp;rfl));intro w12 hw;have hg:wr.grownBy w12 (some go10):=(by rw[hw];exact HP11.2);have hp_:Kd.R Kd.bool 4 w12 w.heap.size (fun _=>True) (.slice (some ⟨go10,0,none⟩) x3_1.length co10) y175:=(by rw[hw,Ny175.out];exact HP11.1);clear HP11;replace HO_3:=Aside0.mk hp_;replace HB:=Aside0.mk (by rw[hw];exact below_set (HB.out) GB10.out:Below w.heap.size w w12);clear hg hw hp_))
    go_roundg k1
    case measure=>have:=HK1.out;omega
    case rel=>exact⟨(y175),(wrap64 (x10_1+1)),eqx,H',⟨by have:=HK1.out;omega⟩,mR HO_3,⟨cB HB⟩⟩
   ·obtain rfl:=Option.some.inj H;go_wp2
    go_ret
    exact⟨_,erx,by(with_reducible repeat(first|apply Kd.R_alloc|apply Kd.R_drewN|apply Kd.R_drew));exact HO_3.out,cB HB⟩
 ·exact absurd H (by simp)
def impl_bestPit.f0 (l0:List (List Int)) (l1:List Int):Option (List Bool):=if 1≤l0.length∧l1.length=l0.length∧Go.Proofs.Ytlkppimbbbdmbaa.Flow.fitB l0 (Go.Proofs.Ytlkppimbbbdmbaa.Res.freeV l1 [] [] l0.length)=true then some (Go.Proofs.Ytlkppimbbbdmbaa.Res.resB l0 l1 [] [])else none
def impl_bestPit.fo (l0:List (List Int)) (l1:List Int) (l3:List Bool):Option (List Bool):=if 1≤l0.length∧l1.length=l0.length∧l3.length=l0.length∧Go.Proofs.Ytlkppimbbbdmbaa.Flow.fitB l0 (Go.Proofs.Ytlkppimbbbdmbaa.Res.freeV l1 [] l3 l0.length)=true then some (Go.Proofs.Ytlkppimbbbdmbaa.Res.resB l0 l1 [] l3)else none
def impl_bestPit.fi (l0:List (List Int)) (l1:List Int) (l2:List Bool):Option (List Bool):=if 1≤l0.length∧l1.length=l0.length∧l2.length=l0.length∧Go.Proofs.Ytlkppimbbbdmbaa.Flow.fitB l0 (Go.Proofs.Ytlkppimbbbdmbaa.Res.freeV l1 l2 [] l0.length)=true then some (Go.Proofs.Ytlkppimbbbdmbaa.Res.resB l0 l1 l2 [])else none
theorem impl_bestPit.arg {w:World} {n:Nat} {A:Option Addr} {c:Nat} {l:List Bool} (h:Kd.C Kd.bool w A l.length l) (hn:1≤n) (hl:l.length=n):Go.Proofs.Ytlkppimbbbdmbaa.Res.MkArg w n (.slice A l.length c) l:=by
 obtain⟨ad,e,_⟩:=Kd.at_bool h 0 (Int.le_refl _) (by omega);subst e;exact .inr ⟨ad,c,rfl,hl,h⟩
theorem impl_bestPit.calls_0 (A0:Option Addr) (c0:Nat) (l0:List (List Int)) (A1:Option Addr) (c1:Nat) (l1:List Int) (A2:Option Addr) (c2:Nat) (l2:List Bool) (A3:Option Addr) (c3:Nat) (l3:List Bool) (a4:Bool) (r:List Bool) (w:World) (hr0:Kd.C (Kd.slice 3 (Kd.int .i64)) w A0 l0.length l0) (hc0:l0.length≤c0) (hr1:Kd.C (Kd.int .i64) w A1 l1.length l1) (hc1:l1.length≤c1) (hr2:Kd.C Kd.bool w A2 l2.length l2) (hc2:l2.length≤c2) (hr3:Kd.C Kd.bool w A3 l3.length l3) (hc3:l3.length≤c3) (h:impl_bestPit.f0 l0 l1=some r):
  Calls Try.prog 79 #[.slice A0 l0.length c0,.slice A1 l1.length c1,.slice none 0 0,.slice none 0 0,.bool false] w fun e w'=> ∃v0_:Value,e= .returned (v0_)∧Kd.V Kd.bool 4 w' w.heap.size (fun k_=>(w.heap.size≤k_)) v0_ r∧Below w.heap.size w w':=by
 unfold impl_bestPit.f0 at h
 split at h
 ·rename_i hf
  injection h with h
  subst h;exact Go.Proofs.Ytlkppimbbbdmbaa.Res.bestPit_calls A0 c0 l0 A1 c1 l1 _ _ [] [] w hr0 hc0 hr1 hc1 (.inl ⟨rfl,rfl⟩) (.inl ⟨rfl,rfl⟩) hf.1 hf.2.1 (Go.Proofs.Ytlkppimbbbdmbaa.Flow.fitB_iff.1 hf.2.2)
 ·cases h
theorem impl_bestPit.calls_o (A0:Option Addr) (c0:Nat) (l0:List (List Int)) (A1:Option Addr) (c1:Nat) (l1:List Int) (A2:Option Addr) (c2:Nat) (l2:List Bool) (A3:Option Addr) (c3:Nat) (l3:List Bool) (a4:Bool) (r:List Bool) (w:World) (hr0:Kd.C (Kd.slice 3 (Kd.int .i64)) w A0 l0.length l0) (hc0:l0.length≤c0) (hr1:Kd.C (Kd.int .i64) w A1 l1.length l1) (hc1:l1.length≤c1) (hr2:Kd.C Kd.bool w A2 l2.length l2) (hc2:l2.length≤c2) (hr3:Kd.C Kd.bool w A3 l3.length l3) (hc3:l3.length≤c3) (h:impl_bestPit.fo l0 l1 l3=some r):
  Calls Try.prog 79 #[.slice A0 l0.length c0,.slice A1 l1.length c1,.slice none 0 0,.slice A3 l3.length c3,.bool false] w fun e w'=> ∃v0_:Value,e= .returned (v0_)∧Kd.V Kd.bool 4 w' w.heap.size (fun k_=>(w.heap.size≤k_)) v0_ r∧Below w.heap.size w w':=by
 unfold impl_bestPit.fo at h
 split at h
 ·rename_i hf
  injection h with h
  subst h;exact Go.Proofs.Ytlkppimbbbdmbaa.Res.bestPit_calls A0 c0 l0 A1 c1 l1 _ _ [] l3 w hr0 hc0 hr1 hc1 (.inl ⟨rfl,rfl⟩) (impl_bestPit.arg hr3 hf.1 hf.2.2.1) hf.1 hf.2.1 (Go.Proofs.Ytlkppimbbbdmbaa.Flow.fitB_iff.1 hf.2.2.2)
 ·cases h
theorem impl_bestPit.calls_i (A0:Option Addr) (c0:Nat) (l0:List (List Int)) (A1:Option Addr) (c1:Nat) (l1:List Int) (A2:Option Addr) (c2:Nat) (l2:List Bool) (A3:Option Addr) (c3:Nat) (l3:List Bool) (a4:Bool) (r:List Bool) (w:World) (hr0:Kd.C (Kd.slice 3 (Kd.int .i64)) w A0 l0.length l0) (hc0:l0.length≤c0) (hr1:Kd.C (Kd.int .i64) w A1 l1.length l1) (hc1:l1.length≤c1) (hr2:Kd.C Kd.bool w A2 l2.length l2) (hc2:l2.length≤c2) (hr3:Kd.C Kd.bool w A3 l3.length l3) (hc3:l3.length≤c3) (h:impl_bestPit.fi l0 l1 l2=some r):
  Calls Try.prog 79 #[.slice A0 l0.length c0,.slice A1 l1.length c1,.slice A2 l2.length c2,.slice none 0 0,.bool false] w fun e w'=> ∃v0_:Value,e= .returned (v0_)∧Kd.V Kd.bool 4 w' w.heap.size (fun k_=>(w.heap.size≤k_)) v0_ r∧Below w.heap.size w w':=by
 unfold impl_bestPit.fi at h
 split at h
 ·rename_i hf
  injection h with h
  subst h;exact Go.Proofs.Ytlkppimbbbdmbaa.Res.bestPit_calls A0 c0 l0 A1 c1 l1 _ _ l2 [] w hr0 hc0 hr1 hc1 (impl_bestPit.arg hr2 hf.1 hf.2.2.1) (.inl ⟨rfl,rfl⟩) hf.1 hf.2.1 (Go.Proofs.Ytlkppimbbbdmbaa.Flow.fitB_iff.1 hf.2.2.2)
 ·cases h
def impl_BestPit.f (k:Nat) (l0:List (List Int)) (l1:List Int):Option (List Int×Bool):=(impl_areValued.f k l0 l1).bind fun t201=>(if t201=true then((impl_bestPit.f0 l0 l1).bind fun t202=>((impl_listOf.f k t202).bind fun t205=>(some (t205,true))))else(some (([]:List Int),false)))
set_option maxHeartbeats 8000000 in
set_option maxRecDepth 100000 in
theorem impl_BestPit.calls (k:Nat) (A0:Option Addr) (c0:Nat) (l0:List (List Int)) (A1:Option Addr) (c1:Nat) (l1:List Int) (r1:List Int) (r2:Bool) (w:World) (hr0:Kd.C (Kd.slice 3 (Kd.int .i64)) w A0 l0.length l0) (hc0:l0.length≤c0) (hr1:Kd.C (Kd.int .i64) w A1 l1.length l1) (hc1:l1.length≤c1) (h:impl_BestPit.f k l0 l1=some (r1,r2)):
  Calls Try.prog 15 #[.slice A0 l0.length c0,.slice A1 l1.length c1] w fun e w'=> ∃v0_:Value,e= .returned (.tuple #[v0_,.bool r2])∧Kd.R (Kd.int .i64) 3 w' w.heap.size (fun _=>True) v0_ r1∧Below w.heap.size w w':=by
 have HR0:=Aside0.mk hr0;have HC0:=Aside0.mk hc0;clear hr0 hc0;have HR1:=Aside0.mk hr1;have HC1:=Aside0.mk hc1;clear hr1 hc1;have HB:=Aside0.mk (Below.refl w.heap.size w);have H:=h;clear h
 unfold impl_BestPit.f at H
 replace H:=bnd H;obtain⟨t201,A3,H⟩:=H;replace H:=itt H;rcases H with⟨rfl,H⟩|⟨rfl,H⟩
 ·replace H:=bnd H;obtain⟨t202,A5,H⟩:=H;replace H:=bnd H;obtain⟨t205,A6,H⟩:=H;simp only[Option.some.injEq,Prod.mk.injEq]at H;obtain⟨rfl,rfl⟩:=H
  go_enter Try.func15,Try.ntmps15
  go_wp2_with(first|(refine cal_ 73 (some 8) Try.func73 #[.slice A0 l0.length c0,.slice A1 l1.length c1] rfl (impl_areValued.calls k _ _ l0 _ _ l1 true _ ?_ HC0.out ?_ HC1.out A3.out) ?_;exact cC HR0;exact cC HR1;rintro e w' ⟨rfl,⟨nd,rfl⟩⟩;refine⟨_,rfl,?_⟩)|((with_reducible refine gate_callee (f:=79) rfl ?_);refine goesL_ (some 12) rfl rfl Try.func79 (by kernel_rfl) rfl #[.slice A0 l0.length c0,.slice A1 l1.length c1,.slice none 0 0,.slice none 0 0,.bool false] rfl (by(try simp only[List.map_toArray,List.map_cons,List.map_nil]);first|done|rfl|(simp only[List.length_drop,List.length_take];rfl)) ?_;(refine(impl_bestPit.calls_0 _ _ l0 _ _ l1 none 0 ([]:List Bool) none 0 ([]:List Bool) false t202 _ ?side1 ?side2 ?side3 ?side4 ?side5 ?side6 ?side7 ?side8 A5.out).mono ?_);(case side1=>exact cC HR0);(case side2=>exact HC0.out);(case side3=>exact cC HR1);(case side4=>exact HC1.out);(case side5=>exact Kd.C_nil _ _);(case side6=>exact Nat.le_refl _);(case side7=>exact Kd.C_nil _ _);(case side8=>exact Nat.le_refl _);rintro e w7 ⟨v203,rfl,ho0,hb⟩;refine⟨_,rfl,?_⟩;have HO204:=Aside0.mk (Kd.V_lower (Kd.V_mono (ok':=fun k_=>True) ho0 (fun k_ hk_=>trivial)) (bz HB));replace HB:=bs HB hb;clear hb ho0;obtain⟨Ao8,co8,rfl⟩:=sV HO204)|(refine cal_ 78 (some 13) Try.func78 #[.slice Ao8 t202.length co8] rfl (impl_listOf.calls k _ _ t202 t205 _ ?_ (lV HO204) A6.out) ?_;exact rV HO204;rintro e w9 ⟨v206,rfl,ho0,hb⟩;refine⟨_,rfl,?_⟩;replace HO204:=Aside0.mk (Kd.V_elder' (cV HO204) (Kd.R_base ho0) hb);have HO207:=eRr ho0 (bz HB);replace HB:=bs HB hb;clear hb ho0))
  go_ret2
  exact⟨_,erx,by(with_reducible repeat(first|apply Kd.R_alloc|apply Kd.R_drewN|apply Kd.R_drew));exact HO207.out,cB HB⟩
 ·simp only[Option.some.injEq,Prod.mk.injEq]at H;obtain⟨rfl,rfl⟩:=H
  go_enter Try.func15,Try.ntmps15
  go_wp2_with(first|(refine cal_ 73 (some 8) Try.func73 #[.slice A0 l0.length c0,.slice A1 l1.length c1] rfl (impl_areValued.calls k _ _ l0 _ _ l1 false _ ?_ HC0.out ?_ HC1.out A3.out) ?_;exact cC HR0;exact cC HR1;rintro e w' ⟨rfl,⟨nd,rfl⟩⟩;refine⟨_,rfl,?_⟩))
  go_ret2
  exact⟨_,erx,nlx,cB HB⟩
def spec_l1In.f (a0:Int) (a1:Int) (a2:Int):Option (Bool):=if a0≥a1 then(some (decide (a0≤a2)))else(some false)
set_option maxHeartbeats 8000000 in
set_option maxRecDepth 100000 in
theorem spec_l1In.calls (a0:Int) (a1:Int) (a2:Int) (r:Bool) (w:World) (h:spec_l1In.f a0 a1 a2=some r):
  Calls Try.prog 81 #[.int .i64 a0,.int .i64 a1,.int .i64 a2] w fun e w'=>e= .returned (.bool r)∧Drawn0 w w':=by
 have H:=h;clear h
 unfold spec_l1In.f at H
 replace H:=itb H;rcases H with⟨c4b0,H⟩|⟨c4b0,H⟩
 ·obtain rfl:=Option.some.inj H
  go_enter Try.func81,Try.ntmps81
  go_wp2
  go_ret
  exact⟨eqx,d0x⟩
 ·obtain rfl:=Option.some.inj H
  go_enter Try.func81,Try.ntmps81
  go_wp2
  go_ret
  exact⟨eqx,d0x⟩
end Go.Proofs.Ytlkppimbbbdmbaa.PFnForced
