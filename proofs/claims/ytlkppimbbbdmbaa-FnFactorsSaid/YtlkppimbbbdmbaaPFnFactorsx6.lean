-- Printed by a changed copy of the printer; impl.bestPit and spec.paFind by contracts walked by hand
import Derived.Test.YtlkppimbbbdmbaaPFnFactorsx0
import Derived.Test.YtlkppimbbbdmbaaPFnFactorsx1
import Derived.Test.YtlkppimbbbdmbaaPFnFactorsx5
namespace Go.Proofs.Ytlkppimbbbdmbaa.PFnFactors
open Go.RowKit Go.Proofs.YtlkppimbbbdmbaaW.PrintWords Go.Proofs.YtlkppimbbbdmbaaW.PrintLast Go.Proofs.YtlkppimbbbdmbaaW.PrintMore
attribute [local go_sem] max2_int min2_int max_two min_two max_three min_three max_four min_four
set_option linter.unusedVariables false
set_option linter.unusedSimpArgs false
def impl_PitsTo.l0:Nat→List (List Int)→List (List Bool)→Int→Int→Option ((List (List Int))×Bool)
 |0,_,_,_,_=>none
 |k+1,x10,x24,x25,x26=>if x26<x25 then(if 0≤x26 then(if x26<(x24.length:Int)then((impl_listOf.f k (rd_L4 x24 x26)).bind fun t267=>(if x10.length<5864062014805 then(impl_PitsTo.l0 k (x10++[t267]) x24 x25 (wrap64 (x26+1)))else(none)))else(none))else(none))else(some (x10,true))
def impl_PitsTo.f (k:Nat) (l0:List (List Int)) (l1:List Int) (l2:List Int) (a3:Int):Option ((List (List Int))×Bool):=(impl_areNested.f k l0 l1 l2 a3).bind fun t259=>(if t259=true then((impl_pitsTo.f k l0 l1 l2 a3).bind fun t263=>(impl_PitsTo.l0 k (([]:List (List Int))) t263 (t263.length:Int) 0))else(some (([]:List (List Int)),false)))
set_option maxHeartbeats 8000000 in
set_option maxRecDepth 100000 in
theorem impl_PitsTo.calls (k:Nat) (A0:Option Addr) (c0:Nat) (l0:List (List Int)) (A1:Option Addr) (c1:Nat) (l1:List Int) (A2:Option Addr) (c2:Nat) (l2:List Int) (a3:Int) (r1:List (List Int)) (r2:Bool) (w:World) (hr0:Kd.C (Kd.slice 3 (Kd.int .i64)) w A0 l0.length l0) (hc0:l0.length≤c0) (hr1:Kd.C (Kd.int .i64) w A1 l1.length l1) (hc1:l1.length≤c1) (hr2:Kd.C (Kd.int .i64) w A2 l2.length l2) (hc2:l2.length≤c2) (h:impl_PitsTo.f k l0 l1 l2 a3=some (r1,r2)):
  Calls Try.prog 35 #[.slice A0 l0.length c0,.slice A1 l1.length c1,.slice A2 l2.length c2,.int .i64 a3] w fun e w'=> ∃v0_:Value,e= .returned (.tuple #[v0_,.bool r2])∧Kd.S (Kd.slice 3 (Kd.int .i64)) 24 w' w.heap.size (fun _=>True) v0_ r1∧Below w.heap.size w w':=by
 have HR0:=Aside0.mk hr0;have HC0:=Aside0.mk hc0;clear hr0 hc0;have HR1:=Aside0.mk hr1;have HC1:=Aside0.mk hc1;clear hr1 hc1;have HR2:=Aside0.mk hr2;have HC2:=Aside0.mk hc2;clear hr2 hc2;have HB:=Aside0.mk (Below.refl w.heap.size w);have H:=h;clear h
 unfold impl_PitsTo.f at H
 replace H:=bnd H;obtain⟨t259,A5,H⟩:=H;replace H:=itt H;rcases H with⟨rfl,H⟩|⟨rfl,H⟩
 ·obtain⟨y260,hy260⟩: ∃y_:List (List Int),y_=(([]:List (List Int))):=⟨_,rfl⟩;replace H:((impl_pitsTo.f k l0 l1 l2 a3).bind fun t263=>(impl_PitsTo.l0 k y260 t263 (t263.length:Int) 0))=some (r1,r2):=by first|(rw[hy260];with_reducible exact H)|(have H2_:=(Option.bind_some _ _).symm.trans H;rw[hy260];with_reducible exact H2_)|(have H2_:=(Option.bind_some _ _).symm.trans H;with_reducible exact H2_)|with_reducible exact H|(rw[hy260];exact H)|exact H
  have Ny260:=Aside0.mk hy260;clear hy260;replace H:=bnd H;obtain⟨t263,A7,H⟩:=H;have H':=Aside0.mk H;clear H
  go_enter Try.func35,Try.ntmps35
  go_wp2_with(first|(refine cal_ 90 (some 17) Try.func90 #[.slice A0 l0.length c0,.slice A1 l1.length c1,.slice A2 l2.length c2,.int .i64 a3] rfl (impl_areNested.calls k _ _ l0 _ _ l1 _ _ l2 a3 true _ ?_ HC0.out ?_ HC1.out ?_ HC2.out A5.out) ?_;exact cC HR0;exact cC HR1;exact cC HR2;rintro e w' ⟨rfl,⟨nd,rfl⟩⟩;refine⟨_,rfl,?_⟩)|((with_reducible refine gate_dst (N:=19) rfl ?_);refine Kd.S_lit (Kd.slice 3 (Kd.int .i64)) _ 24 ?hg (N:=19) ?hd (xs:=([]:List (List Int))) (inner:=[]) (ok:=fun _=>True) (okp:=fun _=>True) ?hr ?hp (fun _ hk=>hk) trivial (Below.refl _ _) (Nat.le_refl _) (by simp) ?_;(case hd=>rfl);(case hg=>rfl);(case hr=>first|(go_simp;done)|(go_simp;rfl));(case hp=>exact(Reps.none _ _));intro v261 w8 ho9 hb hg_ hnew_;clear hg_ hnew_;(first|rw[←Ny260.out]at ho9|(simp only[Int.reduceToNat]at ho9;rw[←Ny260.out]at ho9));have HO262:=eSr ho9 (bz HB);replace HB:=bs HB hb;clear hb ho9)|(refine cal_ 95 (some 24) Try.func95 #[.slice A0 l0.length c0,.slice A1 l1.length c1,.slice A2 l2.length c2,.int .i64 a3] rfl (impl_pitsTo.calls k _ _ l0 _ _ l1 _ _ l2 a3 t263 _ ?_ HC0.out ?_ HC1.out ?_ HC2.out A7.out) ?_;exact cb_ HR0 HB;exact cb_ HR1 HB;exact cb_ HR2 HB;rintro e w10 ⟨v264,rfl,ho0,hb⟩;refine⟨_,rfl,?_⟩;have HO265:=Aside0.mk (Kd.V_lower (Kd.V_mono (ok':=fun k_=>some k_≠(v261:Value).ownBlock) ho0 (fun k_ hk_=>(Kd.fresh' (Kd.S_lt (cS HO262)) k_ hk_))) (bz HB));replace HO262:=bS HO262 hb;replace HB:=bs HB hb;clear hb ho0;obtain⟨Ao11,co11,rfl⟩:=sV HO265))
  go_loopg [10,26] k (fun kq v10 v26 w'=> ∃(x10_1:List (List Int)) (x26_1:Int),v26= .int .i64 x26_1∧Aside0 (impl_PitsTo.l0 kq x10_1 t263 (t263.length:Int) x26_1=some (r1,r2))∧Aside0 (kq≤k)∧Aside0 (Kd.S (Kd.slice 3 (Kd.int .i64)) 24 w' w.heap.size (fun _=>True) v10 x10_1)∧Aside0 (Kd.V (Kd.slice 4 Kd.bool) 80 w' w.heap.size (fun k_=>some k_≠(v10:Value).ownBlock) (.slice Ao11 t263.length co11) t263)∧Aside0 (Below w.heap.size w w'))
  case atStart=>exact⟨(y260),(0),eqx,H',⟨Nat.le_refl _⟩,mS HO262,mV HO265,⟨cB HB⟩⟩
  case round=>
   clear H';obtain⟨x10_1,x26_1,rfl,HA,HK1,HO_10,HO_24,HB⟩:=hrel;obtain _|k1:=gk
   ·exact nz HA.out
   have H:=HA.out;clear HA;simp only[impl_PitsTo.l0]at H;replace H:=itb H;rcases H with⟨c12b0,H⟩|⟨c12b0,H⟩
   ·replace H:=itd H;obtain⟨c13b0,H⟩:=H;replace H:=itd H;obtain⟨c14b0,H⟩:=H;replace H:=bnd H;obtain⟨t267,A15,H⟩:=H;replace H:=itm H;obtain⟨LMc16,H⟩:=H;obtain⟨y270,Ny270⟩:=nmx ((x10_1++[t267]):List (List Int));rw[←Ny270.out]at H;have H':=Aside0.mk H;clear H;have p266:0≤(x26_1:Int):=of_decide_eq_true asx;have q266:x26_1<(t263.length:Int):=of_decide_eq_true asx;obtain⟨ad266,A266_0,c266_0,e266,hx266_0,hl266_0,hi266_0⟩:=at_L4 (rV HO_24) x26_1 p266 q266;cases e266;obtain⟨ce266,hce266,hMe266,hcc266⟩:=Kd.V_get HO_24.out [] x26_1 p266 (by first|exact q266|exact of_decide_eq_true asx|(have e_:=(Kd.V_reads' HO_24.out).1;omega));obtain⟨ua266_0,uc266_0,rfl,ul266_0,ge266_0⟩:=Kd.FK_slice_open hMe266;have hv266_0:=hcc266 0 _ rfl;rw[Nat.add_zero,show((Kd.slice 4 Kd.bool)).sz=1 from rfl,Nat.mul_one]at hv266_0;replace hv266_0:=Option.some.inj (hv266_0.symm.trans hx266_0)
    injection hv266_0 with hva_ hvn_ hvc_
    rw[hva_]at ge266_0;rw[hvc_]at ul266_0;have HL266_0:=Aside0.mk (show Kd.V Kd.bool 4 _ w.heap.size _ _ (rd_L4 t263 x26_1)from Kd.V_mk ul266_0 ge266_0);clear hva_ hvn_ hvc_ ge266_0 ul266_0;clear hcc266 hce266;have HR266_0:=Aside0.mk hi266_0;have HC266_0:=Aside0.mk hl266_0;clear hi266_0 hl266_0;replace p266:=eq_true p266;replace q266:=eq_true q266
    go_wp2_with(first|(refine cal_ 78 (some 32) Try.func78 #[.slice A266_0 (rd_L4 t263 x26_1).length c266_0] rfl (impl_listOf.calls k1 _ _ (rd_L4 t263 x26_1) t267 _ ?_ HC266_0.out A15.out) ?_;exact cC ⟨by repeat(first|(with_reducible exact HR266_0.out)|(with_reducible refine Kd.C_alloc ?_ _)|(with_reducible refine Kd.C_drewN ?_ _)|(with_reducible refine Kd.C_drew ?_)|exact HR266_0.out)⟩;rintro e w17 ⟨v268,rfl,ho0,hb⟩;refine⟨_,rfl,?_⟩;replace HO_10:=aS HO_10 (Kd.R_base ho0) hb;replace HO_24:=Aside0.mk (Kd.V_elder' (cV HO_24) (Kd.R_base ho0) hb);replace HL266_0:=Aside0.mk (Kd.V_elder' (cV HL266_0) (Kd.R_base ho0) hb);have HO269:=eRr ho0 (bz HB);replace HR266_0:=Aside0.mk (Kd.C_below (by repeat(first|(with_reducible exact HR266_0.out)|(with_reducible refine Kd.C_alloc ?_ _)|(with_reducible refine Kd.C_drewN ?_ _)|(with_reducible refine Kd.C_drew ?_)|exact HR266_0.out)) hb);replace HB:=bs HB hb;clear hb ho0;obtain⟨Ao19,co19,rfl⟩:=sR HO269)|((with_reducible refine gate_builtin (b:= .append) (xs:= #[.tmp 30,.tmp 33]) rfl ?_);at_builtin;refine Kd.S_append (Kd.slice 3 (Kd.int .i64)) (w0:=w) w.heap.size rfl (.tmp 30) (.tmp 33) 23 24 (.slice none 0 0) 24 rfl Try.underlying23 info24 rfl (by decide) (by omega) u10 x10_1 t267 [.slice Ao19 t267.length co19] (fun _=>True) (fun k_=>some k_=(.slice Ao19 t267.length co19:Value).ownBlock) rfl rfl ?aP (fun k_ hk_=>((Kd.R_mono (ok':=fun k_=>((fun _=>True)) k_∧some k_≠(u10:Value).ownBlock) (Kd.R_apart' (HO269.out) (Kd.S_typed HO_10.out) (by decide)) (fun k_ hk=>⟨trivial,hk.2⟩))).1 k_ hk_.symm) ?aF ?aO ?aB ?aS ?aL ?_;(case aP=>exact Kd.M_row (Kd.R_mono (Kd.R_tight rfl (Kd.R_mono (ok':=fun k_=>((fun _=>True)) k_∧some k_≠(u10:Value).ownBlock) (Kd.R_apart' (HO269.out) (Kd.S_typed HO_10.out) (by decide)) (fun k_ hk=>⟨trivial,hk.2⟩))) (fun _ h_=>h_)));(case aB=>exact(cB HB));(case aF=>exact(fun _ _=>trivial));(case aO=>exact(cS ⟨Kd.S_mono HO_10.out (fun k_ hk=>⟨trivial,fun e_=>hk.2 e_⟩)⟩));(case aS=>exact(bz HB));(case aL=>have:=LMc16.out;omega);intro v271 w18 ho hb hg hat;rw[←Ny270.out]at ho;have n0_:=Aside0.mk (Kd.V_afterv (ok:=(fun k_=>some k_≠(.slice Ao19 t267.length co19:Value).ownBlock)) (cV ⟨Kd.V_mono HO_24.out (fun _ hk=>⟨hk.2,hk.1⟩)⟩) hg hat);have n1_:=Aside0.mk (Kd.V_afterv (ok:=(fun k_=>some k_≠(.slice Ao19 t267.length co19:Value).ownBlock)) (cV ⟨Kd.V_mono HL266_0.out (fun _ hk=>⟨hk.2,hk.1⟩)⟩) hg hat);have n2_:=Aside0.mk hb;have n3_:=Aside0.mk ho;clear HO_24 HL266_0 HB HO_10 HO269;have HO_24:=n0_;have HL266_0:=n1_;have HB:=n2_;have HO272:=n3_;clear n0_ n1_ n2_ n3_ ho hb hg hat))
    go_roundg k1
    case measure=>have:=HK1.out;omega
    case rel=>exact⟨(y270),(wrap64 (x26_1+1)),eqx,H',⟨by have:=HK1.out;omega⟩,mS HO272,mV HO_24,⟨cB HB⟩⟩
   ·simp only[Option.some.injEq,Prod.mk.injEq]at H;obtain⟨rfl,rfl⟩:=H;go_wp2
    go_ret2
    exact⟨_,erx,by(with_reducible repeat(first|apply Kd.S_alloc|apply Kd.S_drewN|apply Kd.S_drew));exact HO_10.out,cB HB⟩
 ·simp only[Option.some.injEq,Prod.mk.injEq]at H;obtain⟨rfl,rfl⟩:=H
  go_enter Try.func35,Try.ntmps35
  go_wp2_with(first|(refine cal_ 90 (some 17) Try.func90 #[.slice A0 l0.length c0,.slice A1 l1.length c1,.slice A2 l2.length c2,.int .i64 a3] rfl (impl_areNested.calls k _ _ l0 _ _ l1 _ _ l2 a3 false _ ?_ HC0.out ?_ HC1.out ?_ HC2.out A5.out) ?_;exact cC HR0;exact cC HR1;exact cC HR2;rintro e w' ⟨rfl,⟨nd,rfl⟩⟩;refine⟨_,rfl,?_⟩))
  go_ret2
  exact⟨_,erx,by first|exact Kd.S_nil _ _ _ _ _|exact Kd.N_nil _ _ _ _ _|exact Kd.V_nil _ _ _ _ _|exact Kd.Q_nil _ _ _ _ _|exact Kd.R_nil _ _ _ _ _,cB HB⟩
def spec_l1In.f (a0:Int) (a1:Int) (a2:Int):Option (Bool):=if a0≥a1 then(some (decide (a0≤a2)))else(some false)
set_option maxHeartbeats 8000000 in
set_option maxRecDepth 100000 in
theorem spec_l1In.calls (a0:Int) (a1:Int) (a2:Int) (r:Bool) (w:World) (h:spec_l1In.f a0 a1 a2=some r):
  Calls Try.prog 81 #[.int .i64 a0,.int .i64 a1,.int .i64 a2] w fun e w'=>e= .returned (.bool r)∧Drawn0 w w':=by
 have H:=h;clear h
 unfold spec_l1In.f at H
 replace H:=itb H;rcases H with⟨c4b0,H⟩|⟨c4b0,H⟩
 ·obtain rfl:=Option.some.inj H
  go_enter Try.func81,Try.ntmps81
  go_wp2
  go_ret
  exact⟨eqx,d0x⟩
 ·obtain rfl:=Option.some.inj H
  go_enter Try.func81,Try.ntmps81
  go_wp2
  go_ret
  exact⟨eqx,d0x⟩
def spec_l1All.l0:Nat→Int→Int→List Int→Int→Int→Option (Bool)
 |0,_,_,_,_,_=>none
 |k+1,x1,x2,x9,x10,x11=>if x11<x10 then(if 0≤x11 then(if x11<(x9.length:Int)then((spec_l1In.f (rd x9 x11) x1 x2).bind fun t274=>(if t274=true then(spec_l1All.l0 k x1 x2 x9 x10 (wrap64 (x11+1)))else(some false)))else(none))else(none))else(some true)
def spec_l1All.f (k:Nat) (l0:List Int) (a1:Int) (a2:Int):Option (Bool):=spec_l1All.l0 k a1 a2 l0 (l0.length:Int) 0
set_option maxHeartbeats 8000000 in
set_option maxRecDepth 100000 in
theorem spec_l1All.calls (k:Nat) (A0:Option Addr) (c0:Nat) (l0:List Int) (a1:Int) (a2:Int) (r:Bool) (w:World) (hr0:Kd.C (Kd.int .i64) w A0 l0.length l0) (hc0:l0.length≤c0) (h:spec_l1All.f k l0 a1 a2=some r):
  Calls Try.prog 144 #[.slice A0 l0.length c0,.int .i64 a1,.int .i64 a2] w fun e w'=>e= .returned (.bool r)∧Drawn0 w w':=by
 have HR0:=Aside0.mk hr0;have HC0:=Aside0.mk hc0;clear hr0 hc0;have H:=h;clear h
 unfold spec_l1All.f at H
 have H':=Aside0.mk H;clear H
 go_enter Try.func144,Try.ntmps144
 go_wp2
 go_loopg [11] k (fun kq v11 w'=> ∃(x11_1:Int),v11= .int .i64 x11_1∧Aside0 (spec_l1All.l0 kq a1 a2 l0 (l0.length:Int) x11_1=some r)∧Aside0 (kq≤k)∧Drawn0 w w')
 case atStart=>exact⟨(0),eqx,H',⟨Nat.le_refl _⟩,d0x⟩
 case round=>
  clear H';obtain⟨x11_1,rfl,HA,HK1,⟨m1,rfl⟩⟩:=hrel;obtain _|k1:=gk
  ·exact nz HA.out
  have H:=HA.out;clear HA;simp only[spec_l1All.l0]at H;replace H:=itb H;rcases H with⟨c4b0,H⟩|⟨c4b0,H⟩
  ·replace H:=itd H;obtain⟨c5b0,H⟩:=H;replace H:=itd H;obtain⟨c6b0,H⟩:=H;replace H:=bnd H;obtain⟨t274,A7,H⟩:=H;replace H:=itt H;rcases H with⟨rfl,H⟩|⟨rfl,H⟩
   ·have H':=Aside0.mk H;clear H;obtain⟨ad273,e273,hx273_0,p273,q273⟩:=ldi (i:=x11_1) HR0.out;cases e273
    go_wp2_with(first|(refine cal_ 81 (some 18) Try.func81 #[.int .i64 (rd l0 x11_1),.int .i64 a1,.int .i64 a2] rfl (spec_l1In.calls (rd l0 x11_1) a1 a2 true _ A7.out) ?_;rintro e w' ⟨rfl,⟨nd,rfl⟩⟩;refine⟨_,rfl,?_⟩))
    go_roundg k1
    case measure=>have:=HK1.out;omega
    case rel=>exact⟨(wrap64 (x11_1+1)),eqx,H',⟨by have:=HK1.out;omega⟩,d0x⟩
   ·obtain rfl:=Option.some.inj H;obtain⟨ad273,e273,hx273_0,p273,q273⟩:=ldi (i:=x11_1) HR0.out;cases e273
    go_wp2_with(first|(refine cal_ 81 (some 18) Try.func81 #[.int .i64 (rd l0 x11_1),.int .i64 a1,.int .i64 a2] rfl (spec_l1In.calls (rd l0 x11_1) a1 a2 false _ A7.out) ?_;rintro e w' ⟨rfl,⟨nd,rfl⟩⟩;refine⟨_,rfl,?_⟩))
    go_ret
    exact⟨eqx,d0x⟩
  ·obtain rfl:=Option.some.inj H;go_wp2
   go_ret
   exact⟨eqx,d0x⟩
def spec_neGains.f (k:Nat) (l0:List Int) (l1:List Int) (a2:Int):Option (Bool):=(spec_l1In.f a2 1 120).bind fun t275=>(if t275=true then(if(l0.length:Int)=a2 then(if(l1.length:Int)=a2 then((spec_l1All.f k l0 0 10000).bind fun t276=>(if t276=true then((spec_l1All.f k l1 0 400000).bind fun t277=>(some t277))else(some false)))else(some false))else(some false))else(some false))
set_option maxHeartbeats 8000000 in
set_option maxRecDepth 100000 in
theorem spec_neGains.calls (k:Nat) (A0:Option Addr) (c0:Nat) (l0:List Int) (A1:Option Addr) (c1:Nat) (l1:List Int) (a2:Int) (r:Bool) (w:World) (hr0:Kd.C (Kd.int .i64) w A0 l0.length l0) (hc0:l0.length≤c0) (hr1:Kd.C (Kd.int .i64) w A1 l1.length l1) (hc1:l1.length≤c1) (h:spec_neGains.f k l0 l1 a2=some r):
  Calls Try.prog 120 #[.slice A0 l0.length c0,.slice A1 l1.length c1,.int .i64 a2] w fun e w'=>e= .returned (.bool r)∧Drawn0 w w':=by
 have HR0:=Aside0.mk hr0;have HC0:=Aside0.mk hc0;clear hr0 hc0;have HR1:=Aside0.mk hr1;have HC1:=Aside0.mk hc1;clear hr1 hc1;have H:=h;clear h
 unfold spec_neGains.f at H
 replace H:=bnd H;obtain⟨t275,A4,H⟩:=H;replace H:=itt H;rcases H with⟨rfl,H⟩|⟨rfl,H⟩
 ·replace H:=itp H;rcases H with⟨c6,H⟩|⟨c6,H⟩
  ·have c6b0:((l0.length:Int)==a2)=true:=beq_iff_eq.mpr c6;have c6b1:((l0.length:Int) !=a2)=false:=bne_eq_false_iff_eq.mpr c6;clear c6;replace H:=itp H;rcases H with⟨c7,H⟩|⟨c7,H⟩
   ·have c7b0:((l1.length:Int)==a2)=true:=beq_iff_eq.mpr c7;have c7b1:((l1.length:Int) !=a2)=false:=bne_eq_false_iff_eq.mpr c7;clear c7;replace H:=bnd H;obtain⟨t276,A8,H⟩:=H;replace H:=itt H;rcases H with⟨rfl,H⟩|⟨rfl,H⟩
    ·replace H:=bnd H;obtain⟨t277,A10,H⟩:=H;obtain rfl:=Option.some.inj H
     go_enter Try.func120,Try.ntmps120
     go_wp2_with(first|(refine cal_ 81 (some 8) Try.func81 #[.int .i64 a2,.int .i64 1,.int .i64 120] rfl (spec_l1In.calls a2 1 120 true _ A4.out) ?_;rintro e w' ⟨rfl,⟨nd,rfl⟩⟩;refine⟨_,rfl,?_⟩)|(go_at_call 144;(with_reducible refine(spec_l1All.calls k _ _ l0 0 10000 true _ ?_ HC0.out A8.out).mono ?_);exact cC HR0;rintro e w' ⟨rfl,⟨nd,rfl⟩⟩)|(go_at_call 144;(with_reducible refine(spec_l1All.calls k _ _ l1 0 400000 t277 _ ?_ HC1.out A10.out).mono ?_);exact cC HR1;rintro e w' ⟨rfl,⟨nd,rfl⟩⟩))
     go_ret
     exact⟨eqx,d0x⟩
    ·obtain rfl:=Option.some.inj H
     go_enter Try.func120,Try.ntmps120
     go_wp2_with(first|(refine cal_ 81 (some 8) Try.func81 #[.int .i64 a2,.int .i64 1,.int .i64 120] rfl (spec_l1In.calls a2 1 120 true _ A4.out) ?_;rintro e w' ⟨rfl,⟨nd,rfl⟩⟩;refine⟨_,rfl,?_⟩)|(go_at_call 144;(with_reducible refine(spec_l1All.calls k _ _ l0 0 10000 false _ ?_ HC0.out A8.out).mono ?_);exact cC HR0;rintro e w' ⟨rfl,⟨nd,rfl⟩⟩))
     go_ret
     exact⟨eqx,d0x⟩
   ·have c7b0:((l1.length:Int)==a2)=false:=beq_eq_false_iff_ne.mpr c7;have c7b1:((l1.length:Int) !=a2)=true:=bne_iff_ne.mpr c7;obtain rfl:=Option.some.inj H
    go_enter Try.func120,Try.ntmps120
    go_wp2_with(first|(refine cal_ 81 (some 8) Try.func81 #[.int .i64 a2,.int .i64 1,.int .i64 120] rfl (spec_l1In.calls a2 1 120 true _ A4.out) ?_;rintro e w' ⟨rfl,⟨nd,rfl⟩⟩;refine⟨_,rfl,?_⟩))
    go_ret
    exact⟨eqx,d0x⟩
  ·have c6b0:((l0.length:Int)==a2)=false:=beq_eq_false_iff_ne.mpr c6;have c6b1:((l0.length:Int) !=a2)=true:=bne_iff_ne.mpr c6;obtain rfl:=Option.some.inj H
   go_enter Try.func120,Try.ntmps120
   go_wp2_with(first|(refine cal_ 81 (some 8) Try.func81 #[.int .i64 a2,.int .i64 1,.int .i64 120] rfl (spec_l1In.calls a2 1 120 true _ A4.out) ?_;rintro e w' ⟨rfl,⟨nd,rfl⟩⟩;refine⟨_,rfl,?_⟩))
   go_ret
   exact⟨eqx,d0x⟩
 ·obtain rfl:=Option.some.inj H
  go_enter Try.func120,Try.ntmps120
  go_wp2_with(first|(refine cal_ 81 (some 8) Try.func81 #[.int .i64 a2,.int .i64 1,.int .i64 120] rfl (spec_l1In.calls a2 1 120 false _ A4.out) ?_;rintro e w' ⟨rfl,⟨nd,rfl⟩⟩;refine⟨_,rfl,?_⟩))
  go_ret
  exact⟨eqx,d0x⟩
def spec_neFactor.f (a0:Int):Option (Bool):=(spec_l1In.f a0 0 60).bind fun t278=>(some t278)
set_option maxHeartbeats 8000000 in
set_option maxRecDepth 100000 in
theorem spec_neFactor.calls (a0:Int) (r:Bool) (w:World) (h:spec_neFactor.f a0=some r):
  Calls Try.prog 121 #[.int .i64 a0] w fun e w'=>e= .returned (.bool r)∧Drawn0 w w':=by
 have H:=h;clear h
 unfold spec_neFactor.f at H
 replace H:=bnd H;obtain⟨t278,A2,H⟩:=H;obtain rfl:=Option.some.inj H
 go_enter Try.func121,Try.ntmps121
 go_wp2_with(first|(refine cal_ 81 (some 4) Try.func81 #[.int .i64 a0,.int .i64 0,.int .i64 60] rfl (spec_l1In.calls a0 0 60 t278 _ A2.out) ?_;rintro e w' ⟨rfl,⟨nd,rfl⟩⟩;refine⟨_,rfl,?_⟩))
 go_ret
 exact⟨eqx,d0x⟩
def spec_l1Rising.l0:Nat→List Int→Int→Int→List Int→Int→Int→Option (Bool)
 |0,_,_,_,_,_,_=>none
 |k+1,x0,x1,x2,x9,x10,x11=>if x11<x10 then(if 0≤x11 then(if x11<(x9.length:Int)then((spec_l1In.f (rd x9 x11) x1 x2).bind fun t280=>(if t280=true then(if x11>0 then(if 0≤(wrap64 (x11-1))then(if(wrap64 (x11-1))<(x0.length:Int)then(if(rd x0 (wrap64 (x11-1)))≥(rd x9 x11)then(some false)else(spec_l1Rising.l0 k x0 x1 x2 x9 x10 (wrap64 (x11+1))))else(none))else(none))else(spec_l1Rising.l0 k x0 x1 x2 x9 x10 (wrap64 (x11+1))))else(some false)))else(none))else(none))else(some true)
def spec_l1Rising.f (k:Nat) (l0:List Int) (a1:Int) (a2:Int):Option (Bool):=spec_l1Rising.l0 k l0 a1 a2 l0 (l0.length:Int) 0
set_option maxHeartbeats 8000000 in
set_option maxRecDepth 100000 in
theorem spec_l1Rising.calls (k:Nat) (A0:Option Addr) (c0:Nat) (l0:List Int) (a1:Int) (a2:Int) (r:Bool) (w:World) (hr0:Kd.C (Kd.int .i64) w A0 l0.length l0) (hc0:l0.length≤c0) (h:spec_l1Rising.f k l0 a1 a2=some r):
  Calls Try.prog 107 #[.slice A0 l0.length c0,.int .i64 a1,.int .i64 a2] w fun e w'=>e= .returned (.bool r)∧Drawn0 w w':=by
 have HR0:=Aside0.mk hr0;have HC0:=Aside0.mk hc0;clear hr0 hc0;have H:=h;clear h
 unfold spec_l1Rising.f at H
 have H':=Aside0.mk H;clear H
 go_enter Try.func107,Try.ntmps107
 go_wp2
 go_loopg [11] k (fun kq v11 w'=> ∃(x11_1:Int),v11= .int .i64 x11_1∧Aside0 (spec_l1Rising.l0 kq l0 a1 a2 l0 (l0.length:Int) x11_1=some r)∧Aside0 (kq≤k)∧Drawn0 w w')
 case atStart=>exact⟨(0),eqx,H',⟨Nat.le_refl _⟩,d0x⟩
 case round=>
  clear H';obtain⟨x11_1,rfl,HA,HK1,⟨m1,rfl⟩⟩:=hrel;obtain _|k1:=gk
  ·exact nz HA.out
  have H:=HA.out;clear HA;simp only[spec_l1Rising.l0]at H;replace H:=itb H;rcases H with⟨c4b0,H⟩|⟨c4b0,H⟩
  ·replace H:=itd H;obtain⟨c5b0,H⟩:=H;replace H:=itd H;obtain⟨c6b0,H⟩:=H;replace H:=bnd H;obtain⟨t280,A7,H⟩:=H;replace H:=itt H;rcases H with⟨rfl,H⟩|⟨rfl,H⟩
   ·replace H:=itb H;rcases H with⟨c9b0,H⟩|⟨c9b0,H⟩
    ·obtain⟨ji10,hji10⟩:=jix (wrap64 (x11_1-1));simp only[hji10]at H
     (try rw[hji10]at A7)
     have hji10w:(IntKind.i64.wrap (x11_1-1))=ji10:=(i64_w _).trans hji10;replace H:=itd H;obtain⟨c11b0,H⟩:=H;replace H:=itd H;obtain⟨c12b0,H⟩:=H;replace H:=itb H;rcases H with⟨c13b0,H⟩|⟨c13b0,H⟩
     ·obtain rfl:=Option.some.inj H;obtain⟨ad279,e279,hx279_0,p279,q279⟩:=ldi (i:=x11_1) HR0.out;cases e279
      go_wp2_with(first|(refine cal_ 81 (some 19) Try.func81 #[.int .i64 (rd l0 x11_1),.int .i64 a1,.int .i64 a2] rfl (spec_l1In.calls (rd l0 x11_1) a1 a2 true _ A7.out) ?_;rintro e w' ⟨rfl,⟨nd,rfl⟩⟩;refine⟨_,rfl,?_⟩;have p281:0≤((ji10):Int):=of_decide_eq_true asx;have q281:(ji10)<(l0.length:Int):=of_decide_eq_true asx;obtain⟨ad281,e281,hx281_0⟩:=Kd.at_int HR0.out (ji10) p281 q281;obtain rfl:ad279=ad281:=(by injection e281);replace p281:=eq_true p281;replace q281:=eq_true q281))
      go_ret
      exact⟨by first|rfl|(simp;done)|(simp only[←hji10]<;>(first|rfl|simp))|(simp[*];done),d0x⟩
     ·have H':=Aside0.mk H;clear H;obtain⟨ad279,e279,hx279_0,p279,q279⟩:=ldi (i:=x11_1) HR0.out;cases e279
      go_wp2_with(first|(refine cal_ 81 (some 19) Try.func81 #[.int .i64 (rd l0 x11_1),.int .i64 a1,.int .i64 a2] rfl (spec_l1In.calls (rd l0 x11_1) a1 a2 true _ A7.out) ?_;rintro e w' ⟨rfl,⟨nd,rfl⟩⟩;refine⟨_,rfl,?_⟩;have p281:0≤((ji10):Int):=of_decide_eq_true asx;have q281:(ji10)<(l0.length:Int):=of_decide_eq_true asx;obtain⟨ad281,e281,hx281_0⟩:=Kd.at_int HR0.out (ji10) p281 q281;obtain rfl:ad279=ad281:=(by injection e281);replace p281:=eq_true p281;replace q281:=eq_true q281))
      go_roundg k1
      case measure=>have:=HK1.out;omega
      case rel=>exact⟨(wrap64 (x11_1+1)),eqx,H',⟨by have:=HK1.out;omega⟩,d0x⟩
    ·have H':=Aside0.mk H;clear H;obtain⟨ad279,e279,hx279_0,p279,q279⟩:=ldi (i:=x11_1) HR0.out;cases e279
     go_wp2_with(first|(refine cal_ 81 (some 19) Try.func81 #[.int .i64 (rd l0 x11_1),.int .i64 a1,.int .i64 a2] rfl (spec_l1In.calls (rd l0 x11_1) a1 a2 true _ A7.out) ?_;rintro e w' ⟨rfl,⟨nd,rfl⟩⟩;refine⟨_,rfl,?_⟩))
     go_roundg k1
     case measure=>have:=HK1.out;omega
     case rel=>exact⟨(wrap64 (x11_1+1)),eqx,H',⟨by have:=HK1.out;omega⟩,d0x⟩
   ·obtain rfl:=Option.some.inj H;obtain⟨ad279,e279,hx279_0,p279,q279⟩:=ldi (i:=x11_1) HR0.out;cases e279
    go_wp2_with(first|(refine cal_ 81 (some 19) Try.func81 #[.int .i64 (rd l0 x11_1),.int .i64 a1,.int .i64 a2] rfl (spec_l1In.calls (rd l0 x11_1) a1 a2 false _ A7.out) ?_;rintro e w' ⟨rfl,⟨nd,rfl⟩⟩;refine⟨_,rfl,?_⟩))
    go_ret
    exact⟨eqx,d0x⟩
  ·obtain rfl:=Option.some.inj H;go_wp2
   go_ret
   exact⟨eqx,d0x⟩
def spec_clArcs.l0:Nat→List (List Int)→List (List Int)→Int→Int→Option (Bool)
 |0,_,_,_,_=>none
 |k+1,x0,x5,x6,x7=>if x7<x6 then(if 0≤x7 then(if x7<(x5.length:Int)then((spec_l1Rising.f k (rd_L1 x5 x7) 0 (wrap64 (x7-1))).bind fun t283=>(if t283=true then(spec_clArcs.l0 k x0 x5 x6 (wrap64 (x7+1)))else(some false)))else(none))else(none))else((spec_l1In.f (x0.length:Int) 1 120).bind fun t284=>(some t284))
def spec_clArcs.f (k:Nat) (l0:List (List Int)):Option (Bool):=spec_clArcs.l0 k l0 l0 (l0.length:Int) 0
set_option maxHeartbeats 8000000 in
set_option maxRecDepth 100000 in
theorem spec_clArcs.calls (k:Nat) (A0:Option Addr) (c0:Nat) (l0:List (List Int)) (r:Bool) (w:World) (hr0:Kd.C (Kd.slice 3 (Kd.int .i64)) w A0 l0.length l0) (hc0:l0.length≤c0) (h:spec_clArcs.f k l0=some r):
  Calls Try.prog 132 #[.slice A0 l0.length c0] w fun e w'=>e= .returned (.bool r)∧Drawn0 w w':=by
 have HR0:=Aside0.mk hr0;have HC0:=Aside0.mk hc0;clear hr0 hc0;have H:=h;clear h
 unfold spec_clArcs.f at H
 have H':=Aside0.mk H;clear H
 go_enter Try.func132,Try.ntmps132
 go_wp2
 go_loopg [7] k (fun kq v7 w'=> ∃(x7_1:Int),v7= .int .i64 x7_1∧Aside0 (spec_clArcs.l0 kq l0 l0 (l0.length:Int) x7_1=some r)∧Aside0 (kq≤k)∧Drawn0 w w')
 case atStart=>exact⟨(0),eqx,H',⟨Nat.le_refl _⟩,d0x⟩
 case round=>
  clear H';obtain⟨x7_1,rfl,HA,HK1,⟨m1,rfl⟩⟩:=hrel;obtain _|k1:=gk
  ·exact nz HA.out
  have H:=HA.out;clear HA;simp only[spec_clArcs.l0]at H;replace H:=itb H;rcases H with⟨c2b0,H⟩|⟨c2b0,H⟩
  ·replace H:=itd H;obtain⟨c3b0,H⟩:=H;replace H:=itd H;obtain⟨c4b0,H⟩:=H;replace H:=bnd H;obtain⟨t283,A5,H⟩:=H;replace H:=itt H;rcases H with⟨rfl,H⟩|⟨rfl,H⟩
   ·have H':=Aside0.mk H;clear H;have p282:0≤(x7_1:Int):=of_decide_eq_true asx;have q282:x7_1<(l0.length:Int):=of_decide_eq_true asx;obtain⟨ad282,A282_0,c282_0,e282,hx282_0,hl282_0,hi282_0⟩:=at_L1 HR0.out x7_1 p282 q282;cases e282;have HR282_0:=Aside0.mk hi282_0;have HC282_0:=Aside0.mk hl282_0;clear hi282_0 hl282_0;replace p282:=eq_true p282;replace q282:=eq_true q282
    go_wp2_with(first|(refine cal_ 107 (some 15) Try.func107 #[.slice A282_0 (rd_L1 l0 x7_1).length c282_0,.int .i64 0,.int .i64 (wrap64 (x7_1-1))] rfl (spec_l1Rising.calls k1 _ _ (rd_L1 l0 x7_1) 0 (wrap64 (x7_1-1)) true _ ?_ HC282_0.out A5.out) ?_;exact cC HR282_0;rintro e w' ⟨rfl,⟨nd,rfl⟩⟩;refine⟨_,rfl,?_⟩))
    go_roundg k1
    case measure=>have:=HK1.out;omega
    case rel=>exact⟨(wrap64 (x7_1+1)),eqx,H',⟨by have:=HK1.out;omega⟩,d0x⟩
   ·obtain rfl:=Option.some.inj H;have p282:0≤(x7_1:Int):=of_decide_eq_true asx;have q282:x7_1<(l0.length:Int):=of_decide_eq_true asx;obtain⟨ad282,A282_0,c282_0,e282,hx282_0,hl282_0,hi282_0⟩:=at_L1 HR0.out x7_1 p282 q282;cases e282;have HR282_0:=Aside0.mk hi282_0;have HC282_0:=Aside0.mk hl282_0;clear hi282_0 hl282_0;replace p282:=eq_true p282;replace q282:=eq_true q282
    go_wp2_with(first|(refine cal_ 107 (some 15) Try.func107 #[.slice A282_0 (rd_L1 l0 x7_1).length c282_0,.int .i64 0,.int .i64 (wrap64 (x7_1-1))] rfl (spec_l1Rising.calls k1 _ _ (rd_L1 l0 x7_1) 0 (wrap64 (x7_1-1)) false _ ?_ HC282_0.out A5.out) ?_;exact cC HR282_0;rintro e w' ⟨rfl,⟨nd,rfl⟩⟩;refine⟨_,rfl,?_⟩))
    go_ret
    exact⟨eqx,d0x⟩
  ·replace H:=bnd H;obtain⟨t284,A7,H⟩:=H;obtain rfl:=Option.some.inj H
   go_wp2_with(first|(refine cal_ 81 (some 20) Try.func81 #[.int .i64 (l0.length:Int),.int .i64 1,.int .i64 120] rfl (spec_l1In.calls (l0.length:Int) 1 120 t284 _ A7.out) ?_;rintro e w' ⟨rfl,⟨nd,rfl⟩⟩;refine⟨_,rfl,?_⟩))
   go_ret
   exact⟨eqx,d0x⟩
def spec_neAsked.f (k:Nat) (l0:List (List Int)) (l1:List Int) (l2:List Int) (a3:Int):Option (Bool):=(spec_clArcs.f k l0).bind fun t285=>(if t285=true then((spec_neGains.f k l1 l2 (l0.length:Int)).bind fun t286=>(if t286=true then((spec_neFactor.f a3).bind fun t287=>(some t287))else(some false)))else(some false))
set_option maxHeartbeats 8000000 in
set_option maxRecDepth 100000 in
theorem spec_neAsked.calls (k:Nat) (A0:Option Addr) (c0:Nat) (l0:List (List Int)) (A1:Option Addr) (c1:Nat) (l1:List Int) (A2:Option Addr) (c2:Nat) (l2:List Int) (a3:Int) (r:Bool) (w:World) (hr0:Kd.C (Kd.slice 3 (Kd.int .i64)) w A0 l0.length l0) (hc0:l0.length≤c0) (hr1:Kd.C (Kd.int .i64) w A1 l1.length l1) (hc1:l1.length≤c1) (hr2:Kd.C (Kd.int .i64) w A2 l2.length l2) (hc2:l2.length≤c2) (h:spec_neAsked.f k l0 l1 l2 a3=some r):
  Calls Try.prog 92 #[.slice A0 l0.length c0,.slice A1 l1.length c1,.slice A2 l2.length c2,.int .i64 a3] w fun e w'=>e= .returned (.bool r)∧Drawn0 w w':=by
 have HR0:=Aside0.mk hr0;have HC0:=Aside0.mk hc0;clear hr0 hc0;have HR1:=Aside0.mk hr1;have HC1:=Aside0.mk hc1;clear hr1 hc1;have HR2:=Aside0.mk hr2;have HC2:=Aside0.mk hc2;clear hr2 hc2;have H:=h;clear h
 unfold spec_neAsked.f at H
 replace H:=bnd H;obtain⟨t285,A5,H⟩:=H;replace H:=itt H;rcases H with⟨rfl,H⟩|⟨rfl,H⟩
 ·replace H:=bnd H;obtain⟨t286,A7,H⟩:=H;replace H:=itt H;rcases H with⟨rfl,H⟩|⟨rfl,H⟩
  ·replace H:=bnd H;obtain⟨t287,A9,H⟩:=H;obtain rfl:=Option.some.inj H
   go_enter Try.func92,Try.ntmps92
   go_wp2_with(first|(refine cal_ 132 (some 10) Try.func132 #[.slice A0 l0.length c0] rfl (spec_clArcs.calls k _ _ l0 true _ ?_ HC0.out A5.out) ?_;exact cC HR0;rintro e w' ⟨rfl,⟨nd,rfl⟩⟩;refine⟨_,rfl,?_⟩)|(go_at_call 120;(with_reducible refine(spec_neGains.calls k _ _ l1 _ _ l2 (l0.length:Int) true _ ?_ HC1.out ?_ HC2.out A7.out).mono ?_);exact cC HR1;exact cC HR2;rintro e w' ⟨rfl,⟨nd,rfl⟩⟩)|(go_at_call 121;(with_reducible refine(spec_neFactor.calls a3 t287 _ A9.out).mono ?_);rintro e w' ⟨rfl,⟨nd,rfl⟩⟩))
   go_ret
   exact⟨eqx,d0x⟩
  ·obtain rfl:=Option.some.inj H
   go_enter Try.func92,Try.ntmps92
   go_wp2_with(first|(refine cal_ 132 (some 10) Try.func132 #[.slice A0 l0.length c0] rfl (spec_clArcs.calls k _ _ l0 true _ ?_ HC0.out A5.out) ?_;exact cC HR0;rintro e w' ⟨rfl,⟨nd,rfl⟩⟩;refine⟨_,rfl,?_⟩)|(go_at_call 120;(with_reducible refine(spec_neGains.calls k _ _ l1 _ _ l2 (l0.length:Int) false _ ?_ HC1.out ?_ HC2.out A7.out).mono ?_);exact cC HR1;exact cC HR2;rintro e w' ⟨rfl,⟨nd,rfl⟩⟩))
   go_ret
   exact⟨eqx,d0x⟩
 ·obtain rfl:=Option.some.inj H
  go_enter Try.func92,Try.ntmps92
  go_wp2_with(first|(refine cal_ 132 (some 10) Try.func132 #[.slice A0 l0.length c0] rfl (spec_clArcs.calls k _ _ l0 false _ ?_ HC0.out A5.out) ?_;exact cC HR0;rintro e w' ⟨rfl,⟨nd,rfl⟩⟩;refine⟨_,rfl,?_⟩))
  go_ret
  exact⟨eqx,d0x⟩
end Go.Proofs.Ytlkppimbbbdmbaa.PFnFactors
