-- Printed by a changed copy of the printer; impl.bestPit and spec.paFind by contracts walked by hand
import Derived.Test.YtlkppimbbbdmbaaPFnFactorsx0
import Derived.Test.YtlkppimbbbdmbaaPFnFactorsx2
import Derived.Test.YtlkppimbbbdmbaaPFnFactorsx3
import Derived.Test.YtlkppimbbbdmbaaPFnFactorsx4
import Derived.Test.YtlkppimbbbdmbaaPFnFactorsx5
import Derived.Test.YtlkppimbbbdmbaaPFnFactorsx6
import Derived.Test.YtlkppimbbbdmbaaPFnFactorsx7
import Derived.Test.YtlkppimbbbdmbaaPFnFactorsx8
import Derived.Test.YtlkppimbbbdmbaaPFnFactorsx15
import Derived.Test.YtlkppimbbbdmbaaPFnFactorsx16
import Derived.Test.YtlkppimbbbdmbaaPFnFactorsx17
import Derived.Test.YtlkppimbbbdmbaaPFnFactorsx18
namespace Go.Proofs.Ytlkppimbbbdmbaa.PFnFactors
open Go.RowKit Go.Proofs.YtlkppimbbbdmbaaW.PrintWords Go.Proofs.YtlkppimbbbdmbaaW.PrintLast Go.Proofs.YtlkppimbbbdmbaaW.PrintMore
attribute [local go_sem] max2_int min2_int max_two min_two max_three min_three max_four min_four
set_option linter.unusedVariables false
set_option linter.unusedSimpArgs false
mutual
def laws_FnFactors.j0:Nat→List (List Int)→List Int→List Int→Int→List (List Int)→Bool→List (List Int)→List Int→List Int→List (List Int)→Bool→List Int→List Int→Bool→Option (Bool)
 |0,_,_,_,_,_,_,_,_,_,_,_,_,_,_=>none
 |k+1,x5,x6,x7,x8,x9,x10,x11,x15,x19,x21,x26,x27,x29,x201=>if x201=true then(some false)else(if x26=true then((impl_BestPit.f k x21 x29).bind fun bt909=>(if bt909.2=true then((laws_qInts.f k bt909.1 x27).bind fun t913=>(if t913=true then(laws_FnFactors.j1 k x5 x6 x7 x8 x9 x10 x11 x15 x19)else(some false)))else(some false)))else(laws_FnFactors.j1 k x5 x6 x7 x8 x9 x10 x11 x15 x19))
def laws_FnFactors.j1:Nat→List (List Int)→List Int→List Int→Int→List (List Int)→Bool→List (List Int)→List Int→List Int→Option (Bool)
 |0,_,_,_,_,_,_,_,_,_=>none
 |k+1,x5,x6,x7,x8,x9,x10,x11,x15,x19=>if x10=true then((impl_IsChain.f k x9).bind fun bt914=>(if bt914.2=true then(if bt914.1=true then(if(x11.length:Int)=(wrap64 (x8+1))then((impl_AreGains.f k x6 x7 (x5.length:Int)).bind fun t916=>(laws_FnFactors.j2 k x11 x15 x19 (!t916)))else(laws_FnFactors.j2 k x11 x15 x19 true))else(laws_FnFactors.j2 k x11 x15 x19 true))else(laws_FnFactors.j2 k x11 x15 x19 true)))else(some true)
def laws_FnFactors.j2:Nat→List (List Int)→List Int→List Int→Bool→Option (Bool)
 |0,_,_,_,_=>none
 |k+1,x11,x15,x19,x244=>if x244=true then(some false)else(laws_FnFactors.l0 k x11 x15 x19 x11 (x11.length:Int) 0)
def laws_FnFactors.l0:Nat→List (List Int)→List Int→List Int→List (List Int)→Int→Int→Option (Bool)
 |0,_,_,_,_,_,_=>none
 |k+1,x11,x15,x19,x245,x246,x247=>if x247<x246 then(if 0≤x247 then(if x247<(x245.length:Int)then(if x247>0 then((laws_qHas.f k x15 x247).bind fun t918=>(if 0≤(wrap64 (x247-1))then(if(wrap64 (x247-1))<(x11.length:Int)then((laws_qInts.f k (rd_L1 x245 x247) (rd_L1 x11 (wrap64 (x247-1)))).bind fun t920=>(laws_FnFactors.j4 k x11 x15 x19 x247 (rd_L1 x245 x247) x245 x246 x247 (t918==t920)))else(none))else(none)))else(laws_FnFactors.j4 k x11 x15 x19 x247 (rd_L1 x245 x247) x245 x246 x247 false))else(none))else(none))else(some true)
def laws_FnFactors.j4:Nat→List (List Int)→List Int→List Int→Int→List Int→List (List Int)→Int→Int→Bool→Option (Bool)
 |0,_,_,_,_,_,_,_,_,_=>none
 |k+1,x11,x15,x19,x37,x38,x245,x246,x247,x266=>if x266=true then(some false)else(laws_FnFactors.l1 k x11 x15 x19 x37 x38 x245 x246 x247 x19 (x19.length:Int) 0)
def laws_FnFactors.l1:Nat→List (List Int)→List Int→List Int→Int→List Int→List (List Int)→Int→Int→List Int→Int→Int→Option (Bool)
 |0,_,_,_,_,_,_,_,_,_,_,_=>none
 |k+1,x11,x15,x19,x37,x38,x245,x246,x247,x267,x268,x269=>if x269<x268 then(if 0≤x269 then(if x269<(x267.length:Int)then((laws_qHas.f k x38 x269).bind fun t922=>(if(rd x267 x269)≥0 then(if(t922 !=(decide ((rd x267 x269)≤x37)))=true then(some false)else(laws_FnFactors.l1 k x11 x15 x19 x37 x38 x245 x246 x247 x267 x268 (wrap64 (x269+1))))else(if(t922 !=false)=true then(some false)else(laws_FnFactors.l1 k x11 x15 x19 x37 x38 x245 x246 x247 x267 x268 (wrap64 (x269+1))))))else(none))else(none))else(laws_FnFactors.l0 k x11 x15 x19 x245 x246 (wrap64 (x247+1)))
end
def laws_FnFactors.f (k:Nat) (l0:List Int) (l1:List Int):Option (Bool):=if(wrap64 ((l0.length:Int)+(l1.length:Int)))>1048576 then(some true)else((spec_DrawPitsTo.f k l0).bind fun bt844=>((impl_PitsTo.f k bt844.1 bt844.2.1 bt844.2.2.1 bt844.2.2.2).bind fun bt854=>((spec_PitsTo.f k bt844.1 bt844.2.1 bt844.2.2.1 bt844.2.2.2).bind fun bt858=>((impl_ChangesOf.f k bt844.1 bt844.2.1 bt844.2.2.1 bt844.2.2.2).bind fun bt862=>((spec_ChangesOf.f k bt844.1 bt844.2.1 bt844.2.2.1 bt844.2.2.2).bind fun bt866=>((impl_FirstFactors.f k bt844.1 bt844.2.1 bt844.2.2.1 bt844.2.2.2).bind fun bt870=>((spec_FirstFactors.f k bt844.1 bt844.2.1 bt844.2.2.1 bt844.2.2.2).bind fun bt874=>((spec_DrawPitAt.f k l1).bind fun bt878=>((impl_PitAt.f k bt878.1 bt878.2.1 bt878.2.2.1 bt878.2.2.2).bind fun bt888=>((spec_PitAt.f k bt878.1 bt878.2.1 bt878.2.2.1 bt878.2.2.2).bind fun bt892=>((impl_FactorValues.f k bt878.2.1 bt878.2.2.1 bt878.2.2.2).bind fun bt896=>((spec_FactorValues.f k bt878.2.1 bt878.2.2.1 bt878.2.2.2).bind fun bt900=>(if(bt854.2 !=bt858.2)=true then(laws_FnFactors.j0 k bt844.1 bt844.2.1 bt844.2.2.1 bt844.2.2.2 bt854.1 bt854.2 bt858.1 bt866.1 bt874.1 bt878.1 bt888.2 bt892.1 bt896.1 true)else((laws_qLists.f k bt854.1 bt858.1).bind fun t904=>(if t904=true then(if(bt862.2 !=bt866.2)=true then(laws_FnFactors.j0 k bt844.1 bt844.2.1 bt844.2.2.1 bt844.2.2.2 bt854.1 bt854.2 bt858.1 bt866.1 bt874.1 bt878.1 bt888.2 bt892.1 bt896.1 true)else((laws_qInts.f k bt862.1 bt866.1).bind fun t905=>(if t905=true then(if(bt870.2 !=bt874.2)=true then(laws_FnFactors.j0 k bt844.1 bt844.2.1 bt844.2.2.1 bt844.2.2.2 bt854.1 bt854.2 bt858.1 bt866.1 bt874.1 bt878.1 bt888.2 bt892.1 bt896.1 true)else((laws_qInts.f k bt870.1 bt874.1).bind fun t906=>(if t906=true then(if(bt888.2 !=bt892.2)=true then(laws_FnFactors.j0 k bt844.1 bt844.2.1 bt844.2.2.1 bt844.2.2.2 bt854.1 bt854.2 bt858.1 bt866.1 bt874.1 bt878.1 bt888.2 bt892.1 bt896.1 true)else((laws_qInts.f k bt888.1 bt892.1).bind fun t907=>(if t907=true then(if(bt896.2 !=bt900.2)=true then(laws_FnFactors.j0 k bt844.1 bt844.2.1 bt844.2.2.1 bt844.2.2.2 bt854.1 bt854.2 bt858.1 bt866.1 bt874.1 bt878.1 bt888.2 bt892.1 bt896.1 true)else((laws_qInts.f k bt896.1 bt900.1).bind fun t908=>(if t908=true then(if(bt862.2 !=bt854.2)=true then(laws_FnFactors.j0 k bt844.1 bt844.2.1 bt844.2.2.1 bt844.2.2.2 bt854.1 bt854.2 bt858.1 bt866.1 bt874.1 bt878.1 bt888.2 bt892.1 bt896.1 true)else(laws_FnFactors.j0 k bt844.1 bt844.2.1 bt844.2.2.1 bt844.2.2.2 bt854.1 bt854.2 bt858.1 bt866.1 bt874.1 bt878.1 bt888.2 bt892.1 bt896.1 (bt870.2 !=bt854.2)))else(laws_FnFactors.j0 k bt844.1 bt844.2.1 bt844.2.2.1 bt844.2.2.2 bt854.1 bt854.2 bt858.1 bt866.1 bt874.1 bt878.1 bt888.2 bt892.1 bt896.1 true))))else(laws_FnFactors.j0 k bt844.1 bt844.2.1 bt844.2.2.1 bt844.2.2.2 bt854.1 bt854.2 bt858.1 bt866.1 bt874.1 bt878.1 bt888.2 bt892.1 bt896.1 true))))else(laws_FnFactors.j0 k bt844.1 bt844.2.1 bt844.2.2.1 bt844.2.2.2 bt854.1 bt854.2 bt858.1 bt866.1 bt874.1 bt878.1 bt888.2 bt892.1 bt896.1 true))))else(laws_FnFactors.j0 k bt844.1 bt844.2.1 bt844.2.2.1 bt844.2.2.2 bt854.1 bt854.2 bt858.1 bt866.1 bt874.1 bt878.1 bt888.2 bt892.1 bt896.1 true))))else(laws_FnFactors.j0 k bt844.1 bt844.2.1 bt844.2.2.1 bt844.2.2.2 bt854.1 bt854.2 bt858.1 bt866.1 bt874.1 bt878.1 bt888.2 bt892.1 bt896.1 true))))))))))))))))
set_option maxHeartbeats 8000000 in
set_option maxRecDepth 100000 in
theorem laws_FnFactors.calls (k:Nat) (A0:Option Addr) (c0:Nat) (l0:List Int) (A1:Option Addr) (c1:Nat) (l1:List Int) (r:Bool) (w:World) (hr0:Kd.C (Kd.int .u8) w A0 l0.length l0) (hc0:l0.length≤c0) (hr1:Kd.C (Kd.int .u8) w A1 l1.length l1) (hc1:l1.length≤c1) (h:laws_FnFactors.f k l0 l1=some r):
  Calls Try.prog 6 #[.slice A0 l0.length c0,.slice A1 l1.length c1] w fun e w'=>e= .returned (.bool r)∧Below w.heap.size w w':=by
 have HR0:=Aside0.mk hr0;have HC0:=Aside0.mk hc0;clear hr0 hc0;have HR1:=Aside0.mk hr1;have HC1:=Aside0.mk hc1;clear hr1 hc1;have HB:=Aside0.mk (Below.refl w.heap.size w);have H:=h;clear h
 unfold laws_FnFactors.f at H
 replace H:=itb H;rcases H with⟨c3b0,H⟩|⟨c3b0,H⟩
 ·obtain rfl:=Option.some.inj H
  go_enter Try.func6,Try.ntmps6
  go_wp2
  repeat(go_quiet(fail);try go_wp2)
  go_ret
  exact⟨erx,cB HB⟩
 ·replace H:=bnd H;obtain⟨⟨t844,t845,t846,t847⟩,A4,H⟩:=H;(try dsimp only at H);replace H:=bnd H;obtain⟨⟨t854,t855⟩,A5,H⟩:=H;(try dsimp only at H);replace H:=bnd H;obtain⟨⟨t858,t861⟩,A6,H⟩:=H;(try dsimp only at H);replace H:=bnd H;obtain⟨⟨t862,t863⟩,A7,H⟩:=H;(try dsimp only at H);replace H:=bnd H;obtain⟨⟨t866,t867⟩,A8,H⟩:=H;(try dsimp only at H);replace H:=bnd H;obtain⟨⟨t870,t871⟩,A9,H⟩:=H;(try dsimp only at H);replace H:=bnd H;obtain⟨⟨t874,t875⟩,A10,H⟩:=H;(try dsimp only at H);replace H:=bnd H;obtain⟨⟨t878,t879,t880,t881⟩,A11,H⟩:=H;(try dsimp only at H);replace H:=bnd H;obtain⟨⟨t888,t889⟩,A12,H⟩:=H;(try dsimp only at H);replace H:=bnd H;obtain⟨⟨t892,t893⟩,A13,H⟩:=H;(try dsimp only at H);replace H:=bnd H;obtain⟨⟨t896,t897⟩,A14,H⟩:=H;(try dsimp only at H);replace H:=bnd H;obtain⟨⟨t900,t901⟩,A15,H⟩:=H;(try dsimp only at H);have HC16:=Aside0.mk H;clear H
  go_enter Try.func6,Try.ntmps6
  go_upto_region 15 with(first|(go_at_call 53;(with_reducible refine(spec_DrawPitsTo.calls k _ _ l0 t844 t845 t846 t847 _ ?_ HC0.out A4.out).mono ?_);exact cC HR0;rintro e w17 ⟨v848,v850,v852,rfl,ho0,ho1,ho2,hb⟩;have HO849:=eSr ho0 (bz HB);have HO851:=eRr ho1 (bz HB);have HO853:=eRr ho2 (bz HB);replace HB:=bs HB hb;clear hb ho0 ho1 ho2;obtain⟨Ao18,co18,rfl⟩:=sS HO849;obtain⟨Ao19,co19,rfl⟩:=sR HO851;obtain⟨Ao20,co20,rfl⟩:=sR HO853)|(go_at_call 35;(with_reducible refine(impl_PitsTo.calls k _ _ t844 _ _ t845 _ _ t846 t847 t854 t855 _ ?_ (lS HO849) ?_ (lR HO851) ?_ (lR HO853) A5.out).mono ?_);exact rS HO849;exact rR HO851;exact rR HO853;rintro e w21 ⟨v856,rfl,ho0,hb⟩;have HO857:=Aside0.mk (Kd.S_lower (nSR (nSR (nSS ho0 HO849) HO851) HO853) (bz HB));replace HO849:=aS HO849 (Kd.S_base ho0) hb;replace HO851:=bR HO851 hb;replace HO853:=bR HO853 hb;replace HB:=bs HB hb;clear hb ho0)|(go_at_call 36;(with_reducible refine(spec_PitsTo.calls k _ _ t844 _ _ t845 _ _ t846 t847 t858 t861 _ ?_ (lS HO849) ?_ (lR HO851) ?_ (lR HO853) A6.out).mono ?_);exact rS HO849;exact rR HO851;exact rR HO853;rintro e w22 ⟨v859,rfl,ho0,hb⟩;have HO860:=Aside0.mk (Kd.V_lower (Kd.V_mono (ok':=fun k_=>some k_≠(.slice Ao18 t844.length co18:Value).ownBlock∧some k_≠(.slice Ao19 t845.length co19:Value).ownBlock∧some k_≠(.slice Ao20 t846.length co20:Value).ownBlock∧some k_≠(v856:Value).ownBlock) ho0 (fun k_ hk_=>⟨(Kd.fresh' (Kd.S_lt (cS HO849)) k_ hk_),(Kd.fresh' (Kd.R_lt (cR HO851)) k_ hk_),(Kd.fresh' (Kd.R_lt (cR HO853)) k_ hk_),(Kd.fresh' (Kd.S_lt (cS HO857)) k_ hk_)⟩)) (bz HB));replace HO849:=bS HO849 hb;replace HO851:=bR HO851 hb;replace HO853:=bR HO853 hb;replace HO857:=bS HO857 hb;replace HB:=bs HB hb;clear hb ho0)|(go_at_call 54;(with_reducible refine(impl_ChangesOf.calls k _ _ t844 _ _ t845 _ _ t846 t847 t862 t863 _ ?_ (lS HO849) ?_ (lR HO851) ?_ (lR HO853) A7.out).mono ?_);exact rS HO849;exact rR HO851;exact rR HO853;rintro e w23 ⟨v864,rfl,ho0,hb⟩;replace HO849:=aS HO849 (Kd.R_base ho0) hb;replace HO857:=aS HO857 (Kd.R_base ho0) hb;replace HO860:=Aside0.mk (Kd.V_elder' (cV HO860) (Kd.R_base ho0) hb);have HO865:=Aside0.mk (Kd.R_lower (nRR (nRR ho0 HO851) HO853) (bz HB));replace HO851:=aR HO851 (Kd.R_base ho0) hb;replace HO853:=aR HO853 (Kd.R_base ho0) hb;replace HB:=bs HB hb;clear hb ho0)|(go_at_call 55;(with_reducible refine(spec_ChangesOf.calls k _ _ t844 _ _ t845 _ _ t846 t847 t866 t867 _ ?_ (lS HO849) ?_ (lR HO851) ?_ (lR HO853) A8.out).mono ?_);exact rS HO849;exact rR HO851;exact rR HO853;rintro e w24 ⟨v868,rfl,ho0,hb⟩;replace HO849:=aS HO849 (Kd.R_base ho0) hb;replace HO857:=aS HO857 (Kd.R_base ho0) hb;replace HO860:=Aside0.mk (Kd.V_elder' (cV HO860) (Kd.R_base ho0) hb);have HO869:=Aside0.mk (Kd.R_lower (nRR (nRR (nRR ho0 HO851) HO853) HO865) (bz HB));replace HO851:=aR HO851 (Kd.R_base ho0) hb;replace HO853:=aR HO853 (Kd.R_base ho0) hb;replace HO865:=aR HO865 (Kd.R_base ho0) hb;replace HB:=bs HB hb;clear hb ho0)|(go_at_call 56;(with_reducible refine(impl_FirstFactors.calls k _ _ t844 _ _ t845 _ _ t846 t847 t870 t871 _ ?_ (lS HO849) ?_ (lR HO851) ?_ (lR HO853) A9.out).mono ?_);exact rS HO849;exact rR HO851;exact rR HO853;rintro e w25 ⟨v872,rfl,ho0,hb⟩;replace HO849:=aS HO849 (Kd.R_base ho0) hb;replace HO857:=aS HO857 (Kd.R_base ho0) hb;replace HO860:=Aside0.mk (Kd.V_elder' (cV HO860) (Kd.R_base ho0) hb);have HO873:=Aside0.mk (Kd.R_lower (nRR (nRR (nRR (nRR ho0 HO851) HO853) HO865) HO869) (bz HB));replace HO851:=aR HO851 (Kd.R_base ho0) hb;replace HO853:=aR HO853 (Kd.R_base ho0) hb;replace HO865:=aR HO865 (Kd.R_base ho0) hb;replace HO869:=aR HO869 (Kd.R_base ho0) hb;replace HB:=bs HB hb;clear hb ho0)|(go_at_call 57;(with_reducible refine(spec_FirstFactors.calls k _ _ t844 _ _ t845 _ _ t846 t847 t874 t875 _ ?_ (lS HO849) ?_ (lR HO851) ?_ (lR HO853) A10.out).mono ?_);exact rS HO849;exact rR HO851;exact rR HO853;rintro e w26 ⟨v876,rfl,ho0,hb⟩;replace HO849:=aS HO849 (Kd.R_base ho0) hb;replace HO857:=aS HO857 (Kd.R_base ho0) hb;replace HO860:=Aside0.mk (Kd.V_elder' (cV HO860) (Kd.R_base ho0) hb);have HO877:=Aside0.mk (Kd.R_lower (Kd.R_new' (nRR (nRR (nRR (nRR ho0 HO851) HO853) HO865) HO869) (Kd.R_lt (cR HO873))) (bz HB));replace HO851:=aR HO851 (Kd.R_base ho0) hb;replace HO853:=aR HO853 (Kd.R_base ho0) hb;replace HO865:=aR HO865 (Kd.R_base ho0) hb;replace HO869:=aR HO869 (Kd.R_base ho0) hb;replace HO873:=aR HO873 (Kd.R_base ho0) hb;replace HB:=bs HB hb;clear hb ho0)|(go_at_call 58;(with_reducible refine(spec_DrawPitAt.calls k _ _ l1 t878 t879 t880 t881 _ ?_ HC1.out A11.out).mono ?_);exact cb_ HR1 HB;rintro e w27 ⟨v882,v884,v886,rfl,ho0,ho1,ho2,hb⟩;replace HO860:=Aside0.mk (Kd.V_mono (Kd.V_told (Kd.V_told (Kd.V_told (Kd.V_old (cV HO860) hb) (Kd.S_base ho0)) (Kd.R_base ho1)) (Kd.R_base ho2)) (fun _ h_=>h_.1));have HO883:=Aside0.mk (Kd.S_lower (Kd.S_new' (Kd.S_new' (Kd.S_new' (Kd.S_new' (nSS (nSR (nSR (nSS ho0 HO849) HO851) HO853) HO857) (Kd.R_lt (cR HO865))) (Kd.R_lt (cR HO869))) (Kd.R_lt (cR HO873))) (Kd.R_lt (cR HO877))) (bz HB));replace HO849:=Aside0.mk (Kd.S_mono (Kd.S_told (Kd.S_told (Kd.S_told (Kd.S_old (cS HO849) hb) (Kd.S_base ho0)) (Kd.R_base ho1)) (Kd.R_base ho2)) (fun _ h_=>h_.1));replace HO857:=Aside0.mk (Kd.S_mono (Kd.S_told (Kd.S_told (Kd.S_told (Kd.S_old (cS HO857) hb) (Kd.S_base ho0)) (Kd.R_base ho1)) (Kd.R_base ho2)) (fun _ h_=>h_.1));have HO885:=Aside0.mk (Kd.R_lower (Kd.R_new' (Kd.R_new' (nRR (nRR (nRR (nRR ho1 HO851) HO853) HO865) HO869) (Kd.R_lt (cR HO873))) (Kd.R_lt (cR HO877))) (bz HB));have HO887:=Aside0.mk (Kd.R_lower (Kd.R_new' (Kd.R_new' (nRR (nRR (nRR (nRR ho2 HO851) HO853) HO865) HO869) (Kd.R_lt (cR HO873))) (Kd.R_lt (cR HO877))) (bz HB));replace HO851:=Aside0.mk (Kd.R_mono (Kd.R_told (Kd.R_told (Kd.R_old (cR HO851) hb) (Kd.R_base ho1)) (Kd.R_base ho2)) (fun _ h_=>h_.1));replace HO853:=Aside0.mk (Kd.R_mono (Kd.R_told (Kd.R_told (Kd.R_old (cR HO853) hb) (Kd.R_base ho1)) (Kd.R_base ho2)) (fun _ h_=>h_.1));replace HO865:=Aside0.mk (Kd.R_mono (Kd.R_told (Kd.R_told (Kd.R_old (cR HO865) hb) (Kd.R_base ho1)) (Kd.R_base ho2)) (fun _ h_=>h_.1));replace HO869:=Aside0.mk (Kd.R_mono (Kd.R_told (Kd.R_told (Kd.R_old (cR HO869) hb) (Kd.R_base ho1)) (Kd.R_base ho2)) (fun _ h_=>h_.1));replace HO873:=Aside0.mk (Kd.R_mono (Kd.R_told (Kd.R_told (Kd.R_old (cR HO873) hb) (Kd.R_base ho1)) (Kd.R_base ho2)) (fun _ h_=>h_.1));replace HO877:=Aside0.mk (Kd.R_mono (Kd.R_told (Kd.R_told (Kd.R_old (cR HO877) hb) (Kd.R_base ho1)) (Kd.R_base ho2)) (fun _ h_=>h_.1));replace HB:=bs HB hb;clear hb ho0 ho1 ho2;obtain⟨Ao28,co28,rfl⟩:=sS HO883;obtain⟨Ao29,co29,rfl⟩:=sR HO885;obtain⟨Ao30,co30,rfl⟩:=sR HO887)|(go_at_call 37;(with_reducible refine(impl_PitAt.calls k _ _ t878 _ _ t879 _ _ t880 t881 t888 t889 _ ?_ (lS HO883) ?_ (lR HO885) ?_ (lR HO887) A12.out).mono ?_);exact rS HO883;exact rR HO885;exact rR HO887;rintro e w31 ⟨v890,rfl,ho0,hb⟩;replace HO849:=aS HO849 (Kd.R_base ho0) hb;replace HO857:=aS HO857 (Kd.R_base ho0) hb;replace HO860:=Aside0.mk (Kd.V_elder' (cV HO860) (Kd.R_base ho0) hb);replace HO883:=aS HO883 (Kd.R_base ho0) hb;have HO891:=Aside0.mk (Kd.R_lower (Kd.R_new' (Kd.R_new' (Kd.R_new' (Kd.R_new' (nRR (nRR (nRR (nRR ho0 HO851) HO853) HO865) HO869) (Kd.R_lt (cR HO873))) (Kd.R_lt (cR HO877))) (Kd.R_lt (cR HO885))) (Kd.R_lt (cR HO887))) (bz HB));replace HO851:=aR HO851 (Kd.R_base ho0) hb;replace HO853:=aR HO853 (Kd.R_base ho0) hb;replace HO865:=aR HO865 (Kd.R_base ho0) hb;replace HO869:=aR HO869 (Kd.R_base ho0) hb;replace HO873:=aR HO873 (Kd.R_base ho0) hb;replace HO877:=aR HO877 (Kd.R_base ho0) hb;replace HO885:=aR HO885 (Kd.R_base ho0) hb;replace HO887:=aR HO887 (Kd.R_base ho0) hb;replace HB:=bs HB hb;clear hb ho0)|(go_at_call 38;(with_reducible refine(spec_PitAt.calls k _ _ t878 _ _ t879 _ _ t880 t881 t892 t893 _ ?_ (lS HO883) ?_ (lR HO885) ?_ (lR HO887) A13.out).mono ?_);exact rS HO883;exact rR HO885;exact rR HO887;rintro e w32 ⟨v894,rfl,ho0,hb⟩;replace HO849:=aS HO849 (Kd.R_base ho0) hb;replace HO857:=aS HO857 (Kd.R_base ho0) hb;replace HO860:=Aside0.mk (Kd.V_elder' (cV HO860) (Kd.R_base ho0) hb);replace HO883:=aS HO883 (Kd.R_base ho0) hb;have HO895:=Aside0.mk (Kd.R_lower (Kd.R_new' (Kd.R_new' (Kd.R_new' (Kd.R_new' (Kd.R_new' (nRR (nRR (nRR (nRR ho0 HO851) HO853) HO865) HO869) (Kd.R_lt (cR HO873))) (Kd.R_lt (cR HO877))) (Kd.R_lt (cR HO885))) (Kd.R_lt (cR HO887))) (Kd.R_lt (cR HO891))) (bz HB));replace HO851:=aR HO851 (Kd.R_base ho0) hb;replace HO853:=aR HO853 (Kd.R_base ho0) hb;replace HO865:=aR HO865 (Kd.R_base ho0) hb;replace HO869:=aR HO869 (Kd.R_base ho0) hb;replace HO873:=aR HO873 (Kd.R_base ho0) hb;replace HO877:=aR HO877 (Kd.R_base ho0) hb;replace HO885:=aR HO885 (Kd.R_base ho0) hb;replace HO887:=aR HO887 (Kd.R_base ho0) hb;replace HO891:=aR HO891 (Kd.R_base ho0) hb;replace HB:=bs HB hb;clear hb ho0)|(go_at_call 59;(with_reducible refine(impl_FactorValues.calls k _ _ t879 _ _ t880 t881 t896 t897 _ ?_ (lR HO885) ?_ (lR HO887) A14.out).mono ?_);exact rR HO885;exact rR HO887;rintro e w33 ⟨v898,rfl,ho0,hb⟩;replace HO849:=aS HO849 (Kd.R_base ho0) hb;replace HO857:=aS HO857 (Kd.R_base ho0) hb;replace HO860:=Aside0.mk (Kd.V_elder' (cV HO860) (Kd.R_base ho0) hb);replace HO883:=aS HO883 (Kd.R_base ho0) hb;have HO899:=Aside0.mk (Kd.R_lower (Kd.R_new' (Kd.R_new' (Kd.R_new' (Kd.R_new' (Kd.R_new' (Kd.R_new' (nRR (nRR (nRR (nRR ho0 HO851) HO853) HO865) HO869) (Kd.R_lt (cR HO873))) (Kd.R_lt (cR HO877))) (Kd.R_lt (cR HO885))) (Kd.R_lt (cR HO887))) (Kd.R_lt (cR HO891))) (Kd.R_lt (cR HO895))) (bz HB));replace HO851:=aR HO851 (Kd.R_base ho0) hb;replace HO853:=aR HO853 (Kd.R_base ho0) hb;replace HO865:=aR HO865 (Kd.R_base ho0) hb;replace HO869:=aR HO869 (Kd.R_base ho0) hb;replace HO873:=aR HO873 (Kd.R_base ho0) hb;replace HO877:=aR HO877 (Kd.R_base ho0) hb;replace HO885:=aR HO885 (Kd.R_base ho0) hb;replace HO887:=aR HO887 (Kd.R_base ho0) hb;replace HO891:=aR HO891 (Kd.R_base ho0) hb;replace HO895:=aR HO895 (Kd.R_base ho0) hb;replace HB:=bs HB hb;clear hb ho0)|(go_at_call 60;(with_reducible refine(spec_FactorValues.calls k _ _ t879 _ _ t880 t881 t900 t901 _ ?_ (lR HO885) ?_ (lR HO887) A15.out).mono ?_);exact rR HO885;exact rR HO887;rintro e w34 ⟨v902,rfl,ho0,hb⟩;replace HO849:=aS HO849 (Kd.R_base ho0) hb;replace HO857:=aS HO857 (Kd.R_base ho0) hb;replace HO860:=Aside0.mk (Kd.V_elder' (cV HO860) (Kd.R_base ho0) hb);replace HO883:=aS HO883 (Kd.R_base ho0) hb;have HO903:=Aside0.mk (Kd.R_lower (Kd.R_new' (Kd.R_new' (Kd.R_new' (Kd.R_new' (Kd.R_new' (Kd.R_new' (Kd.R_new' (nRR (nRR (nRR (nRR ho0 HO851) HO853) HO865) HO869) (Kd.R_lt (cR HO873))) (Kd.R_lt (cR HO877))) (Kd.R_lt (cR HO885))) (Kd.R_lt (cR HO887))) (Kd.R_lt (cR HO891))) (Kd.R_lt (cR HO895))) (Kd.R_lt (cR HO899))) (bz HB));replace HO851:=aR HO851 (Kd.R_base ho0) hb;replace HO853:=aR HO853 (Kd.R_base ho0) hb;replace HO865:=aR HO865 (Kd.R_base ho0) hb;replace HO869:=aR HO869 (Kd.R_base ho0) hb;replace HO873:=aR HO873 (Kd.R_base ho0) hb;replace HO877:=aR HO877 (Kd.R_base ho0) hb;replace HO885:=aR HO885 (Kd.R_base ho0) hb;replace HO887:=aR HO887 (Kd.R_base ho0) hb;replace HO891:=aR HO891 (Kd.R_base ho0) hb;replace HO895:=aR HO895 (Kd.R_base ho0) hb;replace HO899:=aR HO899 (Kd.R_base ho0) hb;replace HB:=bs HB hb;clear hb ho0))
  (try simp only[Act.put,List.setIfInBounds_toArray,List.set_cons_zero,List.set_cons_succ])
  go_cut [201] (fun v201 wc=> ∃(kq:Nat) (x201_15:Bool),v201= .bool x201_15∧Aside0 (laws_FnFactors.j0 kq t844 t845 t846 t847 t854 t855 t858 t866 t874 t878 t889 t892 t896 x201_15=some r)∧Aside0 (kq≤k)∧Aside0 (Kd.S (Kd.slice 3 (Kd.int .i64)) 24 wc w.heap.size (fun k_=>some k_≠((.slice Ao19 t845.length co19):Value).ownBlock∧some k_≠((.slice Ao20 t846.length co20):Value).ownBlock∧some k_≠(v856:Value).ownBlock∧some k_≠(v868:Value).ownBlock∧some k_≠(v876:Value).ownBlock∧some k_≠((.slice Ao28 t878.length co28):Value).ownBlock∧some k_≠(v894:Value).ownBlock∧some k_≠(v898:Value).ownBlock) (.slice Ao18 t844.length co18) t844)∧Aside0 (Kd.R (Kd.int .i64) 3 wc w.heap.size (fun k_=>some k_≠((.slice Ao20 t846.length co20):Value).ownBlock∧some k_≠(v868:Value).ownBlock∧some k_≠(v876:Value).ownBlock∧some k_≠(v894:Value).ownBlock∧some k_≠(v898:Value).ownBlock) (.slice Ao19 t845.length co19) t845)∧Aside0 (Kd.R (Kd.int .i64) 3 wc w.heap.size (fun k_=>some k_≠((.slice Ao19 t845.length co19):Value).ownBlock∧some k_≠(v868:Value).ownBlock∧some k_≠(v876:Value).ownBlock∧some k_≠(v894:Value).ownBlock∧some k_≠(v898:Value).ownBlock) (.slice Ao20 t846.length co20) t846)∧Aside0 (Kd.S (Kd.slice 3 (Kd.int .i64)) 24 wc w.heap.size (fun k_=>some k_≠((.slice Ao18 t844.length co18):Value).ownBlock∧some k_≠((.slice Ao19 t845.length co19):Value).ownBlock∧some k_≠((.slice Ao20 t846.length co20):Value).ownBlock∧some k_≠(v868:Value).ownBlock∧some k_≠(v876:Value).ownBlock∧some k_≠((.slice Ao28 t878.length co28):Value).ownBlock∧some k_≠(v894:Value).ownBlock∧some k_≠(v898:Value).ownBlock) v856 t854)∧Aside0 (Kd.V (Kd.slice 3 (Kd.int .i64)) 24 wc w.heap.size (fun k_=>some k_≠((.slice Ao18 t844.length co18):Value).ownBlock∧some k_≠((.slice Ao19 t845.length co19):Value).ownBlock∧some k_≠((.slice Ao20 t846.length co20):Value).ownBlock∧some k_≠(v856:Value).ownBlock∧some k_≠(v868:Value).ownBlock∧some k_≠(v876:Value).ownBlock∧some k_≠((.slice Ao28 t878.length co28):Value).ownBlock∧some k_≠(v894:Value).ownBlock∧some k_≠(v898:Value).ownBlock) v859 t858)∧Aside0 (Kd.R (Kd.int .i64) 3 wc w.heap.size (fun k_=>some k_≠((.slice Ao19 t845.length co19):Value).ownBlock∧some k_≠((.slice Ao20 t846.length co20):Value).ownBlock∧some k_≠(v876:Value).ownBlock∧some k_≠(v894:Value).ownBlock∧some k_≠(v898:Value).ownBlock) v868 t866)∧Aside0 (Kd.R (Kd.int .i64) 3 wc w.heap.size (fun k_=>some k_≠((.slice Ao19 t845.length co19):Value).ownBlock∧some k_≠((.slice Ao20 t846.length co20):Value).ownBlock∧some k_≠(v868:Value).ownBlock∧some k_≠(v894:Value).ownBlock∧some k_≠(v898:Value).ownBlock) v876 t874)∧Aside0 (Kd.S (Kd.slice 3 (Kd.int .i64)) 24 wc w.heap.size (fun k_=>some k_≠((.slice Ao18 t844.length co18):Value).ownBlock∧some k_≠((.slice Ao19 t845.length co19):Value).ownBlock∧some k_≠((.slice Ao20 t846.length co20):Value).ownBlock∧some k_≠(v856:Value).ownBlock∧some k_≠(v868:Value).ownBlock∧some k_≠(v876:Value).ownBlock∧some k_≠(v894:Value).ownBlock∧some k_≠(v898:Value).ownBlock) (.slice Ao28 t878.length co28) t878)∧Aside0 (Kd.R (Kd.int .i64) 3 wc w.heap.size (fun k_=>some k_≠((.slice Ao19 t845.length co19):Value).ownBlock∧some k_≠((.slice Ao20 t846.length co20):Value).ownBlock∧some k_≠(v868:Value).ownBlock∧some k_≠(v876:Value).ownBlock∧some k_≠(v898:Value).ownBlock) v894 t892)∧Aside0 (Kd.R (Kd.int .i64) 3 wc w.heap.size (fun k_=>some k_≠((.slice Ao19 t845.length co19):Value).ownBlock∧some k_≠((.slice Ao20 t846.length co20):Value).ownBlock∧some k_≠(v868:Value).ownBlock∧some k_≠(v876:Value).ownBlock∧some k_≠(v894:Value).ownBlock) v898 t896)∧Aside0 (Below w.heap.size w wc))
  case first=>as_aux_lemma=>
   have H:=HC16.out;clear HC16;replace H:=itp H;rcases H with⟨c35,H⟩|⟨c35,H⟩
   ·have c35b0:(t855 !=t861)=true:=c35
    (try(have c35b1:decide (t855=t861)=false:=by simpa using c35))
    (try(have c35b2:(t855==t861)=false:=by simpa using c35))
    (try(have c35b3: ¬(t855=t861):=by simpa using c35))
    clear c35
    (first|rw[c35b0]|(simp only[i64_w,i32_w];rw[c35b0])|skip)
    as_aux_lemma=>
     have H':=Aside0.mk H;clear H;go_wp2
     repeat(go_quiet(fail);try go_wp2)
     go_meet
     case rel=>exact⟨_,(true),eqx,H',⟨omx⟩,mS HO849,mR HO851,mR HO853,mS HO857,mV HO860,mR HO869,mR HO877,mS HO883,mR HO895,mR HO899,⟨cB HB⟩⟩
   ·have c35b0:(t855 !=t861)=false:=by simpa using c35
    (try(have c35b1:decide (t855=t861)=true:=by simpa using c35))
    (try(have c35b2:(t855==t861)=true:=by simpa using c35))
    clear c35
    (first|rw[c35b0]|(simp only[i64_w,i32_w];rw[c35b0])|skip)
    replace H:=bnd H;obtain⟨t904,A36,H⟩:=H;replace H:=itt H;rcases H with⟨rfl,H⟩|⟨rfl,H⟩
    ·replace H:=itp H;rcases H with⟨c38,H⟩|⟨c38,H⟩
     ·have c38b0:(t863 !=t867)=true:=c38
      (try(have c38b1:decide (t863=t867)=false:=by simpa using c38))
      (try(have c38b2:(t863==t867)=false:=by simpa using c38))
      (try(have c38b3: ¬(t863=t867):=by simpa using c38))
      clear c38
      as_aux_lemma=>
       have H':=Aside0.mk H;clear H;obtain⟨Ao39,co39,rfl⟩:=sS HO857;obtain⟨Ao40,co40,rfl⟩:=sV HO860
       go_wp2_with(first|(go_at_call 34;(with_reducible refine(laws_qLists.calls k _ _ t854 _ _ t858 true _ ?_ (lS HO857) ?_ (lV HO860) A36.out).mono ?_);exact rS HO857;exact rV HO860;rintro e w' ⟨rfl,⟨nd,rfl⟩⟩;(try exact drx)))
       go_meet
       case rel=>exact⟨_,(true),eqx,H',⟨omx⟩,mS HO849,mR HO851,mR HO853,mS HO857,mV HO860,mR HO869,mR HO877,mS HO883,mR HO895,mR HO899,⟨cB HB⟩⟩
     ·have c38b0:(t863 !=t867)=false:=by simpa using c38
      (try(have c38b1:decide (t863=t867)=true:=by simpa using c38))
      (try(have c38b2:(t863==t867)=true:=by simpa using c38))
      clear c38;replace H:=bnd H;obtain⟨t905,A41,H⟩:=H;replace H:=itt H;rcases H with⟨rfl,H⟩|⟨rfl,H⟩
      ·replace H:=itp H;rcases H with⟨c43,H⟩|⟨c43,H⟩
       ·have c43b0:(t871 !=t875)=true:=c43
        (try(have c43b1:decide (t871=t875)=false:=by simpa using c43))
        (try(have c43b2:(t871==t875)=false:=by simpa using c43))
        (try(have c43b3: ¬(t871=t875):=by simpa using c43))
        clear c43
        as_aux_lemma=>
         have H':=Aside0.mk H;clear H;obtain⟨Ao44,co44,rfl⟩:=sS HO857;obtain⟨Ao45,co45,rfl⟩:=sV HO860
         go_wp2_with(first|(go_at_call 34;(with_reducible refine(laws_qLists.calls k _ _ t854 _ _ t858 true _ ?_ (lS HO857) ?_ (lV HO860) A36.out).mono ?_);exact rS HO857;exact rV HO860;rintro e w' ⟨rfl,⟨nd,rfl⟩⟩;(try exact drx);obtain⟨Ao46,co46,rfl⟩:=sR HO865;obtain⟨Ao47,co47,rfl⟩:=sR HO869)|(go_at_call 17;(with_reducible refine(laws_qInts.calls k _ _ t862 _ _ t866 true _ ?_ (lR HO865) ?_ (lR HO869) A41.out).mono ?_);exact rR HO865;exact rR HO869;rintro e w' ⟨rfl,⟨nd,rfl⟩⟩;(try exact drx)))
         go_meet
         case rel=>exact⟨_,(true),eqx,H',⟨omx⟩,mS HO849,mR HO851,mR HO853,mS HO857,mV HO860,mR HO869,mR HO877,mS HO883,mR HO895,mR HO899,⟨cB HB⟩⟩
       ·have c43b0:(t871 !=t875)=false:=by simpa using c43
        (try(have c43b1:decide (t871=t875)=true:=by simpa using c43))
        (try(have c43b2:(t871==t875)=true:=by simpa using c43))
        clear c43;replace H:=bnd H;obtain⟨t906,A48,H⟩:=H;replace H:=itt H;rcases H with⟨rfl,H⟩|⟨rfl,H⟩
        ·replace H:=itp H;rcases H with⟨c50,H⟩|⟨c50,H⟩
         ·have c50b0:(t889 !=t893)=true:=c50
          (try(have c50b1:decide (t889=t893)=false:=by simpa using c50))
          (try(have c50b2:(t889==t893)=false:=by simpa using c50))
          (try(have c50b3: ¬(t889=t893):=by simpa using c50))
          clear c50
          as_aux_lemma=>
           have H':=Aside0.mk H;clear H;obtain⟨Ao51,co51,rfl⟩:=sS HO857;obtain⟨Ao52,co52,rfl⟩:=sV HO860
           go_wp2_with(first|(go_at_call 34;(with_reducible refine(laws_qLists.calls k _ _ t854 _ _ t858 true _ ?_ (lS HO857) ?_ (lV HO860) A36.out).mono ?_);exact rS HO857;exact rV HO860;rintro e w' ⟨rfl,⟨nd,rfl⟩⟩;(try exact drx);obtain⟨Ao53,co53,rfl⟩:=sR HO865;obtain⟨Ao54,co54,rfl⟩:=sR HO869)|(go_at_call 17;(with_reducible refine(laws_qInts.calls k _ _ t862 _ _ t866 true _ ?_ (lR HO865) ?_ (lR HO869) A41.out).mono ?_);exact rR HO865;exact rR HO869;rintro e w' ⟨rfl,⟨nd,rfl⟩⟩;(try exact drx);obtain⟨Ao55,co55,rfl⟩:=sR HO873;obtain⟨Ao56,co56,rfl⟩:=sR HO877)|(go_at_call 17;(with_reducible refine(laws_qInts.calls k _ _ t870 _ _ t874 true _ ?_ (lR HO873) ?_ (lR HO877) A48.out).mono ?_);exact rR HO873;exact rR HO877;rintro e w' ⟨rfl,⟨nd,rfl⟩⟩;(try exact drx)))
           go_meet
           case rel=>exact⟨_,(true),eqx,H',⟨omx⟩,mS HO849,mR HO851,mR HO853,mS HO857,mV HO860,mR HO869,mR HO877,mS HO883,mR HO895,mR HO899,⟨cB HB⟩⟩
         ·have c50b0:(t889 !=t893)=false:=by simpa using c50
          (try(have c50b1:decide (t889=t893)=true:=by simpa using c50))
          (try(have c50b2:(t889==t893)=true:=by simpa using c50))
          clear c50;replace H:=bnd H;obtain⟨t907,A57,H⟩:=H;replace H:=itt H;rcases H with⟨rfl,H⟩|⟨rfl,H⟩
          ·replace H:=itp H;rcases H with⟨c59,H⟩|⟨c59,H⟩
           ·have c59b0:(t897 !=t901)=true:=c59
            (try(have c59b1:decide (t897=t901)=false:=by simpa using c59))
            (try(have c59b2:(t897==t901)=false:=by simpa using c59))
            (try(have c59b3: ¬(t897=t901):=by simpa using c59))
            clear c59
            as_aux_lemma=>
             have H':=Aside0.mk H;clear H;obtain⟨Ao60,co60,rfl⟩:=sS HO857;obtain⟨Ao61,co61,rfl⟩:=sV HO860
             go_wp2_with(first|(go_at_call 34;(with_reducible refine(laws_qLists.calls k _ _ t854 _ _ t858 true _ ?_ (lS HO857) ?_ (lV HO860) A36.out).mono ?_);exact rS HO857;exact rV HO860;rintro e w' ⟨rfl,⟨nd,rfl⟩⟩;(try exact drx);obtain⟨Ao62,co62,rfl⟩:=sR HO865;obtain⟨Ao63,co63,rfl⟩:=sR HO869)|(go_at_call 17;(with_reducible refine(laws_qInts.calls k _ _ t862 _ _ t866 true _ ?_ (lR HO865) ?_ (lR HO869) A41.out).mono ?_);exact rR HO865;exact rR HO869;rintro e w' ⟨rfl,⟨nd,rfl⟩⟩;(try exact drx);obtain⟨Ao64,co64,rfl⟩:=sR HO873;obtain⟨Ao65,co65,rfl⟩:=sR HO877)|(go_at_call 17;(with_reducible refine(laws_qInts.calls k _ _ t870 _ _ t874 true _ ?_ (lR HO873) ?_ (lR HO877) A48.out).mono ?_);exact rR HO873;exact rR HO877;rintro e w' ⟨rfl,⟨nd,rfl⟩⟩;(try exact drx);obtain⟨Ao66,co66,rfl⟩:=sR HO891;obtain⟨Ao67,co67,rfl⟩:=sR HO895)|(go_at_call 17;(with_reducible refine(laws_qInts.calls k _ _ t888 _ _ t892 true _ ?_ (lR HO891) ?_ (lR HO895) A57.out).mono ?_);exact rR HO891;exact rR HO895;rintro e w' ⟨rfl,⟨nd,rfl⟩⟩;(try exact drx)))
             go_meet
             case rel=>exact⟨_,(true),eqx,H',⟨omx⟩,mS HO849,mR HO851,mR HO853,mS HO857,mV HO860,mR HO869,mR HO877,mS HO883,mR HO895,mR HO899,⟨cB HB⟩⟩
           ·have c59b0:(t897 !=t901)=false:=by simpa using c59
            (try(have c59b1:decide (t897=t901)=true:=by simpa using c59))
            (try(have c59b2:(t897==t901)=true:=by simpa using c59))
            clear c59;replace H:=bnd H;obtain⟨t908,A68,H⟩:=H;replace H:=itt H;rcases H with⟨rfl,H⟩|⟨rfl,H⟩
            ·replace H:=itp H;rcases H with⟨c70,H⟩|⟨c70,H⟩
             ·have c70b0:(t863 !=t855)=true:=c70
              (try(have c70b1:decide (t863=t855)=false:=by simpa using c70))
              (try(have c70b2:(t863==t855)=false:=by simpa using c70))
              (try(have c70b3: ¬(t863=t855):=by simpa using c70))
              clear c70
              as_aux_lemma=>
               have H':=Aside0.mk H;clear H;obtain⟨Ao71,co71,rfl⟩:=sS HO857;obtain⟨Ao72,co72,rfl⟩:=sV HO860
               go_wp2_with(first|(go_at_call 34;(with_reducible refine(laws_qLists.calls k _ _ t854 _ _ t858 true _ ?_ (lS HO857) ?_ (lV HO860) A36.out).mono ?_);exact rS HO857;exact rV HO860;rintro e w' ⟨rfl,⟨nd,rfl⟩⟩;(try exact drx);obtain⟨Ao73,co73,rfl⟩:=sR HO865;obtain⟨Ao74,co74,rfl⟩:=sR HO869)|(go_at_call 17;(with_reducible refine(laws_qInts.calls k _ _ t862 _ _ t866 true _ ?_ (lR HO865) ?_ (lR HO869) A41.out).mono ?_);exact rR HO865;exact rR HO869;rintro e w' ⟨rfl,⟨nd,rfl⟩⟩;(try exact drx);obtain⟨Ao75,co75,rfl⟩:=sR HO873;obtain⟨Ao76,co76,rfl⟩:=sR HO877)|(go_at_call 17;(with_reducible refine(laws_qInts.calls k _ _ t870 _ _ t874 true _ ?_ (lR HO873) ?_ (lR HO877) A48.out).mono ?_);exact rR HO873;exact rR HO877;rintro e w' ⟨rfl,⟨nd,rfl⟩⟩;(try exact drx);obtain⟨Ao77,co77,rfl⟩:=sR HO891;obtain⟨Ao78,co78,rfl⟩:=sR HO895)|(go_at_call 17;(with_reducible refine(laws_qInts.calls k _ _ t888 _ _ t892 true _ ?_ (lR HO891) ?_ (lR HO895) A57.out).mono ?_);exact rR HO891;exact rR HO895;rintro e w' ⟨rfl,⟨nd,rfl⟩⟩;(try exact drx);obtain⟨Ao79,co79,rfl⟩:=sR HO899;obtain⟨Ao80,co80,rfl⟩:=sR HO903)|(go_at_call 17;(with_reducible refine(laws_qInts.calls k _ _ t896 _ _ t900 true _ ?_ (lR HO899) ?_ (lR HO903) A68.out).mono ?_);exact rR HO899;exact rR HO903;rintro e w' ⟨rfl,⟨nd,rfl⟩⟩;(try exact drx)))
               go_meet
               case rel=>exact⟨_,(true),eqx,H',⟨omx⟩,mS HO849,mR HO851,mR HO853,mS HO857,mV HO860,mR HO869,mR HO877,mS HO883,mR HO895,mR HO899,⟨cB HB⟩⟩
             ·have c70b0:(t863 !=t855)=false:=by simpa using c70
              (try(have c70b1:decide (t863=t855)=true:=by simpa using c70))
              (try(have c70b2:(t863==t855)=true:=by simpa using c70))
              clear c70
              as_aux_lemma=>
               have H':=Aside0.mk H;clear H;obtain⟨Ao81,co81,rfl⟩:=sS HO857;obtain⟨Ao82,co82,rfl⟩:=sV HO860
               go_wp2_with(first|(go_at_call 34;(with_reducible refine(laws_qLists.calls k _ _ t854 _ _ t858 true _ ?_ (lS HO857) ?_ (lV HO860) A36.out).mono ?_);exact rS HO857;exact rV HO860;rintro e w' ⟨rfl,⟨nd,rfl⟩⟩;(try exact drx);obtain⟨Ao83,co83,rfl⟩:=sR HO865;obtain⟨Ao84,co84,rfl⟩:=sR HO869)|(go_at_call 17;(with_reducible refine(laws_qInts.calls k _ _ t862 _ _ t866 true _ ?_ (lR HO865) ?_ (lR HO869) A41.out).mono ?_);exact rR HO865;exact rR HO869;rintro e w' ⟨rfl,⟨nd,rfl⟩⟩;(try exact drx);obtain⟨Ao85,co85,rfl⟩:=sR HO873;obtain⟨Ao86,co86,rfl⟩:=sR HO877)|(go_at_call 17;(with_reducible refine(laws_qInts.calls k _ _ t870 _ _ t874 true _ ?_ (lR HO873) ?_ (lR HO877) A48.out).mono ?_);exact rR HO873;exact rR HO877;rintro e w' ⟨rfl,⟨nd,rfl⟩⟩;(try exact drx);obtain⟨Ao87,co87,rfl⟩:=sR HO891;obtain⟨Ao88,co88,rfl⟩:=sR HO895)|(go_at_call 17;(with_reducible refine(laws_qInts.calls k _ _ t888 _ _ t892 true _ ?_ (lR HO891) ?_ (lR HO895) A57.out).mono ?_);exact rR HO891;exact rR HO895;rintro e w' ⟨rfl,⟨nd,rfl⟩⟩;(try exact drx);obtain⟨Ao89,co89,rfl⟩:=sR HO899;obtain⟨Ao90,co90,rfl⟩:=sR HO903)|(go_at_call 17;(with_reducible refine(laws_qInts.calls k _ _ t896 _ _ t900 true _ ?_ (lR HO899) ?_ (lR HO903) A68.out).mono ?_);exact rR HO899;exact rR HO903;rintro e w' ⟨rfl,⟨nd,rfl⟩⟩;(try exact drx)))
               go_meet
               case rel=>exact⟨_,((t871 !=t855)),eqx,H',⟨omx⟩,mS HO849,mR HO851,mR HO853,mS HO857,mV HO860,mR HO869,mR HO877,mS HO883,mR HO895,mR HO899,⟨cB HB⟩⟩
            ·have H':=Aside0.mk H;clear H;obtain⟨Ao91,co91,rfl⟩:=sS HO857;obtain⟨Ao92,co92,rfl⟩:=sV HO860
             go_wp2_with(first|(go_at_call 34;(with_reducible refine(laws_qLists.calls k _ _ t854 _ _ t858 true _ ?_ (lS HO857) ?_ (lV HO860) A36.out).mono ?_);exact rS HO857;exact rV HO860;rintro e w' ⟨rfl,⟨nd,rfl⟩⟩;(try exact drx);obtain⟨Ao93,co93,rfl⟩:=sR HO865;obtain⟨Ao94,co94,rfl⟩:=sR HO869)|(go_at_call 17;(with_reducible refine(laws_qInts.calls k _ _ t862 _ _ t866 true _ ?_ (lR HO865) ?_ (lR HO869) A41.out).mono ?_);exact rR HO865;exact rR HO869;rintro e w' ⟨rfl,⟨nd,rfl⟩⟩;(try exact drx);obtain⟨Ao95,co95,rfl⟩:=sR HO873;obtain⟨Ao96,co96,rfl⟩:=sR HO877)|(go_at_call 17;(with_reducible refine(laws_qInts.calls k _ _ t870 _ _ t874 true _ ?_ (lR HO873) ?_ (lR HO877) A48.out).mono ?_);exact rR HO873;exact rR HO877;rintro e w' ⟨rfl,⟨nd,rfl⟩⟩;(try exact drx);obtain⟨Ao97,co97,rfl⟩:=sR HO891;obtain⟨Ao98,co98,rfl⟩:=sR HO895)|(go_at_call 17;(with_reducible refine(laws_qInts.calls k _ _ t888 _ _ t892 true _ ?_ (lR HO891) ?_ (lR HO895) A57.out).mono ?_);exact rR HO891;exact rR HO895;rintro e w' ⟨rfl,⟨nd,rfl⟩⟩;(try exact drx);obtain⟨Ao99,co99,rfl⟩:=sR HO899;obtain⟨Ao100,co100,rfl⟩:=sR HO903)|(go_at_call 17;(with_reducible refine(laws_qInts.calls k _ _ t896 _ _ t900 false _ ?_ (lR HO899) ?_ (lR HO903) A68.out).mono ?_);exact rR HO899;exact rR HO903;rintro e w' ⟨rfl,⟨nd,rfl⟩⟩;(try exact drx)))
             go_meet
             case rel=>exact⟨_,(true),eqx,H',⟨omx⟩,mS HO849,mR HO851,mR HO853,mS HO857,mV HO860,mR HO869,mR HO877,mS HO883,mR HO895,mR HO899,⟨cB HB⟩⟩
          ·have H':=Aside0.mk H;clear H;obtain⟨Ao101,co101,rfl⟩:=sS HO857;obtain⟨Ao102,co102,rfl⟩:=sV HO860
           go_wp2_with(first|(go_at_call 34;(with_reducible refine(laws_qLists.calls k _ _ t854 _ _ t858 true _ ?_ (lS HO857) ?_ (lV HO860) A36.out).mono ?_);exact rS HO857;exact rV HO860;rintro e w' ⟨rfl,⟨nd,rfl⟩⟩;(try exact drx);obtain⟨Ao103,co103,rfl⟩:=sR HO865;obtain⟨Ao104,co104,rfl⟩:=sR HO869)|(go_at_call 17;(with_reducible refine(laws_qInts.calls k _ _ t862 _ _ t866 true _ ?_ (lR HO865) ?_ (lR HO869) A41.out).mono ?_);exact rR HO865;exact rR HO869;rintro e w' ⟨rfl,⟨nd,rfl⟩⟩;(try exact drx);obtain⟨Ao105,co105,rfl⟩:=sR HO873;obtain⟨Ao106,co106,rfl⟩:=sR HO877)|(go_at_call 17;(with_reducible refine(laws_qInts.calls k _ _ t870 _ _ t874 true _ ?_ (lR HO873) ?_ (lR HO877) A48.out).mono ?_);exact rR HO873;exact rR HO877;rintro e w' ⟨rfl,⟨nd,rfl⟩⟩;(try exact drx);obtain⟨Ao107,co107,rfl⟩:=sR HO891;obtain⟨Ao108,co108,rfl⟩:=sR HO895)|(go_at_call 17;(with_reducible refine(laws_qInts.calls k _ _ t888 _ _ t892 false _ ?_ (lR HO891) ?_ (lR HO895) A57.out).mono ?_);exact rR HO891;exact rR HO895;rintro e w' ⟨rfl,⟨nd,rfl⟩⟩;(try exact drx)))
           go_meet
           case rel=>exact⟨_,(true),eqx,H',⟨omx⟩,mS HO849,mR HO851,mR HO853,mS HO857,mV HO860,mR HO869,mR HO877,mS HO883,mR HO895,mR HO899,⟨cB HB⟩⟩
        ·have H':=Aside0.mk H;clear H;obtain⟨Ao109,co109,rfl⟩:=sS HO857;obtain⟨Ao110,co110,rfl⟩:=sV HO860
         go_wp2_with(first|(go_at_call 34;(with_reducible refine(laws_qLists.calls k _ _ t854 _ _ t858 true _ ?_ (lS HO857) ?_ (lV HO860) A36.out).mono ?_);exact rS HO857;exact rV HO860;rintro e w' ⟨rfl,⟨nd,rfl⟩⟩;(try exact drx);obtain⟨Ao111,co111,rfl⟩:=sR HO865;obtain⟨Ao112,co112,rfl⟩:=sR HO869)|(go_at_call 17;(with_reducible refine(laws_qInts.calls k _ _ t862 _ _ t866 true _ ?_ (lR HO865) ?_ (lR HO869) A41.out).mono ?_);exact rR HO865;exact rR HO869;rintro e w' ⟨rfl,⟨nd,rfl⟩⟩;(try exact drx);obtain⟨Ao113,co113,rfl⟩:=sR HO873;obtain⟨Ao114,co114,rfl⟩:=sR HO877)|(go_at_call 17;(with_reducible refine(laws_qInts.calls k _ _ t870 _ _ t874 false _ ?_ (lR HO873) ?_ (lR HO877) A48.out).mono ?_);exact rR HO873;exact rR HO877;rintro e w' ⟨rfl,⟨nd,rfl⟩⟩;(try exact drx)))
         go_meet
         case rel=>exact⟨_,(true),eqx,H',⟨omx⟩,mS HO849,mR HO851,mR HO853,mS HO857,mV HO860,mR HO869,mR HO877,mS HO883,mR HO895,mR HO899,⟨cB HB⟩⟩
      ·have H':=Aside0.mk H;clear H;obtain⟨Ao115,co115,rfl⟩:=sS HO857;obtain⟨Ao116,co116,rfl⟩:=sV HO860
       go_wp2_with(first|(go_at_call 34;(with_reducible refine(laws_qLists.calls k _ _ t854 _ _ t858 true _ ?_ (lS HO857) ?_ (lV HO860) A36.out).mono ?_);exact rS HO857;exact rV HO860;rintro e w' ⟨rfl,⟨nd,rfl⟩⟩;(try exact drx);obtain⟨Ao117,co117,rfl⟩:=sR HO865;obtain⟨Ao118,co118,rfl⟩:=sR HO869)|(go_at_call 17;(with_reducible refine(laws_qInts.calls k _ _ t862 _ _ t866 false _ ?_ (lR HO865) ?_ (lR HO869) A41.out).mono ?_);exact rR HO865;exact rR HO869;rintro e w' ⟨rfl,⟨nd,rfl⟩⟩;(try exact drx)))
       go_meet
       case rel=>exact⟨_,(true),eqx,H',⟨omx⟩,mS HO849,mR HO851,mR HO853,mS HO857,mV HO860,mR HO869,mR HO877,mS HO883,mR HO895,mR HO899,⟨cB HB⟩⟩
    ·have H':=Aside0.mk H;clear H;obtain⟨Ao119,co119,rfl⟩:=sS HO857;obtain⟨Ao120,co120,rfl⟩:=sV HO860
     go_wp2_with(first|(go_at_call 34;(with_reducible refine(laws_qLists.calls k _ _ t854 _ _ t858 false _ ?_ (lS HO857) ?_ (lV HO860) A36.out).mono ?_);exact rS HO857;exact rV HO860;rintro e w' ⟨rfl,⟨nd,rfl⟩⟩;(try exact drx)))
     go_meet
     case rel=>exact⟨_,(true),eqx,H',⟨omx⟩,mS HO849,mR HO851,mR HO853,mS HO857,mV HO860,mR HO869,mR HO877,mS HO883,mR HO895,mR HO899,⟨cB HB⟩⟩
  case rest=>as_aux_lemma=>
   clear HC16;obtain⟨kq,x201_15,rfl,HA,HJ15,HO_5,HO_6,HO_7,HO_9,HO_11,HO_15,HO_19,HO_21,HO_27,HO_29,HB⟩:=hcut;obtain _|kj15:=kq
   ·exact nz HA.out
   have H:=HA.out;clear HA;simp only[laws_FnFactors.j0]at H;replace H:=itt H;rcases H with⟨rfl,H⟩|⟨rfl,H⟩
   ·obtain rfl:=Option.some.inj H;go_wp2
    repeat(go_quiet(fail);try go_wp2)
    go_ret
    exact⟨erx,cB HB⟩
   ·have HC122:=Aside0.mk H;clear H
    go_upto_if 202 with(fail)
    repeat(go_quiet(fail);go_upto_if 202 with(fail))
    go_cut [] (fun wc=> ∃(kq:Nat),Aside0 (laws_FnFactors.j1 kq t844 t845 t846 t847 t854 t855 t858 t866 t874=some r)∧Aside0 (kq≤kj15)∧Aside0 (Kd.S (Kd.slice 3 (Kd.int .i64)) 24 wc w.heap.size (fun k_=>some k_≠((.slice Ao19 t845.length co19):Value).ownBlock∧some k_≠((.slice Ao20 t846.length co20):Value).ownBlock∧some k_≠(v856:Value).ownBlock∧some k_≠(v868:Value).ownBlock∧some k_≠(v876:Value).ownBlock) (.slice Ao18 t844.length co18) t844)∧Aside0 (Kd.R (Kd.int .i64) 3 wc w.heap.size (fun k_=>some k_≠((.slice Ao20 t846.length co20):Value).ownBlock∧some k_≠(v868:Value).ownBlock∧some k_≠(v876:Value).ownBlock) (.slice Ao19 t845.length co19) t845)∧Aside0 (Kd.R (Kd.int .i64) 3 wc w.heap.size (fun k_=>some k_≠((.slice Ao19 t845.length co19):Value).ownBlock∧some k_≠(v868:Value).ownBlock∧some k_≠(v876:Value).ownBlock) (.slice Ao20 t846.length co20) t846)∧Aside0 (Kd.S (Kd.slice 3 (Kd.int .i64)) 24 wc w.heap.size (fun k_=>some k_≠((.slice Ao18 t844.length co18):Value).ownBlock∧some k_≠((.slice Ao19 t845.length co19):Value).ownBlock∧some k_≠((.slice Ao20 t846.length co20):Value).ownBlock∧some k_≠(v868:Value).ownBlock∧some k_≠(v876:Value).ownBlock) v856 t854)∧Aside0 (Kd.V (Kd.slice 3 (Kd.int .i64)) 24 wc w.heap.size (fun k_=>some k_≠((.slice Ao18 t844.length co18):Value).ownBlock∧some k_≠((.slice Ao19 t845.length co19):Value).ownBlock∧some k_≠((.slice Ao20 t846.length co20):Value).ownBlock∧some k_≠(v856:Value).ownBlock∧some k_≠(v868:Value).ownBlock∧some k_≠(v876:Value).ownBlock) v859 t858)∧Aside0 (Kd.R (Kd.int .i64) 3 wc w.heap.size (fun k_=>some k_≠((.slice Ao19 t845.length co19):Value).ownBlock∧some k_≠((.slice Ao20 t846.length co20):Value).ownBlock∧some k_≠(v876:Value).ownBlock) v868 t866)∧Aside0 (Kd.R (Kd.int .i64) 3 wc w.heap.size (fun k_=>some k_≠((.slice Ao19 t845.length co19):Value).ownBlock∧some k_≠((.slice Ao20 t846.length co20):Value).ownBlock∧some k_≠(v868:Value).ownBlock) v876 t874)∧Aside0 (Below w.heap.size w wc))
    case first=>as_aux_lemma=>
     have H:=HC122.out;clear HC122;replace H:=itt H;rcases H with⟨rfl,H⟩|⟨rfl,H⟩
     ·replace H:=bnd H;obtain⟨⟨t909,t910⟩,A124,H⟩:=H;(try dsimp only at H);replace H:=itt H;rcases H with⟨rfl,H⟩|⟨rfl,H⟩
      ·replace H:=bnd H;obtain⟨t913,A126,H⟩:=H;replace H:=itt H;rcases H with⟨rfl,H⟩|⟨rfl,H⟩
       ·have H':=Aside0.mk H;clear H;obtain⟨Ao128,co128,rfl⟩:=sR HO_29
        go_wp2_with(first|(go_at_call 15;(with_reducible refine(impl_BestPit.calls kj15 _ _ t878 _ _ t896 t909 true _ ?_ (lS HO_21) ?_ (lR HO_29) A124.out).mono ?_);exact rS HO_21;exact rR HO_29;rintro e w129 ⟨v911,rfl,ho0,hb⟩;replace HO_5:=aS HO_5 (Kd.R_base ho0) hb;replace HO_9:=aS HO_9 (Kd.R_base ho0) hb;replace HO_11:=Aside0.mk (Kd.V_elder' (cV HO_11) (Kd.R_base ho0) hb);replace HO_21:=aS HO_21 (Kd.R_base ho0) hb;have HO912:=Aside0.mk (Kd.R_lower (Kd.R_new' (Kd.R_new' (nRR (nRR (nRR (nRR ho0 HO_6) HO_7) HO_15) HO_19) (Kd.R_lt (cR HO_27))) (Kd.R_lt (cR HO_29))) (bz HB));replace HO_6:=aR HO_6 (Kd.R_base ho0) hb;replace HO_7:=aR HO_7 (Kd.R_base ho0) hb;replace HO_15:=aR HO_15 (Kd.R_base ho0) hb;replace HO_19:=aR HO_19 (Kd.R_base ho0) hb;replace HO_27:=aR HO_27 (Kd.R_base ho0) hb;replace HO_29:=aR HO_29 (Kd.R_base ho0) hb;replace HB:=bs HB hb;clear hb ho0;obtain⟨Ao130,co130,rfl⟩:=sR HO912;obtain⟨Ao131,co131,rfl⟩:=sR HO_27)|(go_at_call 17;(with_reducible refine(laws_qInts.calls kj15 _ _ t909 _ _ t892 true _ ?_ (lR HO912) ?_ (lR HO_27) A126.out).mono ?_);exact rR HO912;exact rR HO_27;rintro e w' ⟨rfl,⟨nd,rfl⟩⟩;(try exact drx)))
        go_meet
        case rel=>exact⟨_,H',⟨by have:=HJ15.out;first|omega|exact Nat.le_refl _⟩,mS HO_5,mR HO_6,mR HO_7,mS HO_9,mV HO_11,mR HO_15,mR HO_19,⟨cB HB⟩⟩
       ·obtain rfl:=Option.some.inj H;obtain⟨Ao132,co132,rfl⟩:=sR HO_29
        go_wp2_with(first|(go_at_call 15;(with_reducible refine(impl_BestPit.calls kj15 _ _ t878 _ _ t896 t909 true _ ?_ (lS HO_21) ?_ (lR HO_29) A124.out).mono ?_);exact rS HO_21;exact rR HO_29;rintro e w133 ⟨v911,rfl,ho0,hb⟩;replace HO_5:=aS HO_5 (Kd.R_base ho0) hb;replace HO_9:=aS HO_9 (Kd.R_base ho0) hb;replace HO_11:=Aside0.mk (Kd.V_elder' (cV HO_11) (Kd.R_base ho0) hb);replace HO_21:=aS HO_21 (Kd.R_base ho0) hb;have HO912:=Aside0.mk (Kd.R_lower (Kd.R_new' (Kd.R_new' (nRR (nRR (nRR (nRR ho0 HO_6) HO_7) HO_15) HO_19) (Kd.R_lt (cR HO_27))) (Kd.R_lt (cR HO_29))) (bz HB));replace HO_6:=aR HO_6 (Kd.R_base ho0) hb;replace HO_7:=aR HO_7 (Kd.R_base ho0) hb;replace HO_15:=aR HO_15 (Kd.R_base ho0) hb;replace HO_19:=aR HO_19 (Kd.R_base ho0) hb;replace HO_27:=aR HO_27 (Kd.R_base ho0) hb;replace HO_29:=aR HO_29 (Kd.R_base ho0) hb;replace HB:=bs HB hb;clear hb ho0;obtain⟨Ao134,co134,rfl⟩:=sR HO912;obtain⟨Ao135,co135,rfl⟩:=sR HO_27)|(go_at_call 17;(with_reducible refine(laws_qInts.calls kj15 _ _ t909 _ _ t892 false _ ?_ (lR HO912) ?_ (lR HO_27) A126.out).mono ?_);exact rR HO912;exact rR HO_27;rintro e w' ⟨rfl,⟨nd,rfl⟩⟩;(try exact drx)))
        go_ret
        exact⟨erx,cB HB⟩
      ·obtain rfl:=Option.some.inj H;obtain⟨Ao136,co136,rfl⟩:=sR HO_29
       go_wp2_with(first|(go_at_call 15;(with_reducible refine(impl_BestPit.calls kj15 _ _ t878 _ _ t896 t909 false _ ?_ (lS HO_21) ?_ (lR HO_29) A124.out).mono ?_);exact rS HO_21;exact rR HO_29;rintro e w137 ⟨v911,rfl,ho0,hb⟩;replace HO_5:=aS HO_5 (Kd.R_base ho0) hb;replace HO_9:=aS HO_9 (Kd.R_base ho0) hb;replace HO_11:=Aside0.mk (Kd.V_elder' (cV HO_11) (Kd.R_base ho0) hb);replace HO_21:=aS HO_21 (Kd.R_base ho0) hb;have HO912:=Aside0.mk (Kd.R_lower (Kd.R_new' (Kd.R_new' (nRR (nRR (nRR (nRR ho0 HO_6) HO_7) HO_15) HO_19) (Kd.R_lt (cR HO_27))) (Kd.R_lt (cR HO_29))) (bz HB));replace HO_6:=aR HO_6 (Kd.R_base ho0) hb;replace HO_7:=aR HO_7 (Kd.R_base ho0) hb;replace HO_15:=aR HO_15 (Kd.R_base ho0) hb;replace HO_19:=aR HO_19 (Kd.R_base ho0) hb;replace HO_27:=aR HO_27 (Kd.R_base ho0) hb;replace HO_29:=aR HO_29 (Kd.R_base ho0) hb;replace HB:=bs HB hb;clear hb ho0))
       go_ret
       exact⟨erx,cB HB⟩
     ·have H':=Aside0.mk H;clear H;go_wp2
      repeat(go_quiet(fail);try go_wp2)
      go_meet
      case rel=>exact⟨_,H',⟨by have:=HJ15.out;first|omega|exact Nat.le_refl _⟩,mS HO_5,mR HO_6,mR HO_7,mS HO_9,mV HO_11,mR HO_15,mR HO_19,⟨cB HB⟩⟩
    case rest=>as_aux_lemma=>
     clear HC122;obtain⟨kq,HA,HJ121,HO_5,HO_6,HO_7,HO_9,HO_11,HO_15,HO_19,HB⟩:=hcut;obtain _|kj121:=kq
     ·exact nz HA.out
     have H:=HA.out;clear HA;simp only[laws_FnFactors.j1]at H;replace H:=itt H;rcases H with⟨rfl,H⟩|⟨rfl,H⟩
     ·replace H:=bnd H;obtain⟨⟨t914,t915⟩,A139,H⟩:=H;(try dsimp only at H);have HC140:=Aside0.mk H;clear H;obtain⟨Ao141,co141,rfl⟩:=sS HO_9
      go_upto_region 24 with(first|(go_at_call 32;(with_reducible refine(impl_IsChain.calls kj121 _ _ t854 t914 t915 _ ?_ (lS HO_9) A139.out).mono ?_);exact rS HO_9;rintro e w142 ⟨rfl,hb⟩;replace HO_5:=bS HO_5 hb;replace HO_6:=bR HO_6 hb;replace HO_7:=bR HO_7 hb;replace HO_9:=bS HO_9 hb;replace HO_11:=bV HO_11 hb;replace HO_15:=bR HO_15 hb;replace HO_19:=bR HO_19 hb;replace HB:=bs HB hb;clear hb))
      (try simp only[Act.put,List.setIfInBounds_toArray,List.set_cons_zero,List.set_cons_succ])
      go_cut [244] (fun v244 wc=> ∃(kq:Nat) (x244_139:Bool),v244= .bool x244_139∧Aside0 (laws_FnFactors.j2 kq t858 t866 t874 x244_139=some r)∧Aside0 (kq≤kj121)∧Aside0 (Kd.V (Kd.slice 3 (Kd.int .i64)) 24 wc w.heap.size (fun k_=>some k_≠(v868:Value).ownBlock∧some k_≠(v876:Value).ownBlock) v859 t858)∧Aside0 (Kd.R (Kd.int .i64) 3 wc w.heap.size (fun k_=>some k_≠(v876:Value).ownBlock) v868 t866)∧Aside0 (Kd.R (Kd.int .i64) 3 wc w.heap.size (fun k_=>some k_≠(v868:Value).ownBlock) v876 t874)∧Aside0 (Below w.heap.size w wc))
      case first=>as_aux_lemma=>
       have H:=HC140.out;clear HC140;replace H:=itt H;rcases H with⟨rfl,H⟩|⟨rfl,H⟩
       ·replace H:=itt H;rcases H with⟨rfl,H⟩|⟨rfl,H⟩
        ·replace H:=itp H;rcases H with⟨c145,H⟩|⟨c145,H⟩
         ·have c145b0:((t858.length:Int)==(wrap64 (t847+1)))=true:=beq_iff_eq.mpr c145;have c145b1:((t858.length:Int) !=(wrap64 (t847+1)))=false:=bne_eq_false_iff_eq.mpr c145;clear c145
          (first|rw[c145b0]|(simp only[i64_w,i32_w];rw[c145b0])|skip)
          replace H:=bnd H;obtain⟨t916,A146,H⟩:=H
          as_aux_lemma=>
           have H':=Aside0.mk H;clear H;obtain⟨Ao147,co147,rfl⟩:=sV HO_11
           go_wp2_with(first|(go_at_call 61;(with_reducible refine(impl_AreGains.calls kj121 _ _ t845 _ _ t846 (t844.length:Int) t916 _ ?_ (lR HO_6) ?_ (lR HO_7) A146.out).mono ?_);exact rR HO_6;exact rR HO_7;rintro e w' ⟨rfl,⟨nd,rfl⟩⟩;(try exact drx)))
           go_meet
           case rel=>exact⟨_,(!t916),eqx,H',⟨by have:=HJ15.out;have:=HJ121.out;first|omega|exact Nat.le_refl _⟩,mV HO_11,mR HO_15,mR HO_19,⟨cB HB⟩⟩
         ·have c145b0:((t858.length:Int)==(wrap64 (t847+1)))=false:=beq_eq_false_iff_ne.mpr c145;have c145b1:((t858.length:Int) !=(wrap64 (t847+1)))=true:=bne_iff_ne.mpr c145
          (first|rw[c145b0]|(simp only[i64_w,i32_w];rw[c145b0])|skip)
          as_aux_lemma=>
           have H':=Aside0.mk H;clear H;obtain⟨Ao148,co148,rfl⟩:=sV HO_11;go_wp2
           repeat(go_quiet(fail);try go_wp2)
           go_meet
           case rel=>exact⟨_,(true),eqx,H',⟨by have:=HJ15.out;have:=HJ121.out;first|omega|exact Nat.le_refl _⟩,mV HO_11,mR HO_15,mR HO_19,⟨cB HB⟩⟩
        ·have H':=Aside0.mk H;clear H;go_wp2
         repeat(go_quiet(fail);try go_wp2)
         go_meet
         case rel=>exact⟨_,(true),eqx,H',⟨by have:=HJ15.out;have:=HJ121.out;first|omega|exact Nat.le_refl _⟩,mV HO_11,mR HO_15,mR HO_19,⟨cB HB⟩⟩
       ·have H':=Aside0.mk H;clear H;go_wp2
        repeat(go_quiet(fail);try go_wp2)
        go_meet
        case rel=>exact⟨_,(true),eqx,H',⟨by have:=HJ15.out;have:=HJ121.out;first|omega|exact Nat.le_refl _⟩,mV HO_11,mR HO_15,mR HO_19,⟨cB HB⟩⟩
      case rest=>as_aux_lemma=>
       clear HC140;obtain⟨kq,x244_139,rfl,HA,HJ139,HO_11,HO_15,HO_19,HB⟩:=hcut;obtain _|kj139:=kq
       ·exact nz HA.out
       have H:=HA.out;clear HA;simp only[laws_FnFactors.j2]at H;replace H:=itt H;rcases H with⟨rfl,H⟩|⟨rfl,H⟩
       ·obtain rfl:=Option.some.inj H;go_wp2
        repeat(go_quiet(fail);try go_wp2)
        go_ret
        exact⟨erx,cB HB⟩
       ·have H':=Aside0.mk H;clear H;obtain⟨Ao150,co150,rfl⟩:=sV HO_11;go_wp2
        repeat(go_quiet(fail);try go_wp2)
        go_loopg [247] kj139 (fun kq v247 w'=> ∃(x247_4:Int),v247= .int .i64 x247_4∧Aside0 (laws_FnFactors.l0 kq t858 t866 t874 t858 (t858.length:Int) x247_4=some r)∧Aside0 (kq≤kj139)∧Aside0 (Kd.V (Kd.slice 3 (Kd.int .i64)) 24 w' w.heap.size (fun k_=>some k_≠(v868:Value).ownBlock∧some k_≠(v876:Value).ownBlock) (.slice Ao150 t858.length co150) t858)∧Aside0 (Kd.R (Kd.int .i64) 3 w' w.heap.size (fun k_=>some k_≠(v876:Value).ownBlock) v868 t866)∧Aside0 (Kd.R (Kd.int .i64) 3 w' w.heap.size (fun k_=>some k_≠(v868:Value).ownBlock) v876 t874)∧Aside0 (Kd.V (Kd.slice 3 (Kd.int .i64)) 24 w' w.heap.size (fun k_=>some k_≠(v868:Value).ownBlock∧some k_≠(v876:Value).ownBlock) (.slice Ao150 t858.length co150) t858)∧Aside0 (Below w.heap.size w w'))
        case atStart=>exact⟨(0),eqx,H',⟨Nat.le_refl _⟩,mV HO_11,mR HO_15,mR HO_19,mV HO_11,⟨cB HB⟩⟩
        case round=>
         clear H';obtain⟨x247_4,rfl,HA,HK4,HO_11,HO_15,HO_19,HO_245,HB⟩:=hrel;obtain _|k4:=gk
         ·exact nz HA.out
         have H:=HA.out;clear HA;simp only[laws_FnFactors.l0]at H;replace H:=itb H;rcases H with⟨c151b0,H⟩|⟨c151b0,H⟩
         ·replace H:=itd H;obtain⟨c152b0,H⟩:=H;replace H:=itd H;obtain⟨c153b0,H⟩:=H;have HC154:=Aside0.mk H;clear H;have p917:0≤(x247_4:Int):=of_decide_eq_true asx;have q917:x247_4<(t858.length:Int):=of_decide_eq_true asx;obtain⟨ad917,A917_0,c917_0,e917,hx917_0,hl917_0,hi917_0⟩:=at_L1 (rV HO_245) x247_4 p917 q917;cases e917;obtain⟨ce917,hce917,hMe917,hcc917⟩:=Kd.V_get HO_245.out [] x247_4 p917 (by first|exact q917|exact of_decide_eq_true asx|(have e_:=(Kd.V_reads' HO_245.out).1;omega));obtain⟨ua917_0,uc917_0,rfl,ul917_0,ge917_0⟩:=Kd.FK_slice_open hMe917;have hv917_0:=hcc917 0 _ rfl;rw[Nat.add_zero,show((Kd.slice 3 (Kd.int .i64))).sz=1 from rfl,Nat.mul_one]at hv917_0;replace hv917_0:=Option.some.inj (hv917_0.symm.trans hx917_0)
          injection hv917_0 with hva_ hvn_ hvc_
          rw[hva_]at ge917_0;rw[hvc_]at ul917_0;have HL917_0:=Aside0.mk (show Kd.V (Kd.int .i64) 3 _ w.heap.size _ _ (rd_L1 t858 x247_4)from Kd.V_mk ul917_0 ge917_0);clear hva_ hvn_ hvc_ ge917_0 ul917_0;clear hcc917 hce917;have HR917_0:=Aside0.mk hi917_0;have HC917_0:=Aside0.mk hl917_0;clear hi917_0 hl917_0;replace p917:=eq_true p917;replace q917:=eq_true q917
          go_upto_region 29 with(fail)
          repeat(go_quiet(fail);go_upto_region 29 with(fail))
          go_cut [266] (fun v266 wc=> ∃(kq:Nat) (x266_153:Bool),v266= .bool x266_153∧Aside0 (laws_FnFactors.j4 kq t858 t866 t874 x247_4 (rd_L1 t858 x247_4) t858 (t858.length:Int) x247_4 x266_153=some r)∧Aside0 (kq≤k4)∧Aside0 (Kd.V (Kd.slice 3 (Kd.int .i64)) 24 wc w.heap.size (fun k_=>some k_≠(v868:Value).ownBlock∧some k_≠(v876:Value).ownBlock) (.slice (some ad917) t858.length co150) t858)∧Aside0 (Kd.R (Kd.int .i64) 3 wc w.heap.size (fun k_=>some k_≠(v876:Value).ownBlock) v868 t866)∧Aside0 (Kd.R (Kd.int .i64) 3 wc w.heap.size (fun k_=>some k_≠(v868:Value).ownBlock) v876 t874)∧Aside0 (Kd.V (Kd.slice 3 (Kd.int .i64)) 24 wc w.heap.size (fun k_=>some k_≠(v868:Value).ownBlock∧some k_≠(v876:Value).ownBlock) (.slice (some ad917) t858.length co150) t858)∧Aside0 (Kd.C (Kd.int .i64) wc A917_0 (rd_L1 t858 x247_4).length (rd_L1 t858 x247_4))∧Aside0 (Below w.heap.size w wc))
          case first=>as_aux_lemma=>
           have H:=HC154.out;clear HC154;replace H:=itb H;rcases H with⟨c155b0,H⟩|⟨c155b0,H⟩
           ·(first|rw[c155b0]|(simp only[i64_w,i32_w];rw[c155b0])|skip)
            replace H:=bnd H;obtain⟨t918,A156,H⟩:=H;obtain⟨ji157,hji157⟩:=jix (wrap64 (x247_4-1));simp only[hji157]at H
            (try rw[hji157]at A156)
            have hji157w:(IntKind.i64.wrap (x247_4-1))=ji157:=(i64_w _).trans hji157;replace H:=itd H;obtain⟨c158b0,H⟩:=H;replace H:=itd H;obtain⟨c159b0,H⟩:=H;replace H:=bnd H;obtain⟨t920,A160,H⟩:=H
            as_aux_lemma=>
             have H':=Aside0.mk H;clear H;obtain⟨Ao161,co161,rfl⟩:=sR HO_15
             go_wp2_with(first|(go_at_call 18;(with_reducible refine(laws_qHas.calls k4 _ _ t866 x247_4 t918 _ ?_ (lR HO_15) A156.out).mono ?_);exact rR HO_15;rintro e w' ⟨rfl,⟨nd,rfl⟩⟩;(try exact drx);have p919:0≤((ji157):Int):=of_decide_eq_true asx;have q919:(ji157)<(t858.length:Int):=of_decide_eq_true asx;obtain⟨ad919,A919_0,c919_0,e919,hx919_0,hl919_0,hi919_0⟩:=at_L1 (rV HO_11) (ji157) p919 q919;obtain rfl:ad917=ad919:=(by injection e919);obtain⟨ce919,hce919,hMe919,hcc919⟩:=Kd.V_get HO_11.out [] (ji157) p919 (by first|exact q919|exact of_decide_eq_true asx|(have e_:=(Kd.V_reads' HO_11.out).1;omega));obtain⟨ua919_0,uc919_0,rfl,ul919_0,ge919_0⟩:=Kd.FK_slice_open hMe919;have hv919_0:=hcc919 0 _ rfl;rw[Nat.add_zero,show((Kd.slice 3 (Kd.int .i64))).sz=1 from rfl,Nat.mul_one]at hv919_0;replace hv919_0:=Option.some.inj (hv919_0.symm.trans hx919_0);injection hv919_0 with hva_ hvn_ hvc_;rw[hva_]at ge919_0;rw[hvc_]at ul919_0;have HL919_0:=Aside0.mk (show Kd.V (Kd.int .i64) 3 _ w.heap.size _ _ (rd_L1 t858 (ji157))from Kd.V_mk ul919_0 ge919_0);clear hva_ hvn_ hvc_ ge919_0 ul919_0 hcc919 hce919;have HR919_0:=Aside0.mk hi919_0;have HC919_0:=Aside0.mk hl919_0;clear hi919_0 hl919_0;replace p919:=eq_true p919;replace q919:=eq_true q919)|(go_at_call 17;(with_reducible refine(laws_qInts.calls k4 _ _ (rd_L1 t858 x247_4) _ _ (rd_L1 t858 (ji157)) t920 _ ?_ HC917_0.out ?_ HC919_0.out A160.out).mono ?_);exact cC ⟨by repeat(first|(with_reducible exact HR917_0.out)|(with_reducible refine Kd.C_alloc ?_ _)|(with_reducible refine Kd.C_drewN ?_ _)|(with_reducible refine Kd.C_drew ?_)|exact HR917_0.out)⟩;exact cC ⟨by repeat(first|(with_reducible exact HR919_0.out)|(with_reducible refine Kd.C_alloc ?_ _)|(with_reducible refine Kd.C_drewN ?_ _)|(with_reducible refine Kd.C_drew ?_)|exact HR919_0.out)⟩;rintro e w' ⟨rfl,⟨nd,rfl⟩⟩;(try exact drx)))
             repeat(go_quiet(first|(go_at_call 18;(with_reducible refine(laws_qHas.calls k4 _ _ t866 x247_4 t918 _ ?_ (lR HO_15) A156.out).mono ?_);exact rR HO_15;rintro e w' ⟨rfl,⟨nd,rfl⟩⟩;(try exact drx);have p919:0≤((ji157):Int):=of_decide_eq_true asx;have q919:(ji157)<(t858.length:Int):=of_decide_eq_true asx;obtain⟨ad919,A919_0,c919_0,e919,hx919_0,hl919_0,hi919_0⟩:=at_L1 (rV HO_11) (ji157) p919 q919;obtain rfl:ad917=ad919:=(by injection e919);obtain⟨ce919,hce919,hMe919,hcc919⟩:=Kd.V_get HO_11.out [] (ji157) p919 (by first|exact q919|exact of_decide_eq_true asx|(have e_:=(Kd.V_reads' HO_11.out).1;omega));obtain⟨ua919_0,uc919_0,rfl,ul919_0,ge919_0⟩:=Kd.FK_slice_open hMe919;have hv919_0:=hcc919 0 _ rfl;rw[Nat.add_zero,show((Kd.slice 3 (Kd.int .i64))).sz=1 from rfl,Nat.mul_one]at hv919_0;replace hv919_0:=Option.some.inj (hv919_0.symm.trans hx919_0);injection hv919_0 with hva_ hvn_ hvc_;rw[hva_]at ge919_0;rw[hvc_]at ul919_0;have HL919_0:=Aside0.mk (show Kd.V (Kd.int .i64) 3 _ w.heap.size _ _ (rd_L1 t858 (ji157))from Kd.V_mk ul919_0 ge919_0);clear hva_ hvn_ hvc_ ge919_0 ul919_0 hcc919 hce919;have HR919_0:=Aside0.mk hi919_0;have HC919_0:=Aside0.mk hl919_0;clear hi919_0 hl919_0;replace p919:=eq_true p919;replace q919:=eq_true q919)|(go_at_call 17;(with_reducible refine(laws_qInts.calls k4 _ _ (rd_L1 t858 x247_4) _ _ (rd_L1 t858 (ji157)) t920 _ ?_ HC917_0.out ?_ HC919_0.out A160.out).mono ?_);exact cC ⟨by repeat(first|(with_reducible exact HR917_0.out)|(with_reducible refine Kd.C_alloc ?_ _)|(with_reducible refine Kd.C_drewN ?_ _)|(with_reducible refine Kd.C_drew ?_)|exact HR917_0.out)⟩;exact cC ⟨by repeat(first|(with_reducible exact HR919_0.out)|(with_reducible refine Kd.C_alloc ?_ _)|(with_reducible refine Kd.C_drewN ?_ _)|(with_reducible refine Kd.C_drew ?_)|exact HR919_0.out)⟩;rintro e w' ⟨rfl,⟨nd,rfl⟩⟩;(try exact drx)));try go_wp2_with(first|(go_at_call 18;(with_reducible refine(laws_qHas.calls k4 _ _ t866 x247_4 t918 _ ?side1 ?side2 A156.out).mono ?_);(case side1=>exact rR HO_15);(case side2=>exact(lR HO_15));rintro e w' ⟨rfl,⟨nd,rfl⟩⟩;(try exact drx);have p919:0≤((ji157):Int):=of_decide_eq_true asx;have q919:(ji157)<(t858.length:Int):=of_decide_eq_true asx;obtain⟨ad919,A919_0,c919_0,e919,hx919_0,hl919_0,hi919_0⟩:=at_L1 (rV HO_11) (ji157) p919 q919;obtain rfl:ad917=ad919:=(by injection e919);obtain⟨ce919,hce919,hMe919,hcc919⟩:=Kd.V_get HO_11.out [] (ji157) p919 (by first|exact q919|exact of_decide_eq_true asx|(have e_:=(Kd.V_reads' HO_11.out).1;omega));obtain⟨ua919_0,uc919_0,rfl,ul919_0,ge919_0⟩:=Kd.FK_slice_open hMe919;have hv919_0:=hcc919 0 _ rfl;rw[Nat.add_zero,show((Kd.slice 3 (Kd.int .i64))).sz=1 from rfl,Nat.mul_one]at hv919_0;replace hv919_0:=Option.some.inj (hv919_0.symm.trans hx919_0);injection hv919_0 with hva_ hvn_ hvc_;rw[hva_]at ge919_0;rw[hvc_]at ul919_0;have HL919_0:=Aside0.mk (show Kd.V (Kd.int .i64) 3 _ w.heap.size _ _ (rd_L1 t858 (ji157))from Kd.V_mk ul919_0 ge919_0);clear hva_ hvn_ hvc_ ge919_0 ul919_0;clear hcc919 hce919;have HR919_0:=Aside0.mk hi919_0;have HC919_0:=Aside0.mk hl919_0;clear hi919_0 hl919_0;replace p919:=eq_true p919;replace q919:=eq_true q919)|(go_at_call 17;(with_reducible refine(laws_qInts.calls k4 _ _ (rd_L1 t858 x247_4) _ _ (rd_L1 t858 (ji157)) t920 _ ?side1 ?side2 ?side3 ?side4 A160.out).mono ?_);(case side1=>exact cC ⟨by repeat(first|(with_reducible exact HR917_0.out)|(with_reducible refine Kd.C_alloc ?_ _)|(with_reducible refine Kd.C_drewN ?_ _)|(with_reducible refine Kd.C_drew ?_)|exact HR917_0.out)⟩);(case side2=>exact HC917_0.out);(case side3=>exact cC ⟨by repeat(first|(with_reducible exact HR919_0.out)|(with_reducible refine Kd.C_alloc ?_ _)|(with_reducible refine Kd.C_drewN ?_ _)|(with_reducible refine Kd.C_drew ?_)|exact HR919_0.out)⟩);(case side4=>exact HC919_0.out);rintro e w' ⟨rfl,⟨nd,rfl⟩⟩;(try exact drx))))
             go_meet
             case rel=>exact⟨_,((t918==t920)),eqx,H',⟨by have:=HJ15.out;have:=HJ121.out;have:=HJ139.out;have:=HK4.out;first|omega|exact Nat.le_refl _⟩,mV HO_11,mR HO_15,mR HO_19,mV HO_245,⟨by repeat(first|(with_reducible exact HR917_0.out)|(with_reducible refine Kd.C_alloc ?_ _)|(with_reducible refine Kd.C_drewN ?_ _)|(with_reducible refine Kd.C_drew ?_)|exact HR917_0.out)⟩,⟨cB HB⟩⟩
           ·(first|rw[c155b0]|(simp only[i64_w,i32_w];rw[c155b0])|skip)
            as_aux_lemma=>
             have H':=Aside0.mk H;clear H;go_wp2
             repeat(go_quiet(fail);try go_wp2)
             go_meet
             case rel=>exact⟨_,(false),eqx,H',⟨by have:=HJ15.out;have:=HJ121.out;have:=HJ139.out;have:=HK4.out;first|omega|exact Nat.le_refl _⟩,mV HO_11,mR HO_15,mR HO_19,mV HO_245,⟨by repeat(first|(with_reducible exact HR917_0.out)|(with_reducible refine Kd.C_alloc ?_ _)|(with_reducible refine Kd.C_drewN ?_ _)|(with_reducible refine Kd.C_drew ?_)|exact HR917_0.out)⟩,⟨cB HB⟩⟩
          case rest=>as_aux_lemma=>
           clear HC154;obtain⟨kq,x266_153,rfl,HA,HJ153,HO_11,HO_15,HO_19,HO_245,HR917_0,HB⟩:=hcut;obtain _|kj153:=kq
           ·exact nz HA.out
           have H:=HA.out;clear HA;simp only[laws_FnFactors.j4]at H;replace H:=itt H;rcases H with⟨rfl,H⟩|⟨rfl,H⟩
           ·obtain rfl:=Option.some.inj H;go_wp2
            repeat(go_quiet(fail);try go_wp2)
            go_ret
            exact⟨erx,cB HB⟩
           ·have H':=Aside0.mk H;clear H;obtain⟨Ao163,co163,rfl⟩:=sR HO_19;go_wp2
            repeat(go_quiet(fail);try go_wp2)
            go_loopg [269] kj153 (fun kq v269 w'=> ∃(x269_6:Int),v269= .int .i64 x269_6∧Aside0 (laws_FnFactors.l1 kq t858 t866 t874 x247_4 (rd_L1 t858 x247_4) t858 (t858.length:Int) x247_4 t874 (t874.length:Int) x269_6=some r)∧Aside0 (kq≤kj153)∧Aside0 (Kd.V (Kd.slice 3 (Kd.int .i64)) 24 w' w.heap.size (fun k_=>some k_≠(v868:Value).ownBlock∧some k_≠((.slice Ao163 t874.length co163):Value).ownBlock∧some k_≠((.slice Ao163 t874.length co163):Value).ownBlock) (.slice (some ad917) t858.length co150) t858)∧Aside0 (Kd.R (Kd.int .i64) 3 w' w.heap.size (fun k_=>some k_≠((.slice Ao163 t874.length co163):Value).ownBlock∧some k_≠((.slice Ao163 t874.length co163):Value).ownBlock) v868 t866)∧Aside0 (Kd.R (Kd.int .i64) 3 w' w.heap.size (fun k_=>some k_≠(v868:Value).ownBlock) (.slice Ao163 t874.length co163) t874)∧Aside0 (Kd.V (Kd.slice 3 (Kd.int .i64)) 24 w' w.heap.size (fun k_=>some k_≠(v868:Value).ownBlock∧some k_≠((.slice Ao163 t874.length co163):Value).ownBlock∧some k_≠((.slice Ao163 t874.length co163):Value).ownBlock) (.slice (some ad917) t858.length co150) t858)∧Aside0 (Kd.R (Kd.int .i64) 3 w' w.heap.size (fun k_=>some k_≠(v868:Value).ownBlock) (.slice Ao163 t874.length co163) t874)∧Aside0 (Kd.C (Kd.int .i64) w' A917_0 (rd_L1 t858 x247_4).length (rd_L1 t858 x247_4))∧Aside0 (Below w.heap.size w w'))
            case atStart=>exact⟨(0),eqx,H',⟨Nat.le_refl _⟩,mV HO_11,mR HO_15,mR HO_19,mV HO_245,mR HO_19,⟨by repeat(first|(with_reducible exact HR917_0.out)|(with_reducible refine Kd.C_alloc ?_ _)|(with_reducible refine Kd.C_drewN ?_ _)|(with_reducible refine Kd.C_drew ?_)|exact HR917_0.out)⟩,⟨cB HB⟩⟩
            case round=>
             clear H';obtain⟨x269_6,rfl,HA,HK6,HO_11,HO_15,HO_19,HO_245,HO_267,HR917_0,HB⟩:=hrel;obtain _|k6:=gk
             ·exact nz HA.out
             have H:=HA.out;clear HA;simp only[laws_FnFactors.l1]at H;replace H:=itb H;rcases H with⟨c164b0,H⟩|⟨c164b0,H⟩
             ·replace H:=itd H;obtain⟨c165b0,H⟩:=H;replace H:=itd H;obtain⟨c166b0,H⟩:=H;replace H:=bnd H;obtain⟨t922,A167,H⟩:=H;replace H:=itb H;rcases H with⟨c168b0,H⟩|⟨c168b0,H⟩
              ·replace H:=itp H;rcases H with⟨c169,H⟩|⟨c169,H⟩
               ·have c169b0:(t922 !=(decide ((rd t874 x269_6)≤x247_4)))=true:=c169
                (try(have c169b1:decide (t922=(decide ((rd t874 x269_6)≤x247_4)))=false:=by simpa using c169))
                (try(have c169b2:(t922==(decide ((rd t874 x269_6)≤x247_4)))=false:=by simpa using c169))
                (try(have c169b3: ¬(t922=(decide ((rd t874 x269_6)≤x247_4))):=by simpa using c169))
                clear c169;obtain rfl:=Option.some.inj H;obtain⟨ad921,e921,hx921_0,p921,q921⟩:=ldi (i:=x269_6) (rR HO_267);cases e921
                go_wp2_with(first|(go_at_call 18;(with_reducible refine(laws_qHas.calls k6 _ _ (rd_L1 t858 x247_4) x269_6 t922 _ ?_ HC917_0.out A167.out).mono ?_);exact cb_ HR917_0 HB;rintro e w' ⟨rfl,⟨nd,rfl⟩⟩;(try exact drx)))
                go_ret
                exact⟨erx,cB HB⟩
               ·have c169b0:(t922 !=(decide ((rd t874 x269_6)≤x247_4)))=false:=by simpa using c169
                (try(have c169b1:decide (t922=(decide ((rd t874 x269_6)≤x247_4)))=true:=by simpa using c169))
                (try(have c169b2:(t922==(decide ((rd t874 x269_6)≤x247_4)))=true:=by simpa using c169))
                clear c169;have H':=Aside0.mk H;clear H;obtain⟨ad921,e921,hx921_0,p921,q921⟩:=ldi (i:=x269_6) (rR HO_267);cases e921
                go_wp2_with(first|(go_at_call 18;(with_reducible refine(laws_qHas.calls k6 _ _ (rd_L1 t858 x247_4) x269_6 t922 _ ?_ HC917_0.out A167.out).mono ?_);exact cb_ HR917_0 HB;rintro e w' ⟨rfl,⟨nd,rfl⟩⟩;(try exact drx)))
                go_roundg k6
                case measure=>have:=HJ15.out;have:=HJ121.out;have:=HJ139.out;have:=HK4.out;have:=HJ153.out;have:=HK6.out;omega
                case rel=>exact⟨(wrap64 (x269_6+1)),eqx,H',⟨by have:=HJ15.out;have:=HJ121.out;have:=HJ139.out;have:=HK4.out;have:=HJ153.out;have:=HK6.out;omega⟩,mV HO_11,mR HO_15,mR HO_19,mV HO_245,mR HO_267,⟨by repeat(first|(with_reducible exact HR917_0.out)|(with_reducible refine Kd.C_alloc ?_ _)|(with_reducible refine Kd.C_drewN ?_ _)|(with_reducible refine Kd.C_drew ?_)|exact HR917_0.out)⟩,⟨cB HB⟩⟩
              ·replace H:=itp H;rcases H with⟨c170,H⟩|⟨c170,H⟩
               ·have c170b0:(t922 !=false)=true:=c170
                (try(have c170b1:decide (t922=false)=false:=by simpa using c170))
                (try(have c170b2:(t922==false)=false:=by simpa using c170))
                (try(have c170b3: ¬(t922=false):=by simpa using c170))
                clear c170;obtain rfl:=Option.some.inj H;obtain⟨ad921,e921,hx921_0,p921,q921⟩:=ldi (i:=x269_6) (rR HO_267);cases e921
                go_wp2_with(first|(go_at_call 18;(with_reducible refine(laws_qHas.calls k6 _ _ (rd_L1 t858 x247_4) x269_6 t922 _ ?_ HC917_0.out A167.out).mono ?_);exact cb_ HR917_0 HB;rintro e w' ⟨rfl,⟨nd,rfl⟩⟩;(try exact drx)))
                go_ret
                exact⟨erx,cB HB⟩
               ·have c170b0:(t922 !=false)=false:=by simpa using c170
                (try(have c170b1:decide (t922=false)=true:=by simpa using c170))
                (try(have c170b2:(t922==false)=true:=by simpa using c170))
                clear c170;have H':=Aside0.mk H;clear H;obtain⟨ad921,e921,hx921_0,p921,q921⟩:=ldi (i:=x269_6) (rR HO_267);cases e921
                go_wp2_with(first|(go_at_call 18;(with_reducible refine(laws_qHas.calls k6 _ _ (rd_L1 t858 x247_4) x269_6 t922 _ ?_ HC917_0.out A167.out).mono ?_);exact cb_ HR917_0 HB;rintro e w' ⟨rfl,⟨nd,rfl⟩⟩;(try exact drx)))
                go_roundg k6
                case measure=>have:=HJ15.out;have:=HJ121.out;have:=HJ139.out;have:=HK4.out;have:=HJ153.out;have:=HK6.out;omega
                case rel=>exact⟨(wrap64 (x269_6+1)),eqx,H',⟨by have:=HJ15.out;have:=HJ121.out;have:=HJ139.out;have:=HK4.out;have:=HJ153.out;have:=HK6.out;omega⟩,mV HO_11,mR HO_15,mR HO_19,mV HO_245,mR HO_267,⟨by repeat(first|(with_reducible exact HR917_0.out)|(with_reducible refine Kd.C_alloc ?_ _)|(with_reducible refine Kd.C_drewN ?_ _)|(with_reducible refine Kd.C_drew ?_)|exact HR917_0.out)⟩,⟨cB HB⟩⟩
             ·have H':=Aside0.mk H;clear H;go_wp2
              repeat(go_quiet(fail);try go_wp2)
              go_roundg k6
              case measure=>have:=HJ15.out;have:=HJ121.out;have:=HJ139.out;have:=HK4.out;have:=HJ153.out;have:=HK6.out;omega
              case rel=>exact⟨(wrap64 (x247_4+1)),eqx,H',⟨by have:=HJ15.out;have:=HJ121.out;have:=HJ139.out;have:=HK4.out;have:=HJ153.out;have:=HK6.out;omega⟩,mV HO_11,mR HO_15,mR HO_19,mV HO_245,⟨cB HB⟩⟩
         ·obtain rfl:=Option.some.inj H;go_wp2
          repeat(go_quiet(fail);try go_wp2)
          go_ret
          exact⟨erx,cB HB⟩
     ·obtain rfl:=Option.some.inj H;go_wp2
      repeat(go_quiet(fail);try go_wp2)
      go_ret
      exact⟨erx,cB HB⟩
end Go.Proofs.Ytlkppimbbbdmbaa.PFnFactors
