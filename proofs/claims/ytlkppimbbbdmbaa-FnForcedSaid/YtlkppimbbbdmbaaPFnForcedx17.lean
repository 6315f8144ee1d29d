-- Printed by a changed copy of the printer; impl.bestPit and spec.paFind by contracts walked by hand
import Derived.Test.YtlkppimbbbdmbaaPFnForcedx0
import Derived.Test.YtlkppimbbbdmbaaPFnForcedx1
import Derived.Test.YtlkppimbbbdmbaaPFnForcedx2
import Derived.Test.YtlkppimbbbdmbaaPFnForcedx5
import Derived.Test.YtlkppimbbbdmbaaPFnForcedx14
import Derived.Test.YtlkppimbbbdmbaaPFnForcedx15
import Derived.Test.YtlkppimbbbdmbaaPFnForcedx16
namespace Go.Proofs.Ytlkppimbbbdmbaa.PFnForced
open Go.RowKit Go.Proofs.YtlkppimbbbdmbaaW.PrintWords Go.Proofs.YtlkppimbbbdmbaaW.PrintLast Go.Proofs.YtlkppimbbbdmbaaW.PrintMore
attribute [local go_sem] max2_int min2_int max_two min_two max_three min_three max_four min_four
set_option linter.unusedVariables false
set_option linter.unusedSimpArgs false
def impl_insideOf.l0:Nat→List (List Int)→List Bool→Int→Int→Option (List Bool)
 |0,_,_,_,_=>none
 |k+1,x0,x5,x12,x13=>if x13<x12 then(if 0≤x13 then(if x13<(x5.length:Int)then(if rdOf false x5 x13=true then(if x13<(x0.length:Int)then((impl_allIn.f k x5 (rd_L1 x0 x13)).bind fun t853=>(impl_insideOf.l0 k x0 (x5.set (x13:Int).toNat t853) x12 (wrap64 (x13+1))))else(none))else(impl_insideOf.l0 k x0 (x5.set (x13:Int).toNat false) x12 (wrap64 (x13+1))))else(none))else(none))else(some x5)
def impl_insideOf.f (k:Nat) (l0:List (List Int)) (l1:List Int):Option (List Bool):=(impl_markOf.f k (l0.length:Int) l1).bind fun t848=>(impl_insideOf.l0 k l0 t848 (l0.length:Int) 0)
set_option maxHeartbeats 8000000 in
set_option maxRecDepth 100000 in
theorem impl_insideOf.calls (k:Nat) (A0:Option Addr) (c0:Nat) (l0:List (List Int)) (A1:Option Addr) (c1:Nat) (l1:List Int) (r:List Bool) (w:World) (hr0:Kd.C (Kd.slice 3 (Kd.int .i64)) w A0 l0.length l0) (hc0:l0.length≤c0) (hr1:Kd.C (Kd.int .i64) w A1 l1.length l1) (hc1:l1.length≤c1) (h:impl_insideOf.f k l0 l1=some r):
  Calls Try.prog 127 #[.slice A0 l0.length c0,.slice A1 l1.length c1] w fun e w'=> ∃v0_:Value,e= .returned (v0_)∧Kd.R Kd.bool 4 w' w.heap.size (fun _=>True) v0_ r∧Below w.heap.size w w':=by
 have HR0:=Aside0.mk hr0;have HC0:=Aside0.mk hc0;clear hr0 hc0;have HR1:=Aside0.mk hr1;have HC1:=Aside0.mk hc1;clear hr1 hc1;have HB:=Aside0.mk (Below.refl w.heap.size w);have H:=h;clear h
 unfold impl_insideOf.f at H
 replace H:=bnd H;obtain⟨t848,A3,H⟩:=H;have H':=Aside0.mk H;clear H
 go_enter Try.func127,Try.ntmps127
 go_wp2_with(first|(refine cal_ 106 (some 10) Try.func106 #[.int .i64 (l0.length:Int),.slice A1 l1.length c1] rfl (impl_markOf.calls k (l0.length:Int) _ _ l1 t848 _ ?_ HC1.out A3.out) ?_;exact cC HR1;rintro e w4 ⟨v849,rfl,ho0,hb⟩;refine⟨_,rfl,?_⟩;have HO850:=eRr ho0 (bz HB);replace HB:=bs HB hb;clear hb ho0))
 go_loopg [13] k (fun kq v13 w'=> ∃(x5_1:List Bool) (x13_1:Int),v13= .int .i64 x13_1∧Aside0 (impl_insideOf.l0 kq l0 x5_1 (l0.length:Int) x13_1=some r)∧Aside0 (kq≤k)∧Aside0 (Kd.R Kd.bool 4 w' w.heap.size (fun _=>True) v849 x5_1)∧Aside0 (Below w.heap.size w w'))
 case atStart=>exact⟨(t848),(0),eqx,H',⟨Nat.le_refl _⟩,mR HO850,⟨cB HB⟩⟩
 case round=>
  clear H';obtain⟨x5_1,x13_1,rfl,HA,HK1,HO_5,HB⟩:=hrel;obtain _|k1:=gk
  ·exact nz HA.out
  have H:=HA.out;clear HA;simp only[impl_insideOf.l0]at H;replace H:=itb H;rcases H with⟨c5b0,H⟩|⟨c5b0,H⟩
  ·replace H:=itd H;obtain⟨c6b0,H⟩:=H;replace H:=itd H;obtain⟨c7b0,H⟩:=H;obtain⟨bq8,hbq8⟩: ∃b_:Bool,b_=(rdOf false x5_1 x13_1):=⟨_,rfl⟩;replace H:(if bq8=true then(if x13_1<(l0.length:Int)then((impl_allIn.f k1 x5_1 (rd_L1 l0 x13_1)).bind fun t853=>(impl_insideOf.l0 k1 l0 (x5_1.set (x13_1:Int).toNat t853) (l0.length:Int) (wrap64 (x13_1+1))))else(none))else(impl_insideOf.l0 k1 l0 (x5_1.set (x13_1:Int).toNat false) (l0.length:Int) (wrap64 (x13_1+1))))=some r:=by rw[←hbq8]at H;exact H
   have Nbq8:=Aside0.mk hbq8;clear hbq8;replace H:=itt H;rcases H with⟨rfl,H⟩|⟨rfl,H⟩
   ·replace H:=itd H;obtain⟨c10b0,H⟩:=H;replace H:=bnd H;obtain⟨t853,A11,H⟩:=H;obtain⟨y854,Ny854⟩:=nmx ((x5_1.set (x13_1:Int).toNat t853):List Bool);rw[←Ny854.out]at H;have H':=Aside0.mk H;clear H;obtain⟨Ao13,co13,rfl⟩:=sR HO_5;have p851:0≤(x13_1:Int):=of_decide_eq_true asx;have q851:x13_1<(x5_1.length:Int):=of_decide_eq_true asx;obtain⟨ad851,e851,hx851_0⟩:=Kd.at_bool (rR HO_5) x13_1 p851 q851
    (try rw[←Nbq8.out]at hx851_0)
    cases e851;replace p851:=eq_true p851;replace q851:=eq_true q851;have p852:0≤(x13_1:Int):=of_decide_eq_true asx;have q852:x13_1<(l0.length:Int):=of_decide_eq_true asx;obtain⟨ad852,A852_0,c852_0,e852,hx852_0,hl852_0,hi852_0⟩:=at_L1 HR0.out x13_1 p852 q852;cases e852;replace hx852_0:=hc_ HB hx852_0;have HR852_0:=Aside0.mk hi852_0;have HC852_0:=Aside0.mk hl852_0;clear hi852_0 hl852_0;replace p852:=eq_true p852;replace q852:=eq_true q852
    go_wp2_with(first|(go_at_call 105;(with_reducible refine(impl_allIn.calls k1 _ _ x5_1 _ _ (rd_L1 l0 x13_1) t853 _ ?_ (lR HO_5) ?_ HC852_0.out A11.out).mono ?_);exact rR HO_5;exact cb_ HR852_0 HB;rintro e w' ⟨rfl,⟨nd,rfl⟩⟩;(try(rw[drewN_self wr];generalize hq_:World.drewN wr _=wr;have n0_:Aside0 (Kd.R Kd.bool 4 wr w.heap.size (fun _=>True) (.slice (some ad851) x5_1.length co13) x5_1):=⟨by rw[←hq_];exact(cR HO_5)⟩;have n1_:Aside0 (Below w.heap.size w wr):=⟨by rw[←hq_];exact(cB HB)⟩;clear HO_5 HB hq_;have HO_5:=n0_;have HB:=n1_;clear n0_ n1_));have p12:0≤(x13_1:Int):=of_decide_eq_true asx;have q12:(x13_1:Int)<((x5_1.length:Int):Int):=of_decide_eq_true asx;obtain⟨go12,co12,eo12,gb12,gl12,cl12,HG12⟩:=Kd.R_form HO_5.out (by omega);(first|cases eo12|(injection eo12 with ea_ en_ ec_;(first|subst ea_|(injection ea_ with ea_;subst ea_));subst ec_;clear en_));have GB12:=Aside0.mk gb12;have GG12:=Aside0.mk HG12;clear gb12 gl12 HG12;(first|simp only[add_plain]at hx851_0|skip);obtain⟨hx12_0,hf12_0⟩:=Kd.R_celln false HO_5.out (x13_1:Int) p12 q12;replace p12:=eq_true p12;replace q12:=eq_true q12;obtain⟨hy14_,hz14_⟩:=Kd.R_celln false HO_5.out (x13_1:Int) (of_decide_eq_true asx) (of_decide_eq_true asx);have HP14:=Kd.R_putg HO_5.out (x13_1:Int) t853)|((with_reducible refine gate_store (t:=4) (p:=30) rfl ?_);refine store_event (t:=4) (p:=30) (v:=?vo_w15) (w1:=(wr.setCell ⟨go12,(x13_1:Int).toNat,none⟩ (.bool t853))) ?hg ?ho ?hn ?hr ?_;(case ho=>rfl);(case hg=>rfl);(case hn=>rfl);(case hr=>first|(go_simp;done)|(go_simp;rfl));intro w15 hw;have hg:wr.grownBy w15 (some go12):=(by rw[hw];exact HP14.2);have hp_:Kd.R Kd.bool 4 w15 w.heap.size (fun _=>True) (.slice (some ⟨go12,0,none⟩) x5_1.length co13) y854:=(by rw[hw,Ny854.out];exact HP14.1);clear HP14;replace HO_5:=Aside0.mk hp_;replace HB:=Aside0.mk (by rw[hw];exact below_set (HB.out) GB12.out:Below w.heap.size w w15);clear hg hw hp_))
    go_roundg k1
    case measure=>have:=HK1.out;omega
    case rel=>exact⟨(y854),(wrap64 (x13_1+1)),eqx,H',⟨by have:=HK1.out;omega⟩,mR HO_5,⟨cB HB⟩⟩
   ·obtain⟨y855,Ny855⟩:=nmx ((x5_1.set (x13_1:Int).toNat false):List Bool);rw[←Ny855.out]at H;have H':=Aside0.mk H;clear H;obtain⟨Ao17,co17,rfl⟩:=sR HO_5;have p851:0≤(x13_1:Int):=of_decide_eq_true asx;have q851:x13_1<(x5_1.length:Int):=of_decide_eq_true asx;obtain⟨ad851,e851,hx851_0⟩:=Kd.at_bool (rR HO_5) x13_1 p851 q851
    (try rw[←Nbq8.out]at hx851_0)
    cases e851;replace p851:=eq_true p851;replace q851:=eq_true q851;have p16:0≤(x13_1:Int):=of_decide_eq_true asx;have q16:(x13_1:Int)<((x5_1.length:Int):Int):=of_decide_eq_true asx;obtain⟨go16,co16,eo16,gb16,gl16,cl16,HG16⟩:=Kd.R_form HO_5.out (by omega)
    (first|cases eo16|(injection eo16 with ea_ en_ ec_;(first|subst ea_|(injection ea_ with ea_;subst ea_));subst ec_;clear en_))
    have GB16:=Aside0.mk gb16;have GG16:=Aside0.mk HG16;clear gb16 gl16 HG16
    (first|simp only[add_plain]at hx851_0|skip)
    obtain⟨hx16_0,hf16_0⟩:=Kd.R_celln false HO_5.out (x13_1:Int) p16 q16;replace p16:=eq_true p16;replace q16:=eq_true q16;have HP18:=Kd.R_putg HO_5.out (x13_1:Int) false
    go_wp2_with(first|((with_reducible refine gate_store (t:=4) (p:=30) rfl ?_);refine store_event (t:=4) (p:=30) (v:=?vo_w19) (w1:=(wr.setCell ⟨go16,(x13_1:Int).toNat,none⟩ (.bool false))) ?hg ?ho ?hn ?hr ?_;(case ho=>rfl);(case hg=>rfl);(case hn=>rfl);(case hr=>first|(go_simp;done)|(go_simp;rfl));intro w19 hw;have hg:wr.grownBy w19 (some go16):=(by rw[hw];exact HP18.2);have hp_:Kd.R Kd.bool 4 w19 w.heap.size (fun _=>True) (.slice (some ⟨go16,0,none⟩) x5_1.length co17) y855:=(by rw[hw,Ny855.out];exact HP18.1);clear HP18;replace HO_5:=Aside0.mk hp_;replace HB:=Aside0.mk (by rw[hw];exact below_set (HB.out) GB16.out:Below w.heap.size w w19);clear hg hw hp_))
    go_roundg k1
    case measure=>have:=HK1.out;omega
    case rel=>exact⟨(y855),(wrap64 (x13_1+1)),eqx,H',⟨by have:=HK1.out;omega⟩,mR HO_5,⟨cB HB⟩⟩
  ·obtain rfl:=Option.some.inj H;go_wp2
   go_ret
   exact⟨_,erx,by(with_reducible repeat(first|apply Kd.R_alloc|apply Kd.R_drewN|apply Kd.R_drew));exact HO_5.out,cB HB⟩
def impl_PitInside.j0:Nat→List (List Int)→List Int→List Int→Bool→Option (List Int×Bool)
 |0,_,_,_,_=>none
 |k+1,x0,x1,x2,x18=>if x18=true then(some (([]:List Int),false))else((impl_insideOf.f k x0 x2).bind fun t858=>((impl_outOf.f k t858).bind fun t861=>((impl_bestPit.fo x0 x1 t861).bind fun t864=>((impl_listOf.f k t864).bind fun t867=>(some (t867,true))))))
def impl_PitInside.f (k:Nat) (l0:List (List Int)) (l1:List Int) (l2:List Int):Option (List Int×Bool):=(impl_areValued.f k l0 l1).bind fun t856=>(if t856=true then((impl_areBlocks.f k l2 (l0.length:Int)).bind fun t857=>(impl_PitInside.j0 k l0 l1 l2 (!t857)))else(impl_PitInside.j0 k l0 l1 l2 true))
set_option maxHeartbeats 8000000 in
set_option maxRecDepth 100000 in
theorem impl_PitInside.calls (k:Nat) (A0:Option Addr) (c0:Nat) (l0:List (List Int)) (A1:Option Addr) (c1:Nat) (l1:List Int) (A2:Option Addr) (c2:Nat) (l2:List Int) (r1:List Int) (r2:Bool) (w:World) (hr0:Kd.C (Kd.slice 3 (Kd.int .i64)) w A0 l0.length l0) (hc0:l0.length≤c0) (hr1:Kd.C (Kd.int .i64) w A1 l1.length l1) (hc1:l1.length≤c1) (hr2:Kd.C (Kd.int .i64) w A2 l2.length l2) (hc2:l2.length≤c2) (h:impl_PitInside.f k l0 l1 l2=some (r1,r2)):
  Calls Try.prog 65 #[.slice A0 l0.length c0,.slice A1 l1.length c1,.slice A2 l2.length c2] w fun e w'=> ∃v0_:Value,e= .returned (.tuple #[v0_,.bool r2])∧Kd.R (Kd.int .i64) 3 w' w.heap.size (fun _=>True) v0_ r1∧Below w.heap.size w w':=by
 have HR0:=Aside0.mk hr0;have HC0:=Aside0.mk hc0;clear hr0 hc0;have HR1:=Aside0.mk hr1;have HC1:=Aside0.mk hc1;clear hr1 hc1;have HR2:=Aside0.mk hr2;have HC2:=Aside0.mk hc2;clear hr2 hc2;have HB:=Aside0.mk (Below.refl w.heap.size w);have H:=h;clear h
 unfold impl_PitInside.f at H
 have HC4:=Aside0.mk H;clear H
 go_enter Try.func65,Try.ntmps65
 go_upto_region 1 with(fail)
 go_cut [18] (fun v18 wc=> ∃(kq:Nat) (x18_3:Bool),v18= .bool x18_3∧Aside0 (impl_PitInside.j0 kq l0 l1 l2 x18_3=some (r1,r2))∧Aside0 (kq≤k)∧Aside0 (Below w.heap.size w wc))
 case first=>
  have H:=HC4.out;clear HC4;replace H:=bnd H;obtain⟨t856,A5,H⟩:=H;replace H:=itt H;rcases H with⟨rfl,H⟩|⟨rfl,H⟩
  ·replace H:=bnd H;obtain⟨t857,A7,H⟩:=H;have H':=Aside0.mk H;clear H
   go_wp2_with(first|(refine cal_ 73 (some 10) Try.func73 #[.slice A0 l0.length c0,.slice A1 l1.length c1] rfl (impl_areValued.calls k _ _ l0 _ _ l1 true _ ?_ HC0.out ?_ HC1.out A5.out) ?_;exact cb_ HR0 HB;exact cb_ HR1 HB;rintro e w' ⟨rfl,⟨nd,rfl⟩⟩;refine⟨_,rfl,?_⟩)|(go_at_call 104;(with_reducible refine(impl_areBlocks.calls k _ _ l2 (l0.length:Int) t857 _ ?_ HC2.out A7.out).mono ?_);exact cb_ HR2 HB;rintro e w' ⟨rfl,⟨nd,rfl⟩⟩))
   go_meet
   case rel=>exact⟨_,(!t857),eqx,H',⟨omx⟩,⟨cB HB⟩⟩
  ·have H':=Aside0.mk H;clear H
   go_wp2_with(first|(refine cal_ 73 (some 10) Try.func73 #[.slice A0 l0.length c0,.slice A1 l1.length c1] rfl (impl_areValued.calls k _ _ l0 _ _ l1 false _ ?_ HC0.out ?_ HC1.out A5.out) ?_;exact cb_ HR0 HB;exact cb_ HR1 HB;rintro e w' ⟨rfl,⟨nd,rfl⟩⟩;refine⟨_,rfl,?_⟩))
   go_meet
   case rel=>exact⟨_,(true),eqx,H',⟨omx⟩,⟨cB HB⟩⟩
 case rest=>
  clear HC4;obtain⟨kq,x18_3,rfl,HA,HJ3,HB⟩:=hcut;obtain _|kj3:=kq
  ·exact nz HA.out
  have H:=HA.out;clear HA;simp only[impl_PitInside.j0]at H;replace H:=itt H;rcases H with⟨rfl,H⟩|⟨rfl,H⟩
  ·simp only[Option.some.injEq,Prod.mk.injEq]at H;obtain⟨rfl,rfl⟩:=H;go_wp2
   go_ret2
   exact⟨_,erx,nlx,cB HB⟩
  ·replace H:=bnd H;obtain⟨t858,A9,H⟩:=H;replace H:=bnd H;obtain⟨t861,A10,H⟩:=H;replace H:=bnd H;obtain⟨t864,A11,H⟩:=H;replace H:=bnd H;obtain⟨t867,A12,H⟩:=H;simp only[Option.some.injEq,Prod.mk.injEq]at H;obtain⟨rfl,rfl⟩:=H
   go_wp2_with(first|(refine cal_ 127 (some 23) Try.func127 #[.slice A0 l0.length c0,.slice A2 l2.length c2] rfl (impl_insideOf.calls kj3 _ _ l0 _ _ l2 t858 _ ?_ HC0.out ?_ HC2.out A9.out) ?_;exact cb_ HR0 HB;exact cb_ HR2 HB;rintro e w13 ⟨v859,rfl,ho0,hb⟩;refine⟨_,rfl,?_⟩;have HO860:=eRr ho0 (bz HB);replace HB:=bs HB hb;clear hb ho0;obtain⟨Ao14,co14,rfl⟩:=sR HO860)|(refine cal_ 126 (some 24) Try.func126 #[.slice Ao14 t858.length co14] rfl (impl_outOf.calls kj3 _ _ t858 t861 _ ?_ (lR HO860) A10.out) ?_;exact rR HO860;rintro e w15 ⟨v862,rfl,ho0,hb⟩;refine⟨_,rfl,?_⟩;have HO863:=Aside0.mk (Kd.R_lower (nRR ho0 HO860) (bz HB));replace HO860:=aR HO860 (Kd.R_base ho0) hb;replace HB:=bs HB hb;clear hb ho0;obtain⟨Ao16,co16,rfl⟩:=sR HO863)|((with_reducible refine gate_callee (f:=79) rfl ?_);refine goesL_ (some 25) rfl rfl Try.func79 (by kernel_rfl) rfl #[.slice A0 l0.length c0,.slice A1 l1.length c1,.slice none 0 0,.slice Ao16 t861.length co16,.bool false] rfl (by(try simp only[List.map_toArray,List.map_cons,List.map_nil]);first|done|rfl|(simp only[List.length_drop,List.length_take];rfl)) ?_;(refine(impl_bestPit.calls_o _ _ l0 _ _ l1 none 0 ([]:List Bool) _ _ t861 false t864 _ ?side1 ?side2 ?side3 ?side4 ?side5 ?side6 ?side7 ?side8 A11.out).mono ?_);(case side1=>exact cb_ HR0 HB);(case side2=>exact HC0.out);(case side3=>exact cb_ HR1 HB);(case side4=>exact HC1.out);(case side5=>exact Kd.C_nil _ _);(case side6=>exact Nat.le_refl _);(case side7=>exact rR HO863);(case side8=>exact(lR HO863));rintro e w17 ⟨v865,rfl,ho0,hb⟩;refine⟨_,rfl,?_⟩;have HO866:=Aside0.mk (Kd.V_lower (Kd.V_mono (ok':=fun k_=>some k_≠(.slice Ao14 t858.length co14:Value).ownBlock∧some k_≠(.slice Ao16 t861.length co16:Value).ownBlock) ho0 (fun k_ hk_=>⟨(Kd.fresh' (Kd.R_lt (cR HO860)) k_ hk_),(Kd.fresh' (Kd.R_lt (cR HO863)) k_ hk_)⟩)) (bz HB));replace HO860:=bR HO860 hb;replace HO863:=bR HO863 hb;replace HB:=bs HB hb;clear hb ho0;obtain⟨Ao18,co18,rfl⟩:=sV HO866)|(refine cal_ 78 (some 26) Try.func78 #[.slice Ao18 t864.length co18] rfl (impl_listOf.calls kj3 _ _ t864 t867 _ ?_ (lV HO866) A12.out) ?_;exact rV HO866;rintro e w19 ⟨v868,rfl,ho0,hb⟩;refine⟨_,rfl,?_⟩;replace HO860:=bR HO860 hb;replace HO863:=bR HO863 hb;replace HO866:=Aside0.mk (Kd.V_elder' (cV HO866) (Kd.R_base ho0) hb);have HO869:=eRr ho0 (bz HB);replace HB:=bs HB hb;clear hb ho0))
   go_ret2
   exact⟨_,erx,by(with_reducible repeat(first|apply Kd.R_alloc|apply Kd.R_drewN|apply Kd.R_drew));exact HO869.out,cB HB⟩
mutual
def spec_clInside.l0:Nat→List (List Int)→List Bool→Int→Int→Option (List Int)
 |0,_,_,_,_=>none
 |k+1,x0,x5,x14,x15=>if x15<x14 then(if 0≤x15 then(if x15<(x0.length:Int)then(spec_clInside.l1 k x0 x5 x15 x14 x15 (rd_L1 x0 x15) ((rd_L1 x0 x15).length:Int) 0)else(none))else(none))else((spec_clList.f k x5).bind fun t873=>(some t873))
def spec_clInside.l1:Nat→List (List Int)→List Bool→Int→Int→Int→List Int→Int→Int→Option (List Int)
 |0,_,_,_,_,_,_,_,_=>none
 |k+1,x0,x5,x6,x14,x15,x21,x22,x23=>if x23<x22 then(if 0≤x23 then(if x23<(x21.length:Int)then(if 0≤x6 then(if x6<(x5.length:Int)then(if rdOf false x5 x6=true then(if 0≤(rd x21 x23)then(if(rd x21 x23)<(x5.length:Int)then(spec_clInside.l1 k x0 (x5.set (x6:Int).toNat (rdOf false x5 (rd x21 x23))) x6 x14 x15 x21 x22 (wrap64 (x23+1)))else(none))else(none))else(spec_clInside.l1 k x0 (x5.set (x6:Int).toNat false) x6 x14 x15 x21 x22 (wrap64 (x23+1))))else(none))else(none))else(none))else(none))else(spec_clInside.l0 k x0 x5 x14 (wrap64 (x15+1)))
end
def spec_clInside.f (k:Nat) (l0:List (List Int)) (l1:List Int):Option (List Int):=(spec_clMarks.f k (l0.length:Int) l1).bind fun t870=>(spec_clInside.l0 k l0 t870 (l0.length:Int) 0)
set_option maxHeartbeats 8000000 in
set_option maxRecDepth 100000 in
theorem spec_clInside.calls (k:Nat) (A0:Option Addr) (c0:Nat) (l0:List (List Int)) (A1:Option Addr) (c1:Nat) (l1:List Int) (r:List Int) (w:World) (hr0:Kd.C (Kd.slice 3 (Kd.int .i64)) w A0 l0.length l0) (hc0:l0.length≤c0) (hr1:Kd.C (Kd.int .i64) w A1 l1.length l1) (hc1:l1.length≤c1) (h:spec_clInside.f k l0 l1=some r):
  Calls Try.prog 83 #[.slice A0 l0.length c0,.slice A1 l1.length c1] w fun e w'=> ∃v0_:Value,e= .returned (v0_)∧Kd.R (Kd.int .i64) 3 w' w.heap.size (fun _=>True) v0_ r∧Below w.heap.size w w':=by
 have HR0:=Aside0.mk hr0;have HC0:=Aside0.mk hc0;clear hr0 hc0;have HR1:=Aside0.mk hr1;have HC1:=Aside0.mk hc1;clear hr1 hc1;have HB:=Aside0.mk (Below.refl w.heap.size w);have H:=h;clear h
 unfold spec_clInside.f at H
 replace H:=bnd H;obtain⟨t870,A3,H⟩:=H;have H':=Aside0.mk H;clear H
 go_enter Try.func83,Try.ntmps83
 go_wp2_with(first|(refine cal_ 135 (some 12) Try.func135 #[.int .i64 (l0.length:Int),.slice A1 l1.length c1] rfl (spec_clMarks.calls k (l0.length:Int) _ _ l1 t870 _ ?_ HC1.out A3.out) ?_;exact cC HR1;rintro e w4 ⟨v871,rfl,ho0,hb⟩;refine⟨_,rfl,?_⟩;have HO872:=eRr ho0 (bz HB);replace HB:=bs HB hb;clear hb ho0))
 go_loopg [15] k (fun kq v15 w'=> ∃(x5_1:List Bool) (x15_1:Int),v15= .int .i64 x15_1∧Aside0 (spec_clInside.l0 kq l0 x5_1 (l0.length:Int) x15_1=some r)∧Aside0 (kq≤k)∧Aside0 (Kd.R Kd.bool 4 w' w.heap.size (fun _=>True) v871 x5_1)∧Aside0 (Below w.heap.size w w'))
 case atStart=>exact⟨(t870),(0),eqx,H',⟨Nat.le_refl _⟩,mR HO872,⟨cB HB⟩⟩
 case round=>
  clear H';obtain⟨x5_1,x15_1,rfl,HA,HK1,HO_5,HB⟩:=hrel;obtain _|k1:=gk
  ·exact nz HA.out
  have H:=HA.out;clear HA;simp only[spec_clInside.l0]at H;replace H:=itb H;rcases H with⟨c5b0,H⟩|⟨c5b0,H⟩
  ·replace H:=itd H;obtain⟨c6b0,H⟩:=H;replace H:=itd H;obtain⟨c7b0,H⟩:=H;have H':=Aside0.mk H;clear H;have p876:0≤(x15_1:Int):=of_decide_eq_true asx;have q876:x15_1<(l0.length:Int):=of_decide_eq_true asx;obtain⟨ad876,A876_0,c876_0,e876,hx876_0,hl876_0,hi876_0⟩:=at_L1 HR0.out x15_1 p876 q876;cases e876;replace hx876_0:=hc_ HB hx876_0;have HR876_0:=Aside0.mk hi876_0;have HC876_0:=Aside0.mk hl876_0;clear hi876_0 hl876_0;replace p876:=eq_true p876;replace q876:=eq_true q876;go_wp2
   go_loopg [23] k1 (fun kq v23 w'=> ∃(x5_2:List Bool) (x23_2:Int),v23= .int .i64 x23_2∧Aside0 (spec_clInside.l1 kq l0 x5_2 x15_1 (l0.length:Int) x15_1 (rd_L1 l0 x15_1) ((rd_L1 l0 x15_1).length:Int) x23_2=some r)∧Aside0 (kq≤k1)∧Aside0 (Kd.R Kd.bool 4 w' w.heap.size (fun _=>True) v871 x5_2)∧Aside0 (Below w.heap.size w w'))
   case atStart=>exact⟨(x5_1),(0),eqx,H',⟨Nat.le_refl _⟩,mR HO_5,⟨cB HB⟩⟩
   case round=>
    clear H';obtain⟨x5_2,x23_2,rfl,HA,HK2,HO_5,HB⟩:=hrel;obtain _|k2:=gk
    ·exact nz HA.out
    have H:=HA.out;clear HA;simp only[spec_clInside.l1]at H;replace H:=itb H;rcases H with⟨c8b0,H⟩|⟨c8b0,H⟩
    ·replace H:=itd H;obtain⟨c9b0,H⟩:=H;replace H:=itd H;obtain⟨c10b0,H⟩:=H;replace H:=itd H;obtain⟨c11b0,H⟩:=H;replace H:=itd H;obtain⟨c12b0,H⟩:=H;obtain⟨bq13,hbq13⟩: ∃b_:Bool,b_=(rdOf false x5_2 x15_1):=⟨_,rfl⟩;replace H:(if bq13=true then(if 0≤(rd (rd_L1 l0 x15_1) x23_2)then(if(rd (rd_L1 l0 x15_1) x23_2)<(x5_2.length:Int)then(spec_clInside.l1 k2 l0 (x5_2.set (x15_1:Int).toNat (rdOf false x5_2 (rd (rd_L1 l0 x15_1) x23_2))) x15_1 (l0.length:Int) x15_1 (rd_L1 l0 x15_1) ((rd_L1 l0 x15_1).length:Int) (wrap64 (x23_2+1)))else(none))else(none))else(spec_clInside.l1 k2 l0 (x5_2.set (x15_1:Int).toNat false) x15_1 (l0.length:Int) x15_1 (rd_L1 l0 x15_1) ((rd_L1 l0 x15_1).length:Int) (wrap64 (x23_2+1))))=some r:=by rw[←hbq13]at H;exact H
     have Nbq13:=Aside0.mk hbq13;clear hbq13;replace H:=itt H;rcases H with⟨rfl,H⟩|⟨rfl,H⟩
     ·replace H:=itd H;obtain⟨c15b0,H⟩:=H;replace H:=itd H;obtain⟨c16b0,H⟩:=H;obtain⟨y880,Ny880⟩:=nmx ((x5_2.set (x15_1:Int).toNat (rdOf false x5_2 (rd (rd_L1 l0 x15_1) x23_2))):List Bool);rw[←Ny880.out]at H;have H':=Aside0.mk H;clear H;obtain⟨ad877,e877,hx877_0,p877,q877⟩:=ldi (i:=x23_2) HR876_0.out;cases e877;replace hx877_0:=hc_ HB hx877_0;obtain⟨Ao18,co18,rfl⟩:=sR HO_5;have p878:0≤(x15_1:Int):=of_decide_eq_true asx;have q878:x15_1<(x5_2.length:Int):=of_decide_eq_true asx;obtain⟨ad878,e878,hx878_0⟩:=Kd.at_bool (rR HO_5) x15_1 p878 q878
      (try rw[←Nbq13.out]at hx878_0)
      cases e878;replace p878:=eq_true p878;replace q878:=eq_true q878;have p879:0≤((rd (rd_L1 l0 x15_1) x23_2):Int):=of_decide_eq_true asx;have q879:(rd (rd_L1 l0 x15_1) x23_2)<(x5_2.length:Int):=of_decide_eq_true asx;obtain⟨ad879,e879,hx879_0⟩:=Kd.at_bool (rR HO_5) (rd (rd_L1 l0 x15_1) x23_2) p879 q879
      (try rw[←Nbq13.out]at hx879_0)
      obtain rfl:ad878=ad879:=(by injection e879);replace p879:=eq_true p879;replace q879:=eq_true q879;have p17:0≤(x15_1:Int):=of_decide_eq_true asx;have q17:(x15_1:Int)<((x5_2.length:Int):Int):=of_decide_eq_true asx;obtain⟨go17,co17,eo17,gb17,gl17,cl17,HG17⟩:=Kd.R_form HO_5.out (by omega)
      (first|cases eo17|(injection eo17 with ea_ en_ ec_;(first|subst ea_|(injection ea_ with ea_;subst ea_));subst ec_;clear en_))
      have GB17:=Aside0.mk gb17;have GG17:=Aside0.mk HG17;clear gb17 gl17 HG17
      (first|simp only[add_plain]at hx878_0|skip)
      (first|simp only[add_plain]at hx879_0|skip)
      obtain⟨hx17_0,hf17_0⟩:=Kd.R_celln false HO_5.out (x15_1:Int) p17 q17;replace p17:=eq_true p17;replace q17:=eq_true q17;have HP19:=Kd.R_putg HO_5.out (x15_1:Int) (rdOf false x5_2 (rd (rd_L1 l0 x15_1) x23_2))
      go_wp2_with(first|((with_reducible refine gate_store (t:=4) (p:=39) rfl ?_);refine store_event (t:=4) (p:=39) (v:=?vo_w20) (w1:=(wr.setCell ⟨go17,(x15_1:Int).toNat,none⟩ (.bool (rdOf false x5_2 (rd (rd_L1 l0 x15_1) x23_2))))) ?hg ?ho ?hn ?hr ?_;(case ho=>rfl);(case hg=>rfl);(case hn=>rfl);(case hr=>first|(go_simp;done)|(go_simp;rfl));intro w20 hw;have hg:wr.grownBy w20 (some go17):=(by rw[hw];exact HP19.2);have hp_:Kd.R Kd.bool 4 w20 w.heap.size (fun _=>True) (.slice (some ⟨go17,0,none⟩) x5_2.length co18) y880:=(by rw[hw,Ny880.out];exact HP19.1);clear HP19;replace HO_5:=Aside0.mk hp_;replace HB:=Aside0.mk (by rw[hw];exact below_set (HB.out) GB17.out:Below w.heap.size w w20);clear hg hw hp_))
      go_roundg k2
      case measure=>have:=HK1.out;have:=HK2.out;omega
      case rel=>exact⟨(y880),(wrap64 (x23_2+1)),eqx,H',⟨om2 HK1 HK2⟩,mR HO_5,⟨cB HB⟩⟩
     ·obtain⟨y881,Ny881⟩:=nmx ((x5_2.set (x15_1:Int).toNat false):List Bool);rw[←Ny881.out]at H;have H':=Aside0.mk H;clear H;obtain⟨ad877,e877,hx877_0,p877,q877⟩:=ldi (i:=x23_2) HR876_0.out;cases e877;replace hx877_0:=hc_ HB hx877_0;obtain⟨Ao22,co22,rfl⟩:=sR HO_5;have p878:0≤(x15_1:Int):=of_decide_eq_true asx;have q878:x15_1<(x5_2.length:Int):=of_decide_eq_true asx;obtain⟨ad878,e878,hx878_0⟩:=Kd.at_bool (rR HO_5) x15_1 p878 q878
      (try rw[←Nbq13.out]at hx878_0)
      cases e878;replace p878:=eq_true p878;replace q878:=eq_true q878;have p21:0≤(x15_1:Int):=of_decide_eq_true asx;have q21:(x15_1:Int)<((x5_2.length:Int):Int):=of_decide_eq_true asx;obtain⟨go21,co21,eo21,gb21,gl21,cl21,HG21⟩:=Kd.R_form HO_5.out (by omega)
      (first|cases eo21|(injection eo21 with ea_ en_ ec_;(first|subst ea_|(injection ea_ with ea_;subst ea_));subst ec_;clear en_))
      have GB21:=Aside0.mk gb21;have GG21:=Aside0.mk HG21;clear gb21 gl21 HG21
      (first|simp only[add_plain]at hx878_0|skip)
      obtain⟨hx21_0,hf21_0⟩:=Kd.R_celln false HO_5.out (x15_1:Int) p21 q21;replace p21:=eq_true p21;replace q21:=eq_true q21;have HP23:=Kd.R_putg HO_5.out (x15_1:Int) false
      go_wp2_with(first|((with_reducible refine gate_store (t:=4) (p:=39) rfl ?_);refine store_event (t:=4) (p:=39) (v:=?vo_w24) (w1:=(wr.setCell ⟨go21,(x15_1:Int).toNat,none⟩ (.bool false))) ?hg ?ho ?hn ?hr ?_;(case ho=>rfl);(case hg=>rfl);(case hn=>rfl);(case hr=>first|(go_simp;done)|(go_simp;rfl));intro w24 hw;have hg:wr.grownBy w24 (some go21):=(by rw[hw];exact HP23.2);have hp_:Kd.R Kd.bool 4 w24 w.heap.size (fun _=>True) (.slice (some ⟨go21,0,none⟩) x5_2.length co22) y881:=(by rw[hw,Ny881.out];exact HP23.1);clear HP23;replace HO_5:=Aside0.mk hp_;replace HB:=Aside0.mk (by rw[hw];exact below_set (HB.out) GB21.out:Below w.heap.size w w24);clear hg hw hp_))
      go_roundg k2
      case measure=>have:=HK1.out;have:=HK2.out;omega
      case rel=>exact⟨(y881),(wrap64 (x23_2+1)),eqx,H',⟨om2 HK1 HK2⟩,mR HO_5,⟨cB HB⟩⟩
    ·have H':=Aside0.mk H;clear H;go_wp2
     go_roundg k2
     case measure=>have:=HK1.out;have:=HK2.out;omega
     case rel=>exact⟨(x5_2),(wrap64 (x15_1+1)),eqx,H',⟨om2 HK1 HK2⟩,mR HO_5,⟨cB HB⟩⟩
  ·replace H:=bnd H;obtain⟨t873,A25,H⟩:=H;obtain rfl:=Option.some.inj H;obtain⟨Ao26,co26,rfl⟩:=sR HO_5
   go_wp2_with(first|(refine cal_ 136 (some 43) Try.func136 #[.slice Ao26 x5_1.length co26] rfl (spec_clList.calls k1 _ _ x5_1 t873 _ ?_ (lR HO_5) A25.out) ?_;exact rR HO_5;rintro e w27 ⟨v874,rfl,ho0,hb⟩;refine⟨_,rfl,?_⟩;replace HO_5:=bR HO_5 hb;have HO875:=eRr ho0 (bz HB);replace HB:=bs HB hb;clear hb ho0))
   go_ret
   exact⟨_,erx,by(with_reducible repeat(first|apply Kd.R_alloc|apply Kd.R_drewN|apply Kd.R_drew));exact HO875.out,cB HB⟩
def spec_PitInside.f (k:Nat) (l0:List (List Int)) (l1:List Int) (l2:List Int):Option (List Int×Bool):=(spec_paList.f k l0 l1 l2).bind fun t882=>(if t882=true then((spec_clInside.f k l0 l2).bind fun t883=>((spec_paOnly.f k l0 l1 t883).bind fun t886=>(some (t886,true))))else(some (([]:List Int),false)))
set_option maxHeartbeats 8000000 in
set_option maxRecDepth 100000 in
theorem spec_PitInside.calls (k:Nat) (A0:Option Addr) (c0:Nat) (l0:List (List Int)) (A1:Option Addr) (c1:Nat) (l1:List Int) (A2:Option Addr) (c2:Nat) (l2:List Int) (r1:List Int) (r2:Bool) (w:World) (hr0:Kd.C (Kd.slice 3 (Kd.int .i64)) w A0 l0.length l0) (hc0:l0.length≤c0) (hr1:Kd.C (Kd.int .i64) w A1 l1.length l1) (hc1:l1.length≤c1) (hr2:Kd.C (Kd.int .i64) w A2 l2.length l2) (hc2:l2.length≤c2) (h:spec_PitInside.f k l0 l1 l2=some (r1,r2)):
  Calls Try.prog 66 #[.slice A0 l0.length c0,.slice A1 l1.length c1,.slice A2 l2.length c2] w fun e w'=> ∃v0_:Value,e= .returned (.tuple #[v0_,.bool r2])∧Kd.R (Kd.int .i64) 3 w' w.heap.size (fun _=>True) v0_ r1∧Below w.heap.size w w':=by
 have HR0:=Aside0.mk hr0;have HC0:=Aside0.mk hc0;clear hr0 hc0;have HR1:=Aside0.mk hr1;have HC1:=Aside0.mk hc1;clear hr1 hc1;have HR2:=Aside0.mk hr2;have HC2:=Aside0.mk hc2;clear hr2 hc2;have HB:=Aside0.mk (Below.refl w.heap.size w);have H:=h;clear h
 unfold spec_PitInside.f at H
 replace H:=bnd H;obtain⟨t882,A4,H⟩:=H;replace H:=itt H;rcases H with⟨rfl,H⟩|⟨rfl,H⟩
 ·replace H:=bnd H;obtain⟨t883,A6,H⟩:=H;replace H:=bnd H;obtain⟨t886,A7,H⟩:=H;simp only[Option.some.injEq,Prod.mk.injEq]at H;obtain⟨rfl,rfl⟩:=H
  go_enter Try.func66,Try.ntmps66
  go_wp2_with(first|(refine cal_ 124 (some 11) Try.func124 #[.slice A0 l0.length c0,.slice A1 l1.length c1,.slice A2 l2.length c2] rfl (spec_paList.calls k _ _ l0 _ _ l1 _ _ l2 true _ ?_ HC0.out ?_ HC1.out ?_ HC2.out A4.out) ?_;exact cC HR0;exact cC HR1;exact cC HR2;rintro e w' ⟨rfl,⟨nd,rfl⟩⟩;refine⟨_,rfl,?_⟩)|(refine cal_ 83 (some 17) Try.func83 #[.slice A0 l0.length c0,.slice A2 l2.length c2] rfl (spec_clInside.calls k _ _ l0 _ _ l2 t883 _ ?_ HC0.out ?_ HC2.out A6.out) ?_;exact cC HR0;exact cC HR2;rintro e w8 ⟨v884,rfl,ho0,hb⟩;refine⟨_,rfl,?_⟩;have HO885:=eRr ho0 (bz HB);replace HB:=bs HB hb;clear hb ho0;obtain⟨Ao9,co9,rfl⟩:=sR HO885)|(refine cal_ 82 (some 18) Try.func82 #[.slice A0 l0.length c0,.slice A1 l1.length c1,.slice Ao9 t883.length co9] rfl (spec_paOnly.calls k _ _ l0 _ _ l1 _ _ t883 t886 _ ?_ HC0.out ?_ HC1.out ?_ (lR HO885) A7.out) ?_;exact cb_ HR0 HB;exact cb_ HR1 HB;exact rR HO885;rintro e w10 ⟨v887,rfl,ho0,hb⟩;refine⟨_,rfl,?_⟩;have HO888:=Aside0.mk (Kd.R_lower (nRR ho0 HO885) (bz HB));replace HO885:=aR HO885 (Kd.R_base ho0) hb;replace HB:=bs HB hb;clear hb ho0))
  go_ret2
  exact⟨_,erx,by(with_reducible repeat(first|apply Kd.R_alloc|apply Kd.R_drewN|apply Kd.R_drew));exact Kd.R_mono HO888.out (fun _ hk=>trivial),cB HB⟩
 ·simp only[Option.some.injEq,Prod.mk.injEq]at H;obtain⟨rfl,rfl⟩:=H
  go_enter Try.func66,Try.ntmps66
  go_wp2_with(first|(refine cal_ 124 (some 11) Try.func124 #[.slice A0 l0.length c0,.slice A1 l1.length c1,.slice A2 l2.length c2] rfl (spec_paList.calls k _ _ l0 _ _ l1 _ _ l2 false _ ?_ HC0.out ?_ HC1.out ?_ HC2.out A4.out) ?_;exact cC HR0;exact cC HR1;exact cC HR2;rintro e w' ⟨rfl,⟨nd,rfl⟩⟩;refine⟨_,rfl,?_⟩))
  go_ret2
  exact⟨_,erx,nlx,cB HB⟩
def impl_LeastClosure.j0:Nat→List (List Int)→List Int→Bool→Option (List Int×Bool)
 |0,_,_,_=>none
 |k+1,x0,x1,x15=>if x15=true then(some (([]:List Int),false))else((impl_closureOf.f k x0 x1).bind fun t891=>((impl_listOf.f k t891).bind fun t894=>(some (t894,true))))
def impl_LeastClosure.f (k:Nat) (l0:List (List Int)) (l1:List Int):Option (List Int×Bool):=(impl_AreArcs.f k l0).bind fun t889=>(if t889=true then((impl_areBlocks.f k l1 (l0.length:Int)).bind fun t890=>(impl_LeastClosure.j0 k l0 l1 (!t890)))else(impl_LeastClosure.j0 k l0 l1 true))
set_option maxHeartbeats 8000000 in
set_option maxRecDepth 100000 in
theorem impl_LeastClosure.calls (k:Nat) (A0:Option Addr) (c0:Nat) (l0:List (List Int)) (A1:Option Addr) (c1:Nat) (l1:List Int) (r1:List Int) (r2:Bool) (w:World) (hr0:Kd.C (Kd.slice 3 (Kd.int .i64)) w A0 l0.length l0) (hc0:l0.length≤c0) (hr1:Kd.C (Kd.int .i64) w A1 l1.length l1) (hc1:l1.length≤c1) (h:impl_LeastClosure.f k l0 l1=some (r1,r2)):
  Calls Try.prog 67 #[.slice A0 l0.length c0,.slice A1 l1.length c1] w fun e w'=> ∃v0_:Value,e= .returned (.tuple #[v0_,.bool r2])∧Kd.R (Kd.int .i64) 3 w' w.heap.size (fun _=>True) v0_ r1∧Below w.heap.size w w':=by
 have HR0:=Aside0.mk hr0;have HC0:=Aside0.mk hc0;clear hr0 hc0;have HR1:=Aside0.mk hr1;have HC1:=Aside0.mk hc1;clear hr1 hc1;have HB:=Aside0.mk (Below.refl w.heap.size w);have H:=h;clear h
 unfold impl_LeastClosure.f at H
 have HC3:=Aside0.mk H;clear H
 go_enter Try.func67,Try.ntmps67
 go_upto_region 1 with(fail)
 go_cut [15] (fun v15 wc=> ∃(kq:Nat) (x15_2:Bool),v15= .bool x15_2∧Aside0 (impl_LeastClosure.j0 kq l0 l1 x15_2=some (r1,r2))∧Aside0 (kq≤k)∧Aside0 (Below w.heap.size w wc))
 case first=>
  have H:=HC3.out;clear HC3;replace H:=bnd H;obtain⟨t889,A4,H⟩:=H;replace H:=itt H;rcases H with⟨rfl,H⟩|⟨rfl,H⟩
  ·replace H:=bnd H;obtain⟨t890,A6,H⟩:=H;have H':=Aside0.mk H;clear H
   go_wp2_with(first|(refine cal_ 115 (some 7) Try.func115 #[.slice A0 l0.length c0] rfl (impl_AreArcs.calls k _ _ l0 true _ ?_ HC0.out A4.out) ?_;exact cb_ HR0 HB;rintro e w' ⟨rfl,⟨nd,rfl⟩⟩;refine⟨_,rfl,?_⟩)|(go_at_call 104;(with_reducible refine(impl_areBlocks.calls k _ _ l1 (l0.length:Int) t890 _ ?_ HC1.out A6.out).mono ?_);exact cb_ HR1 HB;rintro e w' ⟨rfl,⟨nd,rfl⟩⟩))
   go_meet
   case rel=>exact⟨_,(!t890),eqx,H',⟨omx⟩,⟨cB HB⟩⟩
  ·have H':=Aside0.mk H;clear H
   go_wp2_with(first|(refine cal_ 115 (some 7) Try.func115 #[.slice A0 l0.length c0] rfl (impl_AreArcs.calls k _ _ l0 false _ ?_ HC0.out A4.out) ?_;exact cb_ HR0 HB;rintro e w' ⟨rfl,⟨nd,rfl⟩⟩;refine⟨_,rfl,?_⟩))
   go_meet
   case rel=>exact⟨_,(true),eqx,H',⟨omx⟩,⟨cB HB⟩⟩
 case rest=>
  clear HC3;obtain⟨kq,x15_2,rfl,HA,HJ2,HB⟩:=hcut;obtain _|kj2:=kq
  ·exact nz HA.out
  have H:=HA.out;clear HA;simp only[impl_LeastClosure.j0]at H;replace H:=itt H;rcases H with⟨rfl,H⟩|⟨rfl,H⟩
  ·simp only[Option.some.injEq,Prod.mk.injEq]at H;obtain⟨rfl,rfl⟩:=H;go_wp2
   go_ret2
   exact⟨_,erx,nlx,cB HB⟩
  ·replace H:=bnd H;obtain⟨t891,A8,H⟩:=H;replace H:=bnd H;obtain⟨t894,A9,H⟩:=H;simp only[Option.some.injEq,Prod.mk.injEq]at H;obtain⟨rfl,rfl⟩:=H
   go_wp2_with(first|(refine cal_ 123 (some 18) Try.func123 #[.slice A0 l0.length c0,.slice A1 l1.length c1] rfl (impl_closureOf.calls kj2 _ _ l0 _ _ l1 t891 _ ?_ HC0.out ?_ HC1.out A8.out) ?_;exact cb_ HR0 HB;exact cb_ HR1 HB;rintro e w10 ⟨v892,rfl,ho0,hb⟩;refine⟨_,rfl,?_⟩;have HO893:=eRr ho0 (bz HB);replace HB:=bs HB hb;clear hb ho0;obtain⟨Ao11,co11,rfl⟩:=sR HO893)|(refine cal_ 78 (some 19) Try.func78 #[.slice Ao11 t891.length co11] rfl (impl_listOf.calls kj2 _ _ t891 t894 _ ?_ (lR HO893) A9.out) ?_;exact rR HO893;rintro e w12 ⟨v895,rfl,ho0,hb⟩;refine⟨_,rfl,?_⟩;replace HO893:=bR HO893 hb;have HO896:=eRr ho0 (bz HB);replace HB:=bs HB hb;clear hb ho0))
   go_ret2
   exact⟨_,erx,by(with_reducible repeat(first|apply Kd.R_alloc|apply Kd.R_drewN|apply Kd.R_drew));exact HO896.out,cB HB⟩
end Go.Proofs.Ytlkppimbbbdmbaa.PFnForced
