-- Printed by a changed copy of the printer; impl.bestPit and spec.paFind by contracts walked by hand
import Derived.Test.YtlkppimbbbdmbaaPFnForcedx0
import Derived.Test.YtlkppimbbbdmbaaPFnForcedx1
import Derived.Test.YtlkppimbbbdmbaaPFnForcedx2
import Derived.Test.YtlkppimbbbdmbaaPFnForcedx4
namespace Go.Proofs.Ytlkppimbbbdmbaa.PFnForced
open Go.RowKit Go.Proofs.YtlkppimbbbdmbaaW.PrintWords Go.Proofs.YtlkppimbbbdmbaaW.PrintLast Go.Proofs.YtlkppimbbbdmbaaW.PrintMore
attribute [local go_sem] max2_int min2_int max_two min_two max_three min_three max_four min_four
set_option linter.unusedVariables false
set_option linter.unusedSimpArgs false
def laws_qIn.l0:Nat→List Int→List Int→Int→Int→Option (Bool)
 |0,_,_,_,_=>none
 |k+1,x1,x7,x8,x9=>if x9<x8 then(if 0≤x9 then(if x9<(x7.length:Int)then((laws_qHas.f k x1 (rd x7 x9)).bind fun t316=>(if t316=true then(laws_qIn.l0 k x1 x7 x8 (wrap64 (x9+1)))else(some false)))else(none))else(none))else(some true)
def laws_qIn.f (k:Nat) (l0:List Int) (l1:List Int):Option (Bool):=laws_qIn.l0 k l1 l0 (l0.length:Int) 0
set_option maxHeartbeats 8000000 in
set_option maxRecDepth 100000 in
theorem laws_qIn.calls (k:Nat) (A0:Option Addr) (c0:Nat) (l0:List Int) (A1:Option Addr) (c1:Nat) (l1:List Int) (r:Bool) (w:World) (hr0:Kd.C (Kd.int .i64) w A0 l0.length l0) (hc0:l0.length≤c0) (hr1:Kd.C (Kd.int .i64) w A1 l1.length l1) (hc1:l1.length≤c1) (h:laws_qIn.f k l0 l1=some r):
  Calls Try.prog 39 #[.slice A0 l0.length c0,.slice A1 l1.length c1] w fun e w'=>e= .returned (.bool r)∧Drawn0 w w':=by
 have HR0:=Aside0.mk hr0;have HC0:=Aside0.mk hc0;clear hr0 hc0;have HR1:=Aside0.mk hr1;have HC1:=Aside0.mk hc1;clear hr1 hc1;have H:=h;clear h
 unfold laws_qIn.f at H
 have H':=Aside0.mk H;clear H
 go_enter Try.func39,Try.ntmps39
 go_wp2
 go_loopg [9] k (fun kq v9 w'=> ∃(x9_1:Int),v9= .int .i64 x9_1∧Aside0 (laws_qIn.l0 kq l1 l0 (l0.length:Int) x9_1=some r)∧Aside0 (kq≤k)∧Drawn0 w w')
 case atStart=>exact⟨(0),eqx,H',⟨Nat.le_refl _⟩,d0x⟩
 case round=>
  clear H';obtain⟨x9_1,rfl,HA,HK1,⟨m1,rfl⟩⟩:=hrel;obtain _|k1:=gk
  ·exact nz HA.out
  have H:=HA.out;clear HA;simp only[laws_qIn.l0]at H;replace H:=itb H;rcases H with⟨c3b0,H⟩|⟨c3b0,H⟩
  ·replace H:=itd H;obtain⟨c4b0,H⟩:=H;replace H:=itd H;obtain⟨c5b0,H⟩:=H;replace H:=bnd H;obtain⟨t316,A6,H⟩:=H;replace H:=itt H;rcases H with⟨rfl,H⟩|⟨rfl,H⟩
   ·have H':=Aside0.mk H;clear H;obtain⟨ad315,e315,hx315_0,p315,q315⟩:=ldi (i:=x9_1) HR0.out;cases e315
    go_wp2_with(first|(refine cal_ 18 (some 15) Try.func18 #[.slice A1 l1.length c1,.int .i64 (rd l0 x9_1)] rfl (laws_qHas.calls k1 _ _ l1 (rd l0 x9_1) true _ ?_ HC1.out A6.out) ?_;exact cC HR1;rintro e w' ⟨rfl,⟨nd,rfl⟩⟩;refine⟨_,rfl,?_⟩))
    go_roundg k1
    case measure=>have:=HK1.out;omega
    case rel=>exact⟨(wrap64 (x9_1+1)),eqx,H',⟨by have:=HK1.out;omega⟩,d0x⟩
   ·obtain rfl:=Option.some.inj H;obtain⟨ad315,e315,hx315_0,p315,q315⟩:=ldi (i:=x9_1) HR0.out;cases e315
    go_wp2_with(first|(refine cal_ 18 (some 15) Try.func18 #[.slice A1 l1.length c1,.int .i64 (rd l0 x9_1)] rfl (laws_qHas.calls k1 _ _ l1 (rd l0 x9_1) false _ ?_ HC1.out A6.out) ?_;exact cC HR1;rintro e w' ⟨rfl,⟨nd,rfl⟩⟩;refine⟨_,rfl,?_⟩))
    go_ret
    exact⟨eqx,d0x⟩
  ·obtain rfl:=Option.some.inj H;go_wp2
   go_ret
   exact⟨eqx,d0x⟩
def impl_valueSum.l0:Nat→List Int→Int→List Int→Int→Int→Option (Int)
 |0,_,_,_,_,_=>none
 |k+1,x0,x5,x8,x9,x10=>if x10<x9 then(if 0≤x10 then(if x10<(x8.length:Int)then(if 0≤(rd x8 x10)then(if(rd x8 x10)<(x0.length:Int)then(impl_valueSum.l0 k x0 (wrap64 (x5+(rd x0 (rd x8 x10)))) x8 x9 (wrap64 (x10+1)))else(none))else(none))else(none))else(none))else(some x5)
def impl_valueSum.f (k:Nat) (l0:List Int) (l1:List Int):Option (Int):=impl_valueSum.l0 k l0 0 l1 (l1.length:Int) 0
set_option maxHeartbeats 8000000 in
set_option maxRecDepth 100000 in
theorem impl_valueSum.calls (k:Nat) (A0:Option Addr) (c0:Nat) (l0:List Int) (A1:Option Addr) (c1:Nat) (l1:List Int) (r:Int) (w:World) (hr0:Kd.C (Kd.int .i64) w A0 l0.length l0) (hc0:l0.length≤c0) (hr1:Kd.C (Kd.int .i64) w A1 l1.length l1) (hc1:l1.length≤c1) (h:impl_valueSum.f k l0 l1=some r):
  Calls Try.prog 77 #[.slice A0 l0.length c0,.slice A1 l1.length c1] w fun e w'=>e= .returned (.int .i64 r)∧Drawn0 w w':=by
 have HR0:=Aside0.mk hr0;have HC0:=Aside0.mk hc0;clear hr0 hc0;have HR1:=Aside0.mk hr1;have HC1:=Aside0.mk hc1;clear hr1 hc1;have H:=h;clear h
 unfold impl_valueSum.f at H
 have H':=Aside0.mk H;clear H
 go_enter Try.func77,Try.ntmps77
 go_wp2
 go_loopg [5,10] k (fun kq v5 v10 w'=> ∃(x5_1:Int) (x10_1:Int),v5= .int .i64 x5_1∧v10= .int .i64 x10_1∧Aside0 (impl_valueSum.l0 kq l0 x5_1 l1 (l1.length:Int) x10_1=some r)∧Aside0 (kq≤k)∧Drawn0 w w')
 case atStart=>exact⟨(0),(0),eqx,eqx,H',⟨Nat.le_refl _⟩,d0x⟩
 case round=>
  clear H';obtain⟨x5_1,x10_1,rfl,rfl,HA,HK1,⟨m1,rfl⟩⟩:=hrel;obtain _|k1:=gk
  ·exact nz HA.out
  have H:=HA.out;clear HA;simp only[impl_valueSum.l0]at H;replace H:=itb H;rcases H with⟨c3b0,H⟩|⟨c3b0,H⟩
  ·replace H:=itd H;obtain⟨c4b0,H⟩:=H;replace H:=itd H;obtain⟨c5b0,H⟩:=H;replace H:=itd H;obtain⟨c6b0,H⟩:=H;replace H:=itd H;obtain⟨c7b0,H⟩:=H;have H':=Aside0.mk H;clear H;obtain⟨ad317,e317,hx317_0,p317,q317⟩:=ldi (i:=x10_1) HR1.out;cases e317;obtain⟨ad318,e318,hx318_0,p318,q318⟩:=ldi (i:=(rd l1 x10_1)) HR0.out;cases e318;go_wp2
   go_roundg k1
   case measure=>have:=HK1.out;omega
   case rel=>exact⟨(wrap64 (x5_1+(rd l0 (rd l1 x10_1)))),(wrap64 (x10_1+1)),eqx,eqx,H',⟨by have:=HK1.out;omega⟩,d0x⟩
  ·obtain rfl:=Option.some.inj H;go_wp2
   go_ret
   exact⟨eqx,d0x⟩
def impl_BestValue.f (k:Nat) (l0:List (List Int)) (l1:List Int):Option (Int×Bool):=(impl_areValued.f k l0 l1).bind fun t319=>(if t319=true then((impl_bestPit.f0 l0 l1).bind fun t320=>((impl_listOf.f k t320).bind fun t323=>((impl_valueSum.f k l1 t323).bind fun t326=>(some (t326,true)))))else(some (0,false)))
set_option maxHeartbeats 8000000 in
set_option maxRecDepth 100000 in
theorem impl_BestValue.calls (k:Nat) (A0:Option Addr) (c0:Nat) (l0:List (List Int)) (A1:Option Addr) (c1:Nat) (l1:List Int) (r1:Int) (r2:Bool) (w:World) (hr0:Kd.C (Kd.slice 3 (Kd.int .i64)) w A0 l0.length l0) (hc0:l0.length≤c0) (hr1:Kd.C (Kd.int .i64) w A1 l1.length l1) (hc1:l1.length≤c1) (h:impl_BestValue.f k l0 l1=some (r1,r2)):
  Calls Try.prog 43 #[.slice A0 l0.length c0,.slice A1 l1.length c1] w fun e w'=>e= .returned (.tuple #[.int .i64 r1,.bool r2])∧Below w.heap.size w w':=by
 have HR0:=Aside0.mk hr0;have HC0:=Aside0.mk hc0;clear hr0 hc0;have HR1:=Aside0.mk hr1;have HC1:=Aside0.mk hc1;clear hr1 hc1;have HB:=Aside0.mk (Below.refl w.heap.size w);have H:=h;clear h
 unfold impl_BestValue.f at H
 replace H:=bnd H;obtain⟨t319,A3,H⟩:=H;replace H:=itt H;rcases H with⟨rfl,H⟩|⟨rfl,H⟩
 ·replace H:=bnd H;obtain⟨t320,A5,H⟩:=H;replace H:=bnd H;obtain⟨t323,A6,H⟩:=H;replace H:=bnd H;obtain⟨t326,A7,H⟩:=H;simp only[Option.some.injEq,Prod.mk.injEq]at H;obtain⟨rfl,rfl⟩:=H
  go_enter Try.func43,Try.ntmps43
  go_wp2_with(first|(refine cal_ 73 (some 8) Try.func73 #[.slice A0 l0.length c0,.slice A1 l1.length c1] rfl (impl_areValued.calls k _ _ l0 _ _ l1 true _ ?_ HC0.out ?_ HC1.out A3.out) ?_;exact cC HR0;exact cC HR1;rintro e w' ⟨rfl,⟨nd,rfl⟩⟩;refine⟨_,rfl,?_⟩)|((with_reducible refine gate_callee (f:=79) rfl ?_);refine goesL_ (some 13) rfl rfl Try.func79 (by kernel_rfl) rfl #[.slice A0 l0.length c0,.slice A1 l1.length c1,.slice none 0 0,.slice none 0 0,.bool false] rfl (by(try simp only[List.map_toArray,List.map_cons,List.map_nil]);first|done|rfl|(simp only[List.length_drop,List.length_take];rfl)) ?_;(refine(impl_bestPit.calls_0 _ _ l0 _ _ l1 none 0 ([]:List Bool) none 0 ([]:List Bool) false t320 _ ?side1 ?side2 ?side3 ?side4 ?side5 ?side6 ?side7 ?side8 A5.out).mono ?_);(case side1=>exact cC HR0);(case side2=>exact HC0.out);(case side3=>exact cC HR1);(case side4=>exact HC1.out);(case side5=>exact Kd.C_nil _ _);(case side6=>exact Nat.le_refl _);(case side7=>exact Kd.C_nil _ _);(case side8=>exact Nat.le_refl _);rintro e w8 ⟨v321,rfl,ho0,hb⟩;refine⟨_,rfl,?_⟩;have HO322:=Aside0.mk (Kd.V_lower (Kd.V_mono (ok':=fun k_=>True) ho0 (fun k_ hk_=>trivial)) (bz HB));replace HB:=bs HB hb;clear hb ho0;obtain⟨Ao9,co9,rfl⟩:=sV HO322)|(refine cal_ 78 (some 14) Try.func78 #[.slice Ao9 t320.length co9] rfl (impl_listOf.calls k _ _ t320 t323 _ ?_ (lV HO322) A6.out) ?_;exact rV HO322;rintro e w10 ⟨v324,rfl,ho0,hb⟩;refine⟨_,rfl,?_⟩;replace HO322:=Aside0.mk (Kd.V_elder' (cV HO322) (Kd.R_base ho0) hb);have HO325:=eRr ho0 (bz HB);replace HB:=bs HB hb;clear hb ho0;obtain⟨Ao11,co11,rfl⟩:=sR HO325)|(refine cal_ 77 (some 15) Try.func77 #[.slice A1 l1.length c1,.slice Ao11 t323.length co11] rfl (impl_valueSum.calls k _ _ l1 _ _ t323 t326 _ ?_ HC1.out ?_ (lR HO325) A7.out) ?_;exact cb_ HR1 HB;exact rR HO325;rintro e w' ⟨rfl,⟨nd,rfl⟩⟩;refine⟨_,rfl,?_⟩))
  go_ret2
  exact⟨erx,cB HB⟩
 ·simp only[Option.some.injEq,Prod.mk.injEq]at H;obtain⟨rfl,rfl⟩:=H
  go_enter Try.func43,Try.ntmps43
  go_wp2_with(first|(refine cal_ 73 (some 8) Try.func73 #[.slice A0 l0.length c0,.slice A1 l1.length c1] rfl (impl_areValued.calls k _ _ l0 _ _ l1 false _ ?_ HC0.out ?_ HC1.out A3.out) ?_;exact cC HR0;exact cC HR1;rintro e w' ⟨rfl,⟨nd,rfl⟩⟩;refine⟨_,rfl,?_⟩))
  go_ret2
  exact⟨erx,cB HB⟩
def impl_SumOfValues.f (k:Nat) (l0:List Int) (l1:List Int):Option (Int×Bool):=(impl_goodValues.f k l0).bind fun t327=>(if t327=true then((impl_areBlocks.f k l1 (l0.length:Int)).bind fun t328=>(if t328=true then((impl_valueSum.f k l0 l1).bind fun t329=>(some (t329,true)))else(some (0,false))))else(some (0,false)))
set_option maxHeartbeats 8000000 in
set_option maxRecDepth 100000 in
theorem impl_SumOfValues.calls (k:Nat) (A0:Option Addr) (c0:Nat) (l0:List Int) (A1:Option Addr) (c1:Nat) (l1:List Int) (r1:Int) (r2:Bool) (w:World) (hr0:Kd.C (Kd.int .i64) w A0 l0.length l0) (hc0:l0.length≤c0) (hr1:Kd.C (Kd.int .i64) w A1 l1.length l1) (hc1:l1.length≤c1) (h:impl_SumOfValues.f k l0 l1=some (r1,r2)):
  Calls Try.prog 51 #[.slice A0 l0.length c0,.slice A1 l1.length c1] w fun e w'=>e= .returned (.tuple #[.int .i64 r1,.bool r2])∧Drawn0 w w':=by
 have HR0:=Aside0.mk hr0;have HC0:=Aside0.mk hc0;clear hr0 hc0;have HR1:=Aside0.mk hr1;have HC1:=Aside0.mk hc1;clear hr1 hc1;have H:=h;clear h
 unfold impl_SumOfValues.f at H
 replace H:=bnd H;obtain⟨t327,A3,H⟩:=H;replace H:=itt H;rcases H with⟨rfl,H⟩|⟨rfl,H⟩
 ·replace H:=bnd H;obtain⟨t328,A5,H⟩:=H;replace H:=itt H;rcases H with⟨rfl,H⟩|⟨rfl,H⟩
  ·replace H:=bnd H;obtain⟨t329,A7,H⟩:=H;simp only[Option.some.injEq,Prod.mk.injEq]at H;obtain⟨rfl,rfl⟩:=H
   go_enter Try.func51,Try.ntmps51
   go_wp2_with(first|(refine cal_ 114 (some 7) Try.func114 #[.slice A0 l0.length c0] rfl (impl_goodValues.calls k _ _ l0 true _ ?_ HC0.out A3.out) ?_;exact cC HR0;rintro e w' ⟨rfl,⟨nd,rfl⟩⟩;refine⟨_,rfl,?_⟩)|(go_at_call 104;(with_reducible refine(impl_areBlocks.calls k _ _ l1 (l0.length:Int) true _ ?_ HC1.out A5.out).mono ?_);exact cC HR1;rintro e w' ⟨rfl,⟨nd,rfl⟩⟩)|(refine cal_ 77 (some 18) Try.func77 #[.slice A0 l0.length c0,.slice A1 l1.length c1] rfl (impl_valueSum.calls k _ _ l0 _ _ l1 t329 _ ?_ HC0.out ?_ HC1.out A7.out) ?_;exact cC HR0;exact cC HR1;rintro e w' ⟨rfl,⟨nd,rfl⟩⟩;refine⟨_,rfl,?_⟩))
   go_ret2
   exact⟨eqx,d0x⟩
  ·simp only[Option.some.injEq,Prod.mk.injEq]at H;obtain⟨rfl,rfl⟩:=H
   go_enter Try.func51,Try.ntmps51
   go_wp2_with(first|(refine cal_ 114 (some 7) Try.func114 #[.slice A0 l0.length c0] rfl (impl_goodValues.calls k _ _ l0 true _ ?_ HC0.out A3.out) ?_;exact cC HR0;rintro e w' ⟨rfl,⟨nd,rfl⟩⟩;refine⟨_,rfl,?_⟩)|(go_at_call 104;(with_reducible refine(impl_areBlocks.calls k _ _ l1 (l0.length:Int) false _ ?_ HC1.out A5.out).mono ?_);exact cC HR1;rintro e w' ⟨rfl,⟨nd,rfl⟩⟩))
   go_ret2
   exact⟨eqx,d0x⟩
 ·simp only[Option.some.injEq,Prod.mk.injEq]at H;obtain⟨rfl,rfl⟩:=H
  go_enter Try.func51,Try.ntmps51
  go_wp2_with(first|(refine cal_ 114 (some 7) Try.func114 #[.slice A0 l0.length c0] rfl (impl_goodValues.calls k _ _ l0 false _ ?_ HC0.out A3.out) ?_;exact cC HR0;rintro e w' ⟨rfl,⟨nd,rfl⟩⟩;refine⟨_,rfl,?_⟩))
  go_ret2
  exact⟨eqx,d0x⟩
def impl_allIn.l0:Nat→List Bool→List Int→Int→Int→Option (Bool)
 |0,_,_,_,_=>none
 |k+1,x0,x7,x8,x9=>if x9<x8 then(if 0≤x9 then(if x9<(x7.length:Int)then(if 0≤(rd x7 x9)then(if(rd x7 x9)<(x0.length:Int)then(if(rdOf false x0 (rd x7 x9)=true)then(impl_allIn.l0 k x0 x7 x8 (wrap64 (x9+1)))else(some false))else(none))else(none))else(none))else(none))else(some true)
def impl_allIn.f (k:Nat) (l0:List Bool) (l1:List Int):Option (Bool):=impl_allIn.l0 k l0 l1 (l1.length:Int) 0
set_option maxHeartbeats 8000000 in
set_option maxRecDepth 100000 in
theorem impl_allIn.calls (k:Nat) (A0:Option Addr) (c0:Nat) (l0:List Bool) (A1:Option Addr) (c1:Nat) (l1:List Int) (r:Bool) (w:World) (hr0:Kd.C Kd.bool w A0 l0.length l0) (hc0:l0.length≤c0) (hr1:Kd.C (Kd.int .i64) w A1 l1.length l1) (hc1:l1.length≤c1) (h:impl_allIn.f k l0 l1=some r):
  Calls Try.prog 105 #[.slice A0 l0.length c0,.slice A1 l1.length c1] w fun e w'=>e= .returned (.bool r)∧Drawn0 w w':=by
 have HR0:=Aside0.mk hr0;have HC0:=Aside0.mk hc0;clear hr0 hc0;have HR1:=Aside0.mk hr1;have HC1:=Aside0.mk hc1;clear hr1 hc1;have H:=h;clear h
 unfold impl_allIn.f at H
 have H':=Aside0.mk H;clear H
 go_enter Try.func105,Try.ntmps105
 go_wp2
 go_loopg [9] k (fun kq v9 w'=> ∃(x9_1:Int),v9= .int .i64 x9_1∧Aside0 (impl_allIn.l0 kq l0 l1 (l1.length:Int) x9_1=some r)∧Aside0 (kq≤k)∧Drawn0 w w')
 case atStart=>exact⟨(0),eqx,H',⟨Nat.le_refl _⟩,d0x⟩
 case round=>
  clear H';obtain⟨x9_1,rfl,HA,HK1,⟨m1,rfl⟩⟩:=hrel;obtain _|k1:=gk
  ·exact nz HA.out
  have H:=HA.out;clear HA;simp only[impl_allIn.l0]at H;replace H:=itb H;rcases H with⟨c3b0,H⟩|⟨c3b0,H⟩
  ·replace H:=itd H;obtain⟨c4b0,H⟩:=H;replace H:=itd H;obtain⟨c5b0,H⟩:=H;replace H:=itd H;obtain⟨c6b0,H⟩:=H;replace H:=itd H;obtain⟨c7b0,H⟩:=H;obtain⟨bq8,hbq8⟩: ∃b_:Bool,b_=(rdOf false l0 (rd l1 x9_1)):=⟨_,rfl⟩;replace H:(if(bq8=true)then(impl_allIn.l0 k1 l0 l1 (l1.length:Int) (wrap64 (x9_1+1)))else(some false))=some r:=by rw[←hbq8]at H;exact H
   have Nbq8:=Aside0.mk hbq8;clear hbq8;replace H:=itt H;rcases H with⟨rfl,H⟩|⟨rfl,H⟩
   ·have H':=Aside0.mk H;clear H;obtain⟨ad330,e330,hx330_0,p330,q330⟩:=ldi (i:=x9_1) HR1.out;cases e330;have p331:0≤((rd l1 x9_1):Int):=of_decide_eq_true asx;have q331:(rd l1 x9_1)<(l0.length:Int):=of_decide_eq_true asx;obtain⟨ad331,e331,hx331_0⟩:=Kd.at_bool HR0.out (rd l1 x9_1) p331 q331
    (try rw[←Nbq8.out]at hx331_0)
    cases e331;replace p331:=eq_true p331;replace q331:=eq_true q331;go_wp2
    go_roundg k1
    case measure=>have:=HK1.out;omega
    case rel=>exact⟨(wrap64 (x9_1+1)),eqx,H',⟨by have:=HK1.out;omega⟩,d0x⟩
   ·obtain rfl:=Option.some.inj H;obtain⟨ad330,e330,hx330_0,p330,q330⟩:=ldi (i:=x9_1) HR1.out;cases e330;have p331:0≤((rd l1 x9_1):Int):=of_decide_eq_true asx;have q331:(rd l1 x9_1)<(l0.length:Int):=of_decide_eq_true asx;obtain⟨ad331,e331,hx331_0⟩:=Kd.at_bool HR0.out (rd l1 x9_1) p331 q331
    (try rw[←Nbq8.out]at hx331_0)
    cases e331;replace p331:=eq_true p331;replace q331:=eq_true q331;go_wp2
    go_ret
    exact⟨eqx,d0x⟩
  ·obtain rfl:=Option.some.inj H;go_wp2
   go_ret
   exact⟨eqx,d0x⟩
def impl_markOf.l0:Nat→List Bool→List Int→Int→Int→Option (List Bool)
 |0,_,_,_,_=>none
 |k+1,x5,x10,x11,x12=>if x12<x11 then(if 0≤x12 then(if x12<(x10.length:Int)then(if 0≤(rd x10 x12)then(if(rd x10 x12)<(x5.length:Int)then(impl_markOf.l0 k (x5.set ((rd x10 x12):Int).toNat true) x10 x11 (wrap64 (x12+1)))else(none))else(none))else(none))else(none))else(some x5)
def impl_markOf.f (k:Nat) (a0:Int) (l1:List Int):Option (List Bool):=if 0≤a0 then(if(a0:Int).toNat≤281474976710656 then(impl_markOf.l0 k (List.replicate (a0:Int).toNat false) l1 (l1.length:Int) 0)else(none))else(none)
set_option maxHeartbeats 8000000 in
set_option maxRecDepth 100000 in
theorem impl_markOf.calls (k:Nat) (a0:Int) (A1:Option Addr) (c1:Nat) (l1:List Int) (r:List Bool) (w:World) (hr1:Kd.C (Kd.int .i64) w A1 l1.length l1) (hc1:l1.length≤c1) (h:impl_markOf.f k a0 l1=some r):
  Calls Try.prog 106 #[.int .i64 a0,.slice A1 l1.length c1] w fun e w'=> ∃v0_:Value,e= .returned (v0_)∧Kd.R Kd.bool 4 w' w.heap.size (fun _=>True) v0_ r∧Below w.heap.size w w':=by
 have HR1:=Aside0.mk hr1;have HC1:=Aside0.mk hc1;clear hr1 hc1;have HB:=Aside0.mk (Below.refl w.heap.size w);have H:=h;clear h
 unfold impl_markOf.f at H
 replace H:=itp H;rcases H with⟨c3,H⟩|⟨c3,H⟩
 ·have c3b0:=eq_true c3;have c3b1:=decide_eq_true c3;clear c3;replace H:=ite_ H;obtain⟨c4b0,c4b1,H⟩:=H;obtain⟨y332,Ny332⟩:=nmx ((List.replicate (a0:Int).toNat false):List Bool);rw[←Ny332.out]at H;have H':=Aside0.mk H;clear H
  go_enter Try.func106,Try.ntmps106
  go_wp2_with(first|((with_reducible refine gate_dst (N:=9) rfl ?_);refine Kd.R_make Kd.bool _ 4 rfl (N:=9) rfl 80 _ _ rfl a0 rfl rfl Try.underlying80 (.bool false) 1 info4 rfl (by decide) (by omega) false (ok:=fun _=>True) (okp:=fun _=>True) rfl (fun _ hk=>hk) trivial (of_decide_eq_true asx) (Nat.le_trans (Nat.mul_le_mul_right _ (of_decide_eq_true asx:a0.toNat≤281474976710656)) (by omega)) (Below.refl _ _) (Nat.le_refl _) ?_;intro v333 w5 ho6 hb hg_ hnew_;clear hg_ hnew_;(first|rw[←Ny332.out]at ho6|(simp only[Int.reduceToNat]at ho6;rw[←Ny332.out]at ho6));have HO334:=eRr ho6 (bz HB);replace HB:=bs HB hb;clear hb ho6))
  go_loopg [12] k (fun kq v12 w'=> ∃(x5_1:List Bool) (x12_1:Int),v12= .int .i64 x12_1∧Aside0 (impl_markOf.l0 kq x5_1 l1 (l1.length:Int) x12_1=some r)∧Aside0 (kq≤k)∧Aside0 (Kd.R Kd.bool 4 w' w.heap.size (fun _=>True) v333 x5_1)∧Aside0 (Below w.heap.size w w'))
  case atStart=>exact⟨(y332),(0),eqx,H',⟨Nat.le_refl _⟩,mR HO334,⟨cB HB⟩⟩
  case round=>
   clear H';obtain⟨x5_1,x12_1,rfl,HA,HK1,HO_5,HB⟩:=hrel;obtain _|k1:=gk
   ·exact nz HA.out
   have H:=HA.out;clear HA;simp only[impl_markOf.l0]at H;replace H:=itb H;rcases H with⟨c7b0,H⟩|⟨c7b0,H⟩
   ·replace H:=itd H;obtain⟨c8b0,H⟩:=H;replace H:=itd H;obtain⟨c9b0,H⟩:=H;replace H:=itd H;obtain⟨c10b0,H⟩:=H;replace H:=itd H;obtain⟨c11b0,H⟩:=H;obtain⟨y336,Ny336⟩:=nmx ((x5_1.set ((rd l1 x12_1):Int).toNat true):List Bool);rw[←Ny336.out]at H;have H':=Aside0.mk H;clear H;obtain⟨ad335,e335,hx335_0,p335,q335⟩:=ldi (i:=x12_1) HR1.out;cases e335;replace hx335_0:=hc_ HB hx335_0;have p12:0≤((rd l1 x12_1):Int):=of_decide_eq_true asx;have q12:((rd l1 x12_1):Int)<((x5_1.length:Int):Int):=of_decide_eq_true asx;obtain⟨go12,co12,eo12,gb12,gl12,cl12,HG12⟩:=Kd.R_form HO_5.out (by omega)
    (first|cases eo12|(injection eo12 with ea_ en_ ec_;(first|subst ea_|(injection ea_ with ea_;subst ea_));subst ec_;clear en_))
    have GB12:=Aside0.mk gb12;have GG12:=Aside0.mk HG12;clear gb12 gl12 HG12;obtain⟨hx12_0,hf12_0⟩:=Kd.R_celln false HO_5.out ((rd l1 x12_1):Int) p12 q12;replace p12:=eq_true p12;replace q12:=eq_true q12;have HP13:=Kd.R_putg HO_5.out ((rd l1 x12_1):Int) true
    go_wp2_with(first|((with_reducible refine gate_store (t:=4) (p:=18) rfl ?_);refine store_event (t:=4) (p:=18) (v:=?vo_w14) (w1:=(wr.setCell ⟨go12,((rd l1 x12_1):Int).toNat,none⟩ (.bool true))) ?hg ?ho ?hn ?hr ?_;(case ho=>rfl);(case hg=>rfl);(case hn=>rfl);(case hr=>first|(go_simp;done)|(go_simp;rfl));intro w14 hw;have hg:wr.grownBy w14 (some go12):=(by rw[hw];exact HP13.2);have hp_:Kd.R Kd.bool 4 w14 w.heap.size (fun _=>True) (.slice (some ⟨go12,0,none⟩) x5_1.length co12) y336:=(by rw[hw,Ny336.out];exact HP13.1);clear HP13;replace HO_5:=Aside0.mk hp_;replace HB:=Aside0.mk (by rw[hw];exact below_set (HB.out) GB12.out:Below w.heap.size w w14);clear hg hw hp_))
    go_roundg k1
    case measure=>have:=HK1.out;omega
    case rel=>exact⟨(y336),(wrap64 (x12_1+1)),eqx,H',⟨by have:=HK1.out;omega⟩,mR HO_5,⟨cB HB⟩⟩
   ·obtain rfl:=Option.some.inj H;go_wp2
    go_ret
    exact⟨_,erx,by(with_reducible repeat(first|apply Kd.R_alloc|apply Kd.R_drewN|apply Kd.R_drew));exact HO_5.out,cB HB⟩
 ·exact absurd H (by simp)
def impl_isClosure.l0:Nat→List (List Int)→List Bool→List Int→Int→Int→Option (Bool)
 |0,_,_,_,_,_=>none
 |k+1,x0,x5,x12,x13,x14=>if x14<x13 then(if 0≤x14 then(if x14<(x12.length:Int)then(if 0≤(rd x12 x14)then(if(rd x12 x14)<(x0.length:Int)then((impl_allIn.f k x5 (rd_L1 x0 (rd x12 x14))).bind fun t342=>(if t342=true then(impl_isClosure.l0 k x0 x5 x12 x13 (wrap64 (x14+1)))else(some false)))else(none))else(none))else(none))else(none))else(some true)
def impl_isClosure.f (k:Nat) (l0:List (List Int)) (l1:List Int):Option (Bool):=(impl_markOf.f k (l0.length:Int) l1).bind fun t337=>(impl_isClosure.l0 k l0 t337 l1 (l1.length:Int) 0)
set_option maxHeartbeats 8000000 in
set_option maxRecDepth 100000 in
theorem impl_isClosure.calls (k:Nat) (A0:Option Addr) (c0:Nat) (l0:List (List Int)) (A1:Option Addr) (c1:Nat) (l1:List Int) (r:Bool) (w:World) (hr0:Kd.C (Kd.slice 3 (Kd.int .i64)) w A0 l0.length l0) (hc0:l0.length≤c0) (hr1:Kd.C (Kd.int .i64) w A1 l1.length l1) (hc1:l1.length≤c1) (h:impl_isClosure.f k l0 l1=some r):
  Calls Try.prog 116 #[.slice A0 l0.length c0,.slice A1 l1.length c1] w fun e w'=>e= .returned (.bool r)∧Below w.heap.size w w':=by
 have HR0:=Aside0.mk hr0;have HC0:=Aside0.mk hc0;clear hr0 hc0;have HR1:=Aside0.mk hr1;have HC1:=Aside0.mk hc1;clear hr1 hc1;have HB:=Aside0.mk (Below.refl w.heap.size w);have H:=h;clear h
 unfold impl_isClosure.f at H
 replace H:=bnd H;obtain⟨t337,A3,H⟩:=H;have H':=Aside0.mk H;clear H
 go_enter Try.func116,Try.ntmps116
 go_wp2_with(first|(refine cal_ 106 (some 11) Try.func106 #[.int .i64 (l0.length:Int),.slice A1 l1.length c1] rfl (impl_markOf.calls k (l0.length:Int) _ _ l1 t337 _ ?_ HC1.out A3.out) ?_;exact cC HR1;rintro e w4 ⟨v338,rfl,ho0,hb⟩;refine⟨_,rfl,?_⟩;have HO339:=eRr ho0 (bz HB);replace HB:=bs HB hb;clear hb ho0))
 go_loopg [14] k (fun kq v14 w'=> ∃(x14_1:Int),v14= .int .i64 x14_1∧Aside0 (impl_isClosure.l0 kq l0 t337 l1 (l1.length:Int) x14_1=some r)∧Aside0 (kq≤k)∧Aside0 (Kd.R Kd.bool 4 w' w.heap.size (fun _=>True) v338 t337)∧Aside0 (Below w.heap.size w w'))
 case atStart=>exact⟨(0),eqx,H',⟨Nat.le_refl _⟩,mR HO339,⟨cB HB⟩⟩
 case round=>
  clear H';obtain⟨x14_1,rfl,HA,HK1,HO_5,HB⟩:=hrel;obtain _|k1:=gk
  ·exact nz HA.out
  have H:=HA.out;clear HA;simp only[impl_isClosure.l0]at H;replace H:=itb H;rcases H with⟨c5b0,H⟩|⟨c5b0,H⟩
  ·replace H:=itd H;obtain⟨c6b0,H⟩:=H;replace H:=itd H;obtain⟨c7b0,H⟩:=H;replace H:=itd H;obtain⟨c8b0,H⟩:=H;replace H:=itd H;obtain⟨c9b0,H⟩:=H;replace H:=bnd H;obtain⟨t342,A10,H⟩:=H;replace H:=itt H;rcases H with⟨rfl,H⟩|⟨rfl,H⟩
   ·have H':=Aside0.mk H;clear H;obtain⟨ad340,e340,hx340_0,p340,q340⟩:=ldi (i:=x14_1) HR1.out;cases e340;replace hx340_0:=hc_ HB hx340_0;have p341:0≤((rd l1 x14_1):Int):=of_decide_eq_true asx;have q341:(rd l1 x14_1)<(l0.length:Int):=of_decide_eq_true asx;obtain⟨ad341,A341_0,c341_0,e341,hx341_0,hl341_0,hi341_0⟩:=at_L1 HR0.out (rd l1 x14_1) p341 q341;cases e341;replace hx341_0:=hc_ HB hx341_0;have HR341_0:=Aside0.mk hi341_0;have HC341_0:=Aside0.mk hl341_0;clear hi341_0 hl341_0;replace p341:=eq_true p341;replace q341:=eq_true q341;obtain⟨Ao12,co12,rfl⟩:=sR HO_5
    go_wp2_with(first|(refine cal_ 105 (some 23) Try.func105 #[.slice Ao12 t337.length co12,.slice A341_0 (rd_L1 l0 (rd l1 x14_1)).length c341_0] rfl (impl_allIn.calls k1 _ _ t337 _ _ (rd_L1 l0 (rd l1 x14_1)) true _ ?_ (lR HO_5) ?_ HC341_0.out A10.out) ?_;exact rR HO_5;exact cb_ HR341_0 HB;rintro e w' ⟨rfl,⟨nd,rfl⟩⟩;refine⟨_,rfl,?_⟩))
    go_roundg k1
    case measure=>have:=HK1.out;omega
    case rel=>exact⟨(wrap64 (x14_1+1)),eqx,H',⟨by have:=HK1.out;omega⟩,mR HO_5,⟨cB HB⟩⟩
   ·obtain rfl:=Option.some.inj H;obtain⟨ad340,e340,hx340_0,p340,q340⟩:=ldi (i:=x14_1) HR1.out;cases e340;replace hx340_0:=hc_ HB hx340_0;have p341:0≤((rd l1 x14_1):Int):=of_decide_eq_true asx;have q341:(rd l1 x14_1)<(l0.length:Int):=of_decide_eq_true asx;obtain⟨ad341,A341_0,c341_0,e341,hx341_0,hl341_0,hi341_0⟩:=at_L1 HR0.out (rd l1 x14_1) p341 q341;cases e341;replace hx341_0:=hc_ HB hx341_0;have HR341_0:=Aside0.mk hi341_0;have HC341_0:=Aside0.mk hl341_0;clear hi341_0 hl341_0;replace p341:=eq_true p341;replace q341:=eq_true q341;obtain⟨Ao13,co13,rfl⟩:=sR HO_5
    go_wp2_with(first|(refine cal_ 105 (some 23) Try.func105 #[.slice Ao13 t337.length co13,.slice A341_0 (rd_L1 l0 (rd l1 x14_1)).length c341_0] rfl (impl_allIn.calls k1 _ _ t337 _ _ (rd_L1 l0 (rd l1 x14_1)) false _ ?_ (lR HO_5) ?_ HC341_0.out A10.out) ?_;exact rR HO_5;exact cb_ HR341_0 HB;rintro e w' ⟨rfl,⟨nd,rfl⟩⟩;refine⟨_,rfl,?_⟩))
    go_ret
    exact⟨erx,cB HB⟩
  ·obtain rfl:=Option.some.inj H;go_wp2
   go_ret
   exact⟨erx,cB HB⟩
end Go.Proofs.Ytlkppimbbbdmbaa.PFnForced
