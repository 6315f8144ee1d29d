-- Printed by a changed copy of the printer; impl.bestPit and spec.paFind by contracts walked by hand
import Derived.Test.YtlkppimbbbdmbaaPFnFactorsx0
import Derived.Test.YtlkppimbbbdmbaaPFnFactorsx1
import Derived.Test.YtlkppimbbbdmbaaPFnFactorsx2
namespace Go.Proofs.Ytlkppimbbbdmbaa.PFnFactors
open Go.RowKit Go.Proofs.YtlkppimbbbdmbaaW.PrintWords Go.Proofs.YtlkppimbbbdmbaaW.PrintLast Go.Proofs.YtlkppimbbbdmbaaW.PrintMore
attribute [local go_sem] max2_int min2_int max_two min_two max_three min_three max_four min_four
set_option linter.unusedVariables false
set_option linter.unusedSimpArgs false
mutual
def impl_AreGains.j0:Nat→List Int→List Int→Int→Bool→Option (Bool)
 |0,_,_,_,_=>none
 |k+1,x0,x1,x2,x25=>if x25=true then(some false)else(impl_AreGains.l0 k x0 x1 x2 0)
def impl_AreGains.l0:Nat→List Int→List Int→Int→Int→Option (Bool)
 |0,_,_,_,_=>none
 |k+1,x0,x1,x26,x27=>if x27<x26 then(if 0≤x27 then(if x27<(x0.length:Int)then(if(rd x0 x27)<0 then(some false)else(if(rd x0 x27)>10000 then(some false)else(if x27<(x1.length:Int)then(if(rd x1 x27)<0 then(some false)else(if(rd x1 x27)>400000 then(some false)else(impl_AreGains.l0 k x0 x1 x26 (wrap64 (x27+1)))))else(none))))else(none))else(none))else(some true)
end
def impl_AreGains.f (k:Nat) (l0:List Int) (l1:List Int) (a2:Int):Option (Bool):=if a2<1 then(impl_AreGains.j0 k l0 l1 a2 true)else(if a2>120 then(impl_AreGains.j0 k l0 l1 a2 true)else(if(l0.length:Int)=a2 then(impl_AreGains.j0 k l0 l1 a2 ((l1.length:Int) !=a2))else(impl_AreGains.j0 k l0 l1 a2 true)))
set_option maxHeartbeats 8000000 in
set_option maxRecDepth 100000 in
theorem impl_AreGains.calls (k:Nat) (A0:Option Addr) (c0:Nat) (l0:List Int) (A1:Option Addr) (c1:Nat) (l1:List Int) (a2:Int) (r:Bool) (w:World) (hr0:Kd.C (Kd.int .i64) w A0 l0.length l0) (hc0:l0.length≤c0) (hr1:Kd.C (Kd.int .i64) w A1 l1.length l1) (hc1:l1.length≤c1) (h:impl_AreGains.f k l0 l1 a2=some r):
  Calls Try.prog 61 #[.slice A0 l0.length c0,.slice A1 l1.length c1,.int .i64 a2] w fun e w'=>e= .returned (.bool r)∧Drawn0 w w':=by
 have HR0:=Aside0.mk hr0;have HC0:=Aside0.mk hc0;clear hr0 hc0;have HR1:=Aside0.mk hr1;have HC1:=Aside0.mk hc1;clear hr1 hc1;have H:=h;clear h
 unfold impl_AreGains.f at H
 have HC4:=Aside0.mk H;clear H
 go_enter Try.func61,Try.ntmps61
 go_upto_region 1 with(fail)
 go_cut [25] (fun v25 wc=> ∃(kq:Nat) (x25_3:Bool),v25= .bool x25_3∧Aside0 (impl_AreGains.j0 kq l0 l1 a2 x25_3=some r)∧Aside0 (kq≤k)∧Drawn0 w wc)
 case first=>
  have H:=HC4.out;clear HC4;replace H:=itb H;rcases H with⟨c5b0,H⟩|⟨c5b0,H⟩
  ·(first|rw[c5b0]|(simp only[i64_w,i32_w];rw[c5b0])|skip)
   have H':=Aside0.mk H;clear H;go_wp2
   go_meet
   case rel=>exact⟨_,(true),eqx,H',⟨omx⟩,d0x⟩
  ·(first|rw[c5b0]|(simp only[i64_w,i32_w];rw[c5b0])|skip)
   replace H:=itb H;rcases H with⟨c6b0,H⟩|⟨c6b0,H⟩
   ·have H':=Aside0.mk H;clear H;go_wp2
    go_meet
    case rel=>exact⟨_,(true),eqx,H',⟨omx⟩,d0x⟩
   ·replace H:=itp H;rcases H with⟨c7,H⟩|⟨c7,H⟩
    ·have c7b0:((l0.length:Int)==a2)=true:=beq_iff_eq.mpr c7;have c7b1:((l0.length:Int) !=a2)=false:=bne_eq_false_iff_eq.mpr c7;clear c7;have H':=Aside0.mk H;clear H;go_wp2
     go_meet
     case rel=>exact⟨_,(((l1.length:Int) !=a2)),eqx,H',⟨omx⟩,d0x⟩
    ·have c7b0:((l0.length:Int)==a2)=false:=beq_eq_false_iff_ne.mpr c7;have c7b1:((l0.length:Int) !=a2)=true:=bne_iff_ne.mpr c7;have H':=Aside0.mk H;clear H;go_wp2
     go_meet
     case rel=>exact⟨_,(true),eqx,H',⟨omx⟩,d0x⟩
 case rest=>
  clear HC4;obtain⟨kq,x25_3,rfl,HA,HJ3,⟨mc3,rfl⟩⟩:=hcut;obtain _|kj3:=kq
  ·exact nz HA.out
  have H:=HA.out;clear HA;simp only[impl_AreGains.j0]at H;replace H:=itt H;rcases H with⟨rfl,H⟩|⟨rfl,H⟩
  ·obtain rfl:=Option.some.inj H;go_wp2
   go_ret
   exact⟨eqx,d0x⟩
  ·have H':=Aside0.mk H;clear H;go_wp2
   go_loopg [27] kj3 (fun kq v27 w'=> ∃(x27_2:Int),v27= .int .i64 x27_2∧Aside0 (impl_AreGains.l0 kq l0 l1 a2 x27_2=some r)∧Aside0 (kq≤kj3)∧Drawn0 w w')
   case atStart=>exact⟨(0),eqx,H',⟨Nat.le_refl _⟩,d0x⟩
   case round=>
    clear H';obtain⟨x27_2,rfl,HA,HK2,⟨m2,rfl⟩⟩:=hrel;obtain _|k2:=gk
    ·exact nz HA.out
    have H:=HA.out;clear HA;simp only[impl_AreGains.l0]at H;replace H:=itb H;rcases H with⟨c9b0,H⟩|⟨c9b0,H⟩
    ·replace H:=itd H;obtain⟨c10b0,H⟩:=H;replace H:=itd H;obtain⟨c11b0,H⟩:=H;replace H:=itb H;rcases H with⟨c12b0,H⟩|⟨c12b0,H⟩
     ·obtain rfl:=Option.some.inj H;obtain⟨ad229,e229,hx229_0,p229,q229⟩:=ldi (i:=x27_2) HR0.out;cases e229;go_wp2
      go_ret
      exact⟨eqx,d0x⟩
     ·replace H:=itb H;rcases H with⟨c13b0,H⟩|⟨c13b0,H⟩
      ·obtain rfl:=Option.some.inj H;obtain⟨ad229,e229,hx229_0,p229,q229⟩:=ldi (i:=x27_2) HR0.out;cases e229;obtain⟨ad230,e230,hx230_0,p230,q230⟩:=ldi (i:=x27_2) HR0.out;obtain rfl:ad229=ad230:=(by injection e230);go_wp2
       go_ret
       exact⟨eqx,d0x⟩
      ·replace H:=itd H;obtain⟨c14b0,H⟩:=H;replace H:=itb H;rcases H with⟨c15b0,H⟩|⟨c15b0,H⟩
       ·obtain rfl:=Option.some.inj H;obtain⟨ad229,e229,hx229_0,p229,q229⟩:=ldi (i:=x27_2) HR0.out;cases e229;obtain⟨ad230,e230,hx230_0,p230,q230⟩:=ldi (i:=x27_2) HR0.out;obtain rfl:ad229=ad230:=(by injection e230);obtain⟨ad231,e231,hx231_0,p231,q231⟩:=ldi (i:=x27_2) HR1.out;cases e231;go_wp2
        go_ret
        exact⟨eqx,d0x⟩
       ·replace H:=itb H;rcases H with⟨c16b0,H⟩|⟨c16b0,H⟩
        ·obtain rfl:=Option.some.inj H;obtain⟨ad229,e229,hx229_0,p229,q229⟩:=ldi (i:=x27_2) HR0.out;cases e229;obtain⟨ad230,e230,hx230_0,p230,q230⟩:=ldi (i:=x27_2) HR0.out;obtain rfl:ad229=ad230:=(by injection e230);obtain⟨ad231,e231,hx231_0,p231,q231⟩:=ldi (i:=x27_2) HR1.out;cases e231;obtain⟨ad232,e232,hx232_0,p232,q232⟩:=ldi (i:=x27_2) HR1.out;obtain rfl:ad231=ad232:=(by injection e232);go_wp2
         go_ret
         exact⟨eqx,d0x⟩
        ·have H':=Aside0.mk H;clear H;obtain⟨ad229,e229,hx229_0,p229,q229⟩:=ldi (i:=x27_2) HR0.out;cases e229;obtain⟨ad230,e230,hx230_0,p230,q230⟩:=ldi (i:=x27_2) HR0.out;obtain rfl:ad229=ad230:=(by injection e230);obtain⟨ad231,e231,hx231_0,p231,q231⟩:=ldi (i:=x27_2) HR1.out;cases e231;obtain⟨ad232,e232,hx232_0,p232,q232⟩:=ldi (i:=x27_2) HR1.out;obtain rfl:ad231=ad232:=(by injection e232);go_wp2
         go_roundg k2
         case measure=>have:=HJ3.out;have:=HK2.out;omega
         case rel=>exact⟨(wrap64 (x27_2+1)),eqx,H',⟨om2 HJ3 HK2⟩,d0x⟩
    ·obtain rfl:=Option.some.inj H;go_wp2
     go_ret
     exact⟨eqx,d0x⟩
def impl_isFactor.f (a0:Int):Option (Bool):=if a0≥0 then(some (decide (a0≤60)))else(some false)
set_option maxHeartbeats 8000000 in
set_option maxRecDepth 100000 in
theorem impl_isFactor.calls (a0:Int) (r:Bool) (w:World) (h:impl_isFactor.f a0=some r):
  Calls Try.prog 119 #[.int .i64 a0] w fun e w'=>e= .returned (.bool r)∧Drawn0 w w':=by
 have H:=h;clear h
 unfold impl_isFactor.f at H
 replace H:=itb H;rcases H with⟨c2b0,H⟩|⟨c2b0,H⟩
 ·obtain rfl:=Option.some.inj H
  go_enter Try.func119,Try.ntmps119
  go_wp2
  go_ret
  exact⟨eqx,d0x⟩
 ·obtain rfl:=Option.some.inj H
  go_enter Try.func119,Try.ntmps119
  go_wp2
  go_ret
  exact⟨eqx,d0x⟩
def impl_areNested.f (k:Nat) (l0:List (List Int)) (l1:List Int) (l2:List Int) (a3:Int):Option (Bool):=(impl_AreArcs.f k l0).bind fun t233=>(if t233=true then((impl_AreGains.f k l1 l2 (l0.length:Int)).bind fun t234=>(if t234=true then((impl_isFactor.f a3).bind fun t235=>(some t235))else(some false)))else(some false))
set_option maxHeartbeats 8000000 in
set_option maxRecDepth 100000 in
theorem impl_areNested.calls (k:Nat) (A0:Option Addr) (c0:Nat) (l0:List (List Int)) (A1:Option Addr) (c1:Nat) (l1:List Int) (A2:Option Addr) (c2:Nat) (l2:List Int) (a3:Int) (r:Bool) (w:World) (hr0:Kd.C (Kd.slice 3 (Kd.int .i64)) w A0 l0.length l0) (hc0:l0.length≤c0) (hr1:Kd.C (Kd.int .i64) w A1 l1.length l1) (hc1:l1.length≤c1) (hr2:Kd.C (Kd.int .i64) w A2 l2.length l2) (hc2:l2.length≤c2) (h:impl_areNested.f k l0 l1 l2 a3=some r):
  Calls Try.prog 90 #[.slice A0 l0.length c0,.slice A1 l1.length c1,.slice A2 l2.length c2,.int .i64 a3] w fun e w'=>e= .returned (.bool r)∧Drawn0 w w':=by
 have HR0:=Aside0.mk hr0;have HC0:=Aside0.mk hc0;clear hr0 hc0;have HR1:=Aside0.mk hr1;have HC1:=Aside0.mk hc1;clear hr1 hc1;have HR2:=Aside0.mk hr2;have HC2:=Aside0.mk hc2;clear hr2 hc2;have H:=h;clear h
 unfold impl_areNested.f at H
 replace H:=bnd H;obtain⟨t233,A5,H⟩:=H;replace H:=itt H;rcases H with⟨rfl,H⟩|⟨rfl,H⟩
 ·replace H:=bnd H;obtain⟨t234,A7,H⟩:=H;replace H:=itt H;rcases H with⟨rfl,H⟩|⟨rfl,H⟩
  ·replace H:=bnd H;obtain⟨t235,A9,H⟩:=H;obtain rfl:=Option.some.inj H
   go_enter Try.func90,Try.ntmps90
   go_wp2_with(first|(refine cal_ 115 (some 10) Try.func115 #[.slice A0 l0.length c0] rfl (impl_AreArcs.calls k _ _ l0 true _ ?_ HC0.out A5.out) ?_;exact cC HR0;rintro e w' ⟨rfl,⟨nd,rfl⟩⟩;refine⟨_,rfl,?_⟩)|(go_at_call 61;(with_reducible refine(impl_AreGains.calls k _ _ l1 _ _ l2 (l0.length:Int) true _ ?_ HC1.out ?_ HC2.out A7.out).mono ?_);exact cC HR1;exact cC HR2;rintro e w' ⟨rfl,⟨nd,rfl⟩⟩)|(go_at_call 119;(with_reducible refine(impl_isFactor.calls a3 t235 _ A9.out).mono ?_);rintro e w' ⟨rfl,⟨nd,rfl⟩⟩))
   go_ret
   exact⟨eqx,d0x⟩
  ·obtain rfl:=Option.some.inj H
   go_enter Try.func90,Try.ntmps90
   go_wp2_with(first|(refine cal_ 115 (some 10) Try.func115 #[.slice A0 l0.length c0] rfl (impl_AreArcs.calls k _ _ l0 true _ ?_ HC0.out A5.out) ?_;exact cC HR0;rintro e w' ⟨rfl,⟨nd,rfl⟩⟩;refine⟨_,rfl,?_⟩)|(go_at_call 61;(with_reducible refine(impl_AreGains.calls k _ _ l1 _ _ l2 (l0.length:Int) false _ ?_ HC1.out ?_ HC2.out A7.out).mono ?_);exact cC HR1;exact cC HR2;rintro e w' ⟨rfl,⟨nd,rfl⟩⟩))
   go_ret
   exact⟨eqx,d0x⟩
 ·obtain rfl:=Option.some.inj H
  go_enter Try.func90,Try.ntmps90
  go_wp2_with(first|(refine cal_ 115 (some 10) Try.func115 #[.slice A0 l0.length c0] rfl (impl_AreArcs.calls k _ _ l0 false _ ?_ HC0.out A5.out) ?_;exact cC HR0;rintro e w' ⟨rfl,⟨nd,rfl⟩⟩;refine⟨_,rfl,?_⟩))
  go_ret
  exact⟨eqx,d0x⟩
def impl_factorValues.l0:Nat→List Int→Int→List Int→List Int→Int→Int→Option (List Int)
 |0,_,_,_,_,_,_=>none
 |k+1,x1,x2,x7,x11,x12,x13=>if x13<x12 then(if 0≤x13 then(if x13<(x11.length:Int)then(if x13<(x1.length:Int)then(if x7.length<17592186044416 then(impl_factorValues.l0 k x1 x2 (x7++[wrap64 ((wrap64 ((rd x11 x13)*x2))-(rd x1 x13))]) x11 x12 (wrap64 (x13+1)))else(none))else(none))else(none))else(none))else(some x7)
def impl_factorValues.f (k:Nat) (l0:List Int) (l1:List Int) (a2:Int):Option (List Int):=impl_factorValues.l0 k l1 a2 (([]:List Int)) l0 (l0.length:Int) 0
set_option maxHeartbeats 8000000 in
set_option maxRecDepth 100000 in
theorem impl_factorValues.calls (k:Nat) (A0:Option Addr) (c0:Nat) (l0:List Int) (A1:Option Addr) (c1:Nat) (l1:List Int) (a2:Int) (r:List Int) (w:World) (hr0:Kd.C (Kd.int .i64) w A0 l0.length l0) (hc0:l0.length≤c0) (hr1:Kd.C (Kd.int .i64) w A1 l1.length l1) (hc1:l1.length≤c1) (h:impl_factorValues.f k l0 l1 a2=some r):
  Calls Try.prog 96 #[.slice A0 l0.length c0,.slice A1 l1.length c1,.int .i64 a2] w fun e w'=> ∃v0_:Value,e= .returned (v0_)∧Kd.R (Kd.int .i64) 3 w' w.heap.size (fun _=>True) v0_ r∧Below w.heap.size w w':=by
 have HR0:=Aside0.mk hr0;have HC0:=Aside0.mk hc0;clear hr0 hc0;have HR1:=Aside0.mk hr1;have HC1:=Aside0.mk hc1;clear hr1 hc1;have HB:=Aside0.mk (Below.refl w.heap.size w);have H:=h;clear h
 unfold impl_factorValues.f at H
 obtain⟨y236,hy236⟩: ∃y_:List Int,y_=(([]:List Int)):=⟨_,rfl⟩;replace H:(impl_factorValues.l0 k l1 a2 y236 l0 (l0.length:Int) 0)=some r:=by first|(rw[hy236];with_reducible exact H)|(have H2_:=(Option.bind_some _ _).symm.trans H;rw[hy236];with_reducible exact H2_)|(have H2_:=(Option.bind_some _ _).symm.trans H;with_reducible exact H2_)|with_reducible exact H|(rw[hy236];exact H)|exact H
 have Ny236:=Aside0.mk hy236;clear hy236;have H':=Aside0.mk H;clear H
 go_enter Try.func96,Try.ntmps96
 go_wp2_with(first|((with_reducible refine gate_dst (N:=10) rfl ?_);refine Kd.R_lit (Kd.int .i64) _ 3 ?hg (N:=10) ?hd (xs:=([]:List Int)) (inner:=[]) (ok:=fun _=>True) (okp:=fun _=>True) ?hr ?hp (fun _ hk=>hk) trivial (Below.refl _ _) (Nat.le_refl _) (by simp) ?_;(case hd=>rfl);(case hg=>rfl);(case hr=>first|(go_simp;done)|(go_simp;rfl));(case hp=>exact(Reps.none _ _));intro v237 w4 ho5 hb hg_ hnew_;clear hg_ hnew_;(first|rw[←Ny236.out]at ho5|(simp only[Int.reduceToNat]at ho5;rw[←Ny236.out]at ho5));have HO238:=eRr ho5 (bz HB);replace HB:=bs HB hb;clear hb ho5))
 go_loopg [7,13] k (fun kq v7 v13 w'=> ∃(x7_1:List Int) (x13_1:Int),v13= .int .i64 x13_1∧Aside0 (impl_factorValues.l0 kq l1 a2 x7_1 l0 (l0.length:Int) x13_1=some r)∧Aside0 (kq≤k)∧Aside0 (Kd.R (Kd.int .i64) 3 w' w.heap.size (fun _=>True) v7 x7_1)∧Aside0 (Below w.heap.size w w'))
 case atStart=>exact⟨(y236),(0),eqx,H',⟨Nat.le_refl _⟩,mR HO238,⟨cB HB⟩⟩
 case round=>
  clear H';obtain⟨x7_1,x13_1,rfl,HA,HK1,HO_7,HB⟩:=hrel;obtain _|k1:=gk
  ·exact nz HA.out
  have H:=HA.out;clear HA;simp only[impl_factorValues.l0]at H;replace H:=itb H;rcases H with⟨c6b0,H⟩|⟨c6b0,H⟩
  ·replace H:=itd H;obtain⟨c7b0,H⟩:=H;replace H:=itd H;obtain⟨c8b0,H⟩:=H;replace H:=itd H;obtain⟨c9b0,H⟩:=H;replace H:=itm H;obtain⟨LMc10,H⟩:=H;obtain⟨y241,Ny241⟩:=nmx ((x7_1++[wrap64 ((wrap64 ((rd l0 x13_1)*a2))-(rd l1 x13_1))]):List Int);rw[←Ny241.out]at H;have H':=Aside0.mk H;clear H;obtain⟨ad239,e239,hx239_0,p239,q239⟩:=ldi (i:=x13_1) HR0.out;cases e239;replace hx239_0:=hc_ HB hx239_0;obtain⟨ad240,e240,hx240_0,p240,q240⟩:=ldi (i:=x13_1) HR1.out;cases e240;replace hx240_0:=hc_ HB hx240_0
   go_wp2_with(first|((with_reducible refine gate_builtin (b:= .append) (xs:= #[.tmp 18,.tmp 27]) rfl ?_);at_builtin;refine Kd.R_append (Kd.int .i64) (w0:=w) w.heap.size rfl (.tmp 18) (.tmp 27) 24 3 (.int .i64 0) 8 rfl Try.underlying24 info3 rfl (by decide) (by omega) u7 x7_1 (wrap64 ((wrap64 ((rd l0 x13_1)*a2))-(rd l1 x13_1))) [.int .i64 (wrap64 ((wrap64 ((rd l0 x13_1)*a2))-(rd l1 x13_1)))] (fun _=>True) (fun _=>False) rfl rfl ?aP (fun _ hk=>hk.elim) ?aF ?aO ?aB ?aS ?aL ?_;(case aP=>exact rfl);(case aB=>exact(cB HB));(case aF=>exact(fun _ _=>trivial));(case aO=>exact(cR HO_7));(case aS=>exact(bz HB));(case aL=>have:=LMc10.out;omega);intro v242 w11 ho hb hg hat;rw[←Ny241.out]at ho;have n0_:=Aside0.mk hb;have n1_:=Aside0.mk ho;clear HB HO_7;have HB:=n0_;have HO243:=n1_;clear n0_ n1_ ho hb hg hat))
   go_roundg k1
   case measure=>have:=HK1.out;omega
   case rel=>exact⟨(y241),(wrap64 (x13_1+1)),eqx,H',⟨by have:=HK1.out;omega⟩,mR HO243,⟨cB HB⟩⟩
  ·obtain rfl:=Option.some.inj H;go_wp2
   go_ret
   exact⟨_,erx,by(with_reducible repeat(first|apply Kd.R_alloc|apply Kd.R_drewN|apply Kd.R_drew));exact HO_7.out,cB HB⟩
def impl_pitAt.f (k:Nat) (l0:List (List Int)) (l1:List Int) (l2:List Int) (a3:Int):Option (List Bool):=(impl_factorValues.f k l1 l2 a3).bind fun t244=>((impl_bestPit.f0 l0 t244).bind fun t247=>(some t247))
set_option maxHeartbeats 8000000 in
set_option maxRecDepth 100000 in
theorem impl_pitAt.calls (k:Nat) (A0:Option Addr) (c0:Nat) (l0:List (List Int)) (A1:Option Addr) (c1:Nat) (l1:List Int) (A2:Option Addr) (c2:Nat) (l2:List Int) (a3:Int) (r:List Bool) (w:World) (hr0:Kd.C (Kd.slice 3 (Kd.int .i64)) w A0 l0.length l0) (hc0:l0.length≤c0) (hr1:Kd.C (Kd.int .i64) w A1 l1.length l1) (hc1:l1.length≤c1) (hr2:Kd.C (Kd.int .i64) w A2 l2.length l2) (hc2:l2.length≤c2) (h:impl_pitAt.f k l0 l1 l2 a3=some r):
  Calls Try.prog 108 #[.slice A0 l0.length c0,.slice A1 l1.length c1,.slice A2 l2.length c2,.int .i64 a3] w fun e w'=> ∃v0_:Value,e= .returned (v0_)∧Kd.V Kd.bool 4 w' w.heap.size (fun k_=>(w.heap.size≤k_)) v0_ r∧Below w.heap.size w w':=by
 have HR0:=Aside0.mk hr0;have HC0:=Aside0.mk hc0;clear hr0 hc0;have HR1:=Aside0.mk hr1;have HC1:=Aside0.mk hc1;clear hr1 hc1;have HR2:=Aside0.mk hr2;have HC2:=Aside0.mk hc2;clear hr2 hc2;have HB:=Aside0.mk (Below.refl w.heap.size w);have H:=h;clear h
 unfold impl_pitAt.f at H
 replace H:=bnd H;obtain⟨t244,A5,H⟩:=H;replace H:=bnd H;obtain⟨t247,A6,H⟩:=H;obtain rfl:=Option.some.inj H
 go_enter Try.func108,Try.ntmps108
 go_wp2_with(first|(refine cal_ 96 (some 13) Try.func96 #[.slice A1 l1.length c1,.slice A2 l2.length c2,.int .i64 a3] rfl (impl_factorValues.calls k _ _ l1 _ _ l2 a3 t244 _ ?_ HC1.out ?_ HC2.out A5.out) ?_;exact cC HR1;exact cC HR2;rintro e w7 ⟨v245,rfl,ho0,hb⟩;refine⟨_,rfl,?_⟩;have HO246:=Aside0.mk (Kd.R_lower (Kd.R_newM (M:=fun k_=>(w.heap.size≤k_)) ho0 (bz HB) (fun k_ h_=>h_)) (bz HB));replace HB:=bs HB hb;clear hb ho0;obtain⟨Ao8,co8,rfl⟩:=sR HO246)|((with_reducible refine gate_callee (f:=79) rfl ?_);refine goesL_ (some 14) rfl rfl Try.func79 (by kernel_rfl) rfl #[.slice A0 l0.length c0,.slice Ao8 t244.length co8,.slice none 0 0,.slice none 0 0,.bool false] rfl (by(try simp only[List.map_toArray,List.map_cons,List.map_nil]);first|done|rfl|(simp only[List.length_drop,List.length_take];rfl)) ?_;(refine(impl_bestPit.calls_0 _ _ l0 _ _ t244 none 0 ([]:List Bool) none 0 ([]:List Bool) false t247 _ ?side1 ?side2 ?side3 ?side4 ?side5 ?side6 ?side7 ?side8 A6.out).mono ?_);(case side1=>exact cb_ HR0 HB);(case side2=>exact HC0.out);(case side3=>exact rR HO246);(case side4=>exact(lR HO246));(case side5=>exact Kd.C_nil _ _);(case side6=>exact Nat.le_refl _);(case side7=>exact Kd.C_nil _ _);(case side8=>exact Nat.le_refl _);rintro e w9 ⟨v248,rfl,ho0,hb⟩;refine⟨_,rfl,?_⟩;have HO249:=Aside0.mk (Kd.V_lower (Kd.V_mono (ok':=fun k_=>(w.heap.size≤k_)∧some k_≠(.slice Ao8 t244.length co8:Value).ownBlock) ho0 (fun k_ hk_=>⟨(Nat.le_trans (bz HB) hk_),(Kd.fresh' (Kd.R_lt (cR HO246)) k_ hk_)⟩)) (bz HB));replace HO246:=bR HO246 hb;replace HB:=bs HB hb;clear hb ho0))
 go_ret
 exact⟨_,erx,by(with_reducible repeat(first|apply Kd.V_alloc|apply Kd.V_drewN|apply Kd.V_drew));exact Kd.V_mono HO249.out (fun _ hk=>hk.1),cB HB⟩
def impl_pitsTo.l0:Nat→List (List Int)→List Int→List Int→Int→List (List Bool)→Int→Option ((List (List Bool)))
 |0,_,_,_,_,_,_=>none
 |k+1,x0,x1,x2,x3,x9,x10=>if x10≤x3 then((impl_pitAt.f k x0 x1 x2 x10).bind fun t253=>(if x9.length<5864062014805 then(impl_pitsTo.l0 k x0 x1 x2 x3 (x9++[t253]) (wrap64 (x10+1)))else(none)))else(some x9)
def impl_pitsTo.f (k:Nat) (l0:List (List Int)) (l1:List Int) (l2:List Int) (a3:Int):Option ((List (List Bool))):=impl_pitsTo.l0 k l0 l1 l2 a3 (([]:List (List Bool))) 0
set_option maxHeartbeats 8000000 in
set_option maxRecDepth 100000 in
theorem impl_pitsTo.calls (k:Nat) (A0:Option Addr) (c0:Nat) (l0:List (List Int)) (A1:Option Addr) (c1:Nat) (l1:List Int) (A2:Option Addr) (c2:Nat) (l2:List Int) (a3:Int) (r:List (List Bool)) (w:World) (hr0:Kd.C (Kd.slice 3 (Kd.int .i64)) w A0 l0.length l0) (hc0:l0.length≤c0) (hr1:Kd.C (Kd.int .i64) w A1 l1.length l1) (hc1:l1.length≤c1) (hr2:Kd.C (Kd.int .i64) w A2 l2.length l2) (hc2:l2.length≤c2) (h:impl_pitsTo.f k l0 l1 l2 a3=some r):
  Calls Try.prog 95 #[.slice A0 l0.length c0,.slice A1 l1.length c1,.slice A2 l2.length c2,.int .i64 a3] w fun e w'=> ∃v0_:Value,e= .returned (v0_)∧Kd.V (Kd.slice 4 Kd.bool) 80 w' w.heap.size (fun k_=>(w.heap.size≤k_)) v0_ r∧Below w.heap.size w w':=by
 have HR0:=Aside0.mk hr0;have HC0:=Aside0.mk hc0;clear hr0 hc0;have HR1:=Aside0.mk hr1;have HC1:=Aside0.mk hc1;clear hr1 hc1;have HR2:=Aside0.mk hr2;have HC2:=Aside0.mk hc2;clear hr2 hc2;have HB:=Aside0.mk (Below.refl w.heap.size w);have H:=h;clear h
 unfold impl_pitsTo.f at H
 obtain⟨y250,hy250⟩: ∃y_:List (List Bool),y_=(([]:List (List Bool))):=⟨_,rfl⟩;replace H:(impl_pitsTo.l0 k l0 l1 l2 a3 y250 0)=some r:=by first|(rw[hy250];with_reducible exact H)|(have H2_:=(Option.bind_some _ _).symm.trans H;rw[hy250];with_reducible exact H2_)|(have H2_:=(Option.bind_some _ _).symm.trans H;with_reducible exact H2_)|with_reducible exact H|(rw[hy250];exact H)|exact H
 have Ny250:=Aside0.mk hy250;clear hy250;have H':=Aside0.mk H;clear H
 go_enter Try.func95,Try.ntmps95
 go_wp2_with(first|((with_reducible refine gate_dst (N:=11) rfl ?_);refine Kd.N_lit (Kd.slice 4 Kd.bool) _ 80 ?hg (N':=11) ?hd (xs:=([]:List (List Bool))) (inner:=[]) (ok:=(fun k_=>(w.heap.size≤k_))) (okp:=(fun k_=>(w.heap.size≤k_))) ?hr ?hp (fun _ hk=>hk) ((show∀k_,w.heap.size≤k_→(fun k_=>(w.heap.size≤k_)) k_ from fun k_ hk=>(Nat.le_trans (bz HB) hk)) _ (Nat.le_refl _)) (Below.refl _ _) (Nat.le_refl _) (by simp) ?_;(case hd=>rfl);(case hg=>rfl);(case hr=>first|(go_simp;done)|(go_simp;rfl));(case hp=>exact(Reps.none _ _));intro v251 w5 ho6 hb hg_ hnew_;clear hg_ hnew_;(first|rw[←Ny250.out]at ho6|(simp only[Int.reduceToNat]at ho6;rw[←Ny250.out]at ho6));have HO252:=eNr ho6 (bz HB);replace HB:=bs HB hb;clear hb ho6))
 go_loopg [9,10] k (fun kq v9 v10 w'=> ∃(x9_1:List (List Bool)) (x10_1:Int),v10= .int .i64 x10_1∧Aside0 (impl_pitsTo.l0 kq l0 l1 l2 a3 x9_1 x10_1=some r)∧Aside0 (kq≤k)∧Aside0 (Kd.N (Kd.slice 4 Kd.bool) 80 w' w.heap.size (fun k_=>(w.heap.size≤k_)) v9 x9_1)∧Aside0 (Below w.heap.size w w'))
 case atStart=>exact⟨(y250),(0),eqx,H',⟨Nat.le_refl _⟩,mN HO252,⟨cB HB⟩⟩
 case round=>
  clear H';obtain⟨x9_1,x10_1,rfl,HA,HK1,HO_9,HB⟩:=hrel;obtain _|k1:=gk
  ·exact nz HA.out
  have H:=HA.out;clear HA;simp only[impl_pitsTo.l0]at H;replace H:=itb H;rcases H with⟨c7b0,H⟩|⟨c7b0,H⟩
  ·replace H:=bnd H;obtain⟨t253,A8,H⟩:=H;replace H:=itm H;obtain⟨LMc9,H⟩:=H;obtain⟨y256,Ny256⟩:=nmx ((x9_1++[t253]):List (List Bool));rw[←Ny256.out]at H;have H':=Aside0.mk H;clear H
   go_wp2_with(first|(refine cal_ 108 (some 22) Try.func108 #[.slice A0 l0.length c0,.slice A1 l1.length c1,.slice A2 l2.length c2,.int .i64 x10_1] rfl (impl_pitAt.calls k1 _ _ l0 _ _ l1 _ _ l2 x10_1 t253 _ ?_ HC0.out ?_ HC1.out ?_ HC2.out A8.out) ?_;exact cb_ HR0 HB;exact cb_ HR1 HB;exact cb_ HR2 HB;rintro e w10 ⟨v254,rfl,ho0,hb⟩;refine⟨_,rfl,?_⟩;have HO255:=Aside0.mk (Kd.V_lower (Kd.V_mono (ok':=fun k_=>(w.heap.size≤k_)∧some k_≠(u9:Value).ownBlock) ho0 (fun k_ hk_=>⟨(Nat.le_trans (bz HB) hk_),(Kd.fresh' (Kd.N_lt (cN HO_9)) k_ hk_)⟩)) (bz HB));replace HO_9:=bN HO_9 hb;replace HB:=bs HB hb;clear hb ho0;obtain⟨Ao12,co12,rfl⟩:=sV HO255)|((with_reducible refine gate_builtin (b:= .append) (xs:= #[.tmp 17,.tmp 23]) rfl ?_);at_builtin;refine Kd.N_append (Kd.slice 4 Kd.bool) (w0:=w) w.heap.size rfl (.tmp 17) (.tmp 23) 96 80 (.slice none 0 0) 24 rfl Try.underlying96 info80 rfl (by decide) (by omega) u9 x9_1 t253 [.slice Ao12 t253.length co12] (fun k_=>(w.heap.size≤k_)) (fun k_=>((fun k_=>(w.heap.size≤k_))) k_∧some k_≠(u9:Value).ownBlock) rfl rfl ?aP (fun _ hk=>hk) ?aF ?aO ?aB ?aS ?aL ?_;(case aP=>exact(Kd.FK_slice_mk (Kd.V_reads' (Kd.V_mono (ok':=(fun k_=>((fun k_=>(w.heap.size≤k_))) k_∧some k_≠(u9:Value).ownBlock)) (HO255.out) (fun k_ hk=>⟨hk.1,hk.2⟩))).2.1 (Kd.V_F (Kd.V_mono (ok':=(fun k_=>((fun k_=>(w.heap.size≤k_))) k_∧some k_≠(u9:Value).ownBlock)) (HO255.out) (fun k_ hk=>⟨hk.1,hk.2⟩)))));(case aB=>exact(cB HB));(case aF=>exact(fun k_ hk=>(Nat.le_trans (bz HB) hk)));(case aO=>exact(cN HO_9));(case aS=>exact(bz HB));(case aL=>have:=LMc9.out;omega);intro v257 w11 ho hb hg hat;rw[←Ny256.out]at ho;have n0_:=Aside0.mk (Kd.V_afterv (ok:=(fun k_=>(w.heap.size≤k_))) (cV HO255) hg hat);have n1_:=Aside0.mk hb;have n2_:=Aside0.mk ho;clear HO255 HB HO_9;have HO255:=n0_;have HB:=n1_;have HO258:=n2_;clear n0_ n1_ n2_ ho hb hg hat))
   go_roundg k1
   case measure=>have:=HK1.out;omega
   case rel=>exact⟨(y256),(wrap64 (x10_1+1)),eqx,H',⟨by have:=HK1.out;omega⟩,mN HO258,⟨cB HB⟩⟩
  ·obtain rfl:=Option.some.inj H;go_wp2
   go_ret
   exact⟨_,erx,Kd.N_V (cN HO_9),cB HB⟩
end Go.Proofs.Ytlkppimbbbdmbaa.PFnFactors
