-- Printed by a changed copy of the printer; impl.bestPit and spec.paFind by contracts walked by hand
import Derived.Test.YtlkppimbbbdmbaaPFnForcedx0
namespace Go.Proofs.Ytlkppimbbbdmbaa.PFnForced
open Go.RowKit Go.Proofs.YtlkppimbbbdmbaaW.PrintWords Go.Proofs.YtlkppimbbbdmbaaW.PrintLast Go.Proofs.YtlkppimbbbdmbaaW.PrintMore
attribute [local go_sem] max2_int min2_int max_two min_two max_three min_three max_four min_four
set_option linter.unusedVariables false
set_option linter.unusedSimpArgs false
mutual
def impl_goodValues.j0:Nat→List Int→Bool→Option (Bool)
 |0,_,_=>none
 |k+1,x0,x12=>if x12=true then(some false)else(impl_goodValues.l0 k x0 (x0.length:Int) 0)
def impl_goodValues.l0:Nat→List Int→Int→Int→Option (Bool)
 |0,_,_,_=>none
 |k+1,x13,x14,x15=>if x15<x14 then(if 0≤x15 then(if x15<(x13.length:Int)then(if(rd x13 x15)<(-1000000)then(some false)else(if(rd x13 x15)>1000000 then(some false)else(impl_goodValues.l0 k x13 x14 (wrap64 (x15+1)))))else(none))else(none))else(some true)
end
def impl_goodValues.f (k:Nat) (l0:List Int):Option (Bool):=if(l0.length:Int)<1 then(impl_goodValues.j0 k l0 true)else(impl_goodValues.j0 k l0 (decide ((l0.length:Int)>120)))
set_option maxHeartbeats 8000000 in
set_option maxRecDepth 100000 in
theorem impl_goodValues.calls (k:Nat) (A0:Option Addr) (c0:Nat) (l0:List Int) (r:Bool) (w:World) (hr0:Kd.C (Kd.int .i64) w A0 l0.length l0) (hc0:l0.length≤c0) (h:impl_goodValues.f k l0=some r):
  Calls Try.prog 114 #[.slice A0 l0.length c0] w fun e w'=>e= .returned (.bool r)∧Drawn0 w w':=by
 have HR0:=Aside0.mk hr0;have HC0:=Aside0.mk hc0;clear hr0 hc0;have H:=h;clear h
 unfold impl_goodValues.f at H
 have HC2:=Aside0.mk H;clear H
 go_enter Try.func114,Try.ntmps114
 go_upto_region 1 with(fail)
 go_cut [12] (fun v12 wc=> ∃(kq:Nat) (x12_1:Bool),v12= .bool x12_1∧Aside0 (impl_goodValues.j0 kq l0 x12_1=some r)∧Aside0 (kq≤k)∧Drawn0 w wc)
 case first=>
  have H:=HC2.out;clear HC2;replace H:=itp H;rcases H with⟨c3,H⟩|⟨c3,H⟩
  ·have c3b0:decide ((l0.length:Int)<1)=true:=decide_eq_true c3;have c3b1:decide (l0.length<1)=true:=decide_eq_true (by omega);clear c3
   (first|rw[c3b0]|(simp only[i64_w,i32_w];rw[c3b0])|skip)
   have H':=Aside0.mk H;clear H;go_wp2
   go_meet
   case rel=>exact⟨_,(true),eqx,H',⟨omx⟩,d0x⟩
  ·have c3b0:decide ((l0.length:Int)<1)=false:=decide_eq_false c3;have c3b1:decide (l0.length<1)=false:=decide_eq_false (by omega);clear c3
   (first|rw[c3b0]|(simp only[i64_w,i32_w];rw[c3b0])|skip)
   have H':=Aside0.mk H;clear H;go_wp2
   go_meet
   case rel=>exact⟨_,(decide ((l0.length:Int)>120)),eqx,H',⟨omx⟩,d0x⟩
 case rest=>
  clear HC2;obtain⟨kq,x12_1,rfl,HA,HJ1,⟨mc1,rfl⟩⟩:=hcut;obtain _|kj1:=kq
  ·exact nz HA.out
  have H:=HA.out;clear HA;simp only[impl_goodValues.j0]at H;replace H:=itt H;rcases H with⟨rfl,H⟩|⟨rfl,H⟩
  ·obtain rfl:=Option.some.inj H;go_wp2
   go_ret
   exact⟨eqx,d0x⟩
  ·have H':=Aside0.mk H;clear H;go_wp2
   go_loopg [15] kj1 (fun kq v15 w'=> ∃(x15_2:Int),v15= .int .i64 x15_2∧Aside0 (impl_goodValues.l0 kq l0 (l0.length:Int) x15_2=some r)∧Aside0 (kq≤kj1)∧Drawn0 w w')
   case atStart=>exact⟨(0),eqx,H',⟨Nat.le_refl _⟩,d0x⟩
   case round=>
    clear H';obtain⟨x15_2,rfl,HA,HK2,⟨m2,rfl⟩⟩:=hrel;obtain _|k2:=gk
    ·exact nz HA.out
    have H:=HA.out;clear HA;simp only[impl_goodValues.l0]at H;replace H:=itb H;rcases H with⟨c5b0,H⟩|⟨c5b0,H⟩
    ·replace H:=itd H;obtain⟨c6b0,H⟩:=H;replace H:=itd H;obtain⟨c7b0,H⟩:=H;replace H:=itb H;rcases H with⟨c8b0,H⟩|⟨c8b0,H⟩
     ·obtain rfl:=Option.some.inj H;obtain⟨ad101,e101,hx101_0,p101,q101⟩:=ldi (i:=x15_2) HR0.out;cases e101;go_wp2
      go_ret
      exact⟨eqx,d0x⟩
     ·replace H:=itb H;rcases H with⟨c9b0,H⟩|⟨c9b0,H⟩
      ·obtain rfl:=Option.some.inj H;obtain⟨ad101,e101,hx101_0,p101,q101⟩:=ldi (i:=x15_2) HR0.out;cases e101;go_wp2
       go_ret
       exact⟨eqx,d0x⟩
      ·have H':=Aside0.mk H;clear H;obtain⟨ad101,e101,hx101_0,p101,q101⟩:=ldi (i:=x15_2) HR0.out;cases e101;go_wp2
       go_roundg k2
       case measure=>have:=HJ1.out;have:=HK2.out;omega
       case rel=>exact⟨(wrap64 (x15_2+1)),eqx,H',⟨om2 HJ1 HK2⟩,d0x⟩
    ·obtain rfl:=Option.some.inj H;go_wp2
     go_ret
     exact⟨eqx,d0x⟩
def impl_areBlocks.l0:Nat→List Int→Int→List Int→Int→Int→Option (Bool)
 |0,_,_,_,_,_=>none
 |k+1,x0,x1,x7,x8,x9=>if x9<x8 then(if 0≤x9 then(if x9<(x7.length:Int)then(if(rd x7 x9)<0 then(some false)else(if(rd x7 x9)≥x1 then(some false)else(if x9>0 then(if 0≤(wrap64 (x9-1))then(if(wrap64 (x9-1))<(x0.length:Int)then(if(rd x7 x9)≤(rd x0 (wrap64 (x9-1)))then(some false)else(impl_areBlocks.l0 k x0 x1 x7 x8 (wrap64 (x9+1))))else(none))else(none))else(impl_areBlocks.l0 k x0 x1 x7 x8 (wrap64 (x9+1))))))else(none))else(none))else(some true)
def impl_areBlocks.f (k:Nat) (l0:List Int) (a1:Int):Option (Bool):=impl_areBlocks.l0 k l0 a1 l0 (l0.length:Int) 0
set_option maxHeartbeats 8000000 in
set_option maxRecDepth 100000 in
theorem impl_areBlocks.calls (k:Nat) (A0:Option Addr) (c0:Nat) (l0:List Int) (a1:Int) (r:Bool) (w:World) (hr0:Kd.C (Kd.int .i64) w A0 l0.length l0) (hc0:l0.length≤c0) (h:impl_areBlocks.f k l0 a1=some r):
  Calls Try.prog 104 #[.slice A0 l0.length c0,.int .i64 a1] w fun e w'=>e= .returned (.bool r)∧Drawn0 w w':=by
 have HR0:=Aside0.mk hr0;have HC0:=Aside0.mk hc0;clear hr0 hc0;have H:=h;clear h
 unfold impl_areBlocks.f at H
 have H':=Aside0.mk H;clear H
 go_enter Try.func104,Try.ntmps104
 go_wp2
 go_loopg [9] k (fun kq v9 w'=> ∃(x9_1:Int),v9= .int .i64 x9_1∧Aside0 (impl_areBlocks.l0 kq l0 a1 l0 (l0.length:Int) x9_1=some r)∧Aside0 (kq≤k)∧Drawn0 w w')
 case atStart=>exact⟨(0),eqx,H',⟨Nat.le_refl _⟩,d0x⟩
 case round=>
  clear H';obtain⟨x9_1,rfl,HA,HK1,⟨m1,rfl⟩⟩:=hrel;obtain _|k1:=gk
  ·exact nz HA.out
  have H:=HA.out;clear HA;simp only[impl_areBlocks.l0]at H;replace H:=itb H;rcases H with⟨c3b0,H⟩|⟨c3b0,H⟩
  ·replace H:=itd H;obtain⟨c4b0,H⟩:=H;replace H:=itd H;obtain⟨c5b0,H⟩:=H;replace H:=itb H;rcases H with⟨c6b0,H⟩|⟨c6b0,H⟩
   ·obtain rfl:=Option.some.inj H;obtain⟨ad102,e102,hx102_0,p102,q102⟩:=ldi (i:=x9_1) HR0.out;cases e102;go_wp2
    go_ret
    exact⟨eqx,d0x⟩
   ·replace H:=itb H;rcases H with⟨c7b0,H⟩|⟨c7b0,H⟩
    ·obtain rfl:=Option.some.inj H;obtain⟨ad102,e102,hx102_0,p102,q102⟩:=ldi (i:=x9_1) HR0.out;cases e102;go_wp2
     go_ret
     exact⟨eqx,d0x⟩
    ·replace H:=itb H;rcases H with⟨c8b0,H⟩|⟨c8b0,H⟩
     ·obtain⟨ji9,hji9⟩:=jix (wrap64 (x9_1-1));simp only[hji9]at H;have hji9w:(IntKind.i64.wrap (x9_1-1))=ji9:=(i64_w _).trans hji9;replace H:=itd H;obtain⟨c10b0,H⟩:=H;replace H:=itd H;obtain⟨c11b0,H⟩:=H;replace H:=itb H;rcases H with⟨c12b0,H⟩|⟨c12b0,H⟩
      ·obtain rfl:=Option.some.inj H;obtain⟨ad102,e102,hx102_0,p102,q102⟩:=ldi (i:=x9_1) HR0.out;cases e102;obtain⟨ad103,e103,hx103_0,p103,q103⟩:=ldi (i:=(ji9)) HR0.out;obtain rfl:ad102=ad103:=(by injection e103);go_wp2
       go_ret
       exact⟨by first|rfl|(simp;done)|(simp only[←hji9]<;>(first|rfl|simp))|(simp[*];done),d0x⟩
      ·have H':=Aside0.mk H;clear H;obtain⟨ad102,e102,hx102_0,p102,q102⟩:=ldi (i:=x9_1) HR0.out;cases e102;obtain⟨ad103,e103,hx103_0,p103,q103⟩:=ldi (i:=(ji9)) HR0.out;obtain rfl:ad102=ad103:=(by injection e103);go_wp2
       go_roundg k1
       case measure=>have:=HK1.out;omega
       case rel=>exact⟨(wrap64 (x9_1+1)),eqx,H',⟨by have:=HK1.out;omega⟩,d0x⟩
     ·have H':=Aside0.mk H;clear H;obtain⟨ad102,e102,hx102_0,p102,q102⟩:=ldi (i:=x9_1) HR0.out;cases e102;go_wp2
      go_roundg k1
      case measure=>have:=HK1.out;omega
      case rel=>exact⟨(wrap64 (x9_1+1)),eqx,H',⟨by have:=HK1.out;omega⟩,d0x⟩
  ·obtain rfl:=Option.some.inj H;go_wp2
   go_ret
   exact⟨eqx,d0x⟩
mutual
def impl_AreArcs.j0:Nat→List (List Int)→Bool→Option (Bool)
 |0,_,_=>none
 |k+1,x0,x12=>if x12=true then(some false)else(impl_AreArcs.l0 k x0 (x0.length:Int) 0)
def impl_AreArcs.l0:Nat→List (List Int)→Int→Int→Option (Bool)
 |0,_,_,_=>none
 |k+1,x13,x14,x15=>if x15<x14 then(if 0≤x15 then(if x15<(x13.length:Int)then((impl_areBlocks.f k (rd_L1 x13 x15) x15).bind fun t105=>(if t105=true then(impl_AreArcs.l0 k x13 x14 (wrap64 (x15+1)))else(some false)))else(none))else(none))else(some true)
end
def impl_AreArcs.f (k:Nat) (l0:List (List Int)):Option (Bool):=if(l0.length:Int)<1 then(impl_AreArcs.j0 k l0 true)else(impl_AreArcs.j0 k l0 (decide ((l0.length:Int)>120)))
set_option maxHeartbeats 8000000 in
set_option maxRecDepth 100000 in
theorem impl_AreArcs.calls (k:Nat) (A0:Option Addr) (c0:Nat) (l0:List (List Int)) (r:Bool) (w:World) (hr0:Kd.C (Kd.slice 3 (Kd.int .i64)) w A0 l0.length l0) (hc0:l0.length≤c0) (h:impl_AreArcs.f k l0=some r):
  Calls Try.prog 115 #[.slice A0 l0.length c0] w fun e w'=>e= .returned (.bool r)∧Drawn0 w w':=by
 have HR0:=Aside0.mk hr0;have HC0:=Aside0.mk hc0;clear hr0 hc0;have H:=h;clear h
 unfold impl_AreArcs.f at H
 have HC2:=Aside0.mk H;clear H
 go_enter Try.func115,Try.ntmps115
 go_upto_region 1 with(fail)
 go_cut [12] (fun v12 wc=> ∃(kq:Nat) (x12_1:Bool),v12= .bool x12_1∧Aside0 (impl_AreArcs.j0 kq l0 x12_1=some r)∧Aside0 (kq≤k)∧Drawn0 w wc)
 case first=>
  have H:=HC2.out;clear HC2;replace H:=itp H;rcases H with⟨c3,H⟩|⟨c3,H⟩
  ·have c3b0:decide ((l0.length:Int)<1)=true:=decide_eq_true c3;have c3b1:decide (l0.length<1)=true:=decide_eq_true (by omega);clear c3
   (first|rw[c3b0]|(simp only[i64_w,i32_w];rw[c3b0])|skip)
   have H':=Aside0.mk H;clear H;go_wp2
   go_meet
   case rel=>exact⟨_,(true),eqx,H',⟨omx⟩,d0x⟩
  ·have c3b0:decide ((l0.length:Int)<1)=false:=decide_eq_false c3;have c3b1:decide (l0.length<1)=false:=decide_eq_false (by omega);clear c3
   (first|rw[c3b0]|(simp only[i64_w,i32_w];rw[c3b0])|skip)
   have H':=Aside0.mk H;clear H;go_wp2
   go_meet
   case rel=>exact⟨_,(decide ((l0.length:Int)>120)),eqx,H',⟨omx⟩,d0x⟩
 case rest=>
  clear HC2;obtain⟨kq,x12_1,rfl,HA,HJ1,⟨mc1,rfl⟩⟩:=hcut;obtain _|kj1:=kq
  ·exact nz HA.out
  have H:=HA.out;clear HA;simp only[impl_AreArcs.j0]at H;replace H:=itt H;rcases H with⟨rfl,H⟩|⟨rfl,H⟩
  ·obtain rfl:=Option.some.inj H;go_wp2
   go_ret
   exact⟨eqx,d0x⟩
  ·have H':=Aside0.mk H;clear H;go_wp2
   go_loopg [15] kj1 (fun kq v15 w'=> ∃(x15_2:Int),v15= .int .i64 x15_2∧Aside0 (impl_AreArcs.l0 kq l0 (l0.length:Int) x15_2=some r)∧Aside0 (kq≤kj1)∧Drawn0 w w')
   case atStart=>exact⟨(0),eqx,H',⟨Nat.le_refl _⟩,d0x⟩
   case round=>
    clear H';obtain⟨x15_2,rfl,HA,HK2,⟨m2,rfl⟩⟩:=hrel;obtain _|k2:=gk
    ·exact nz HA.out
    have H:=HA.out;clear HA;simp only[impl_AreArcs.l0]at H;replace H:=itb H;rcases H with⟨c5b0,H⟩|⟨c5b0,H⟩
    ·replace H:=itd H;obtain⟨c6b0,H⟩:=H;replace H:=itd H;obtain⟨c7b0,H⟩:=H;replace H:=bnd H;obtain⟨t105,A8,H⟩:=H;replace H:=itt H;rcases H with⟨rfl,H⟩|⟨rfl,H⟩
     ·have H':=Aside0.mk H;clear H;have p104:0≤(x15_2:Int):=of_decide_eq_true asx;have q104:x15_2<(l0.length:Int):=of_decide_eq_true asx;obtain⟨ad104,A104_0,c104_0,e104,hx104_0,hl104_0,hi104_0⟩:=at_L1 HR0.out x15_2 p104 q104;cases e104;have HR104_0:=Aside0.mk hi104_0;have HC104_0:=Aside0.mk hl104_0;clear hi104_0 hl104_0;replace p104:=eq_true p104;replace q104:=eq_true q104
      go_wp2_with(first|(refine cal_ 104 (some 22) Try.func104 #[.slice A104_0 (rd_L1 l0 x15_2).length c104_0,.int .i64 x15_2] rfl (impl_areBlocks.calls k2 _ _ (rd_L1 l0 x15_2) x15_2 true _ ?_ HC104_0.out A8.out) ?_;exact cC HR104_0;rintro e w' ⟨rfl,⟨nd,rfl⟩⟩;refine⟨_,rfl,?_⟩))
      go_roundg k2
      case measure=>have:=HJ1.out;have:=HK2.out;omega
      case rel=>exact⟨(wrap64 (x15_2+1)),eqx,H',⟨om2 HJ1 HK2⟩,d0x⟩
     ·obtain rfl:=Option.some.inj H;have p104:0≤(x15_2:Int):=of_decide_eq_true asx;have q104:x15_2<(l0.length:Int):=of_decide_eq_true asx;obtain⟨ad104,A104_0,c104_0,e104,hx104_0,hl104_0,hi104_0⟩:=at_L1 HR0.out x15_2 p104 q104;cases e104;have HR104_0:=Aside0.mk hi104_0;have HC104_0:=Aside0.mk hl104_0;clear hi104_0 hl104_0;replace p104:=eq_true p104;replace q104:=eq_true q104
      go_wp2_with(first|(refine cal_ 104 (some 22) Try.func104 #[.slice A104_0 (rd_L1 l0 x15_2).length c104_0,.int .i64 x15_2] rfl (impl_areBlocks.calls k2 _ _ (rd_L1 l0 x15_2) x15_2 false _ ?_ HC104_0.out A8.out) ?_;exact cC HR104_0;rintro e w' ⟨rfl,⟨nd,rfl⟩⟩;refine⟨_,rfl,?_⟩))
      go_ret
      exact⟨eqx,d0x⟩
    ·obtain rfl:=Option.some.inj H;go_wp2
     go_ret
     exact⟨eqx,d0x⟩
def impl_areValued.f (k:Nat) (l0:List (List Int)) (l1:List Int):Option (Bool):=(impl_AreArcs.f k l0).bind fun t106=>(if t106=true then((impl_goodValues.f k l1).bind fun t107=>(if t107=true then(some ((l1.length:Int)==(l0.length:Int)))else(some false)))else(some false))
set_option maxHeartbeats 8000000 in
set_option maxRecDepth 100000 in
theorem impl_areValued.calls (k:Nat) (A0:Option Addr) (c0:Nat) (l0:List (List Int)) (A1:Option Addr) (c1:Nat) (l1:List Int) (r:Bool) (w:World) (hr0:Kd.C (Kd.slice 3 (Kd.int .i64)) w A0 l0.length l0) (hc0:l0.length≤c0) (hr1:Kd.C (Kd.int .i64) w A1 l1.length l1) (hc1:l1.length≤c1) (h:impl_areValued.f k l0 l1=some r):
  Calls Try.prog 73 #[.slice A0 l0.length c0,.slice A1 l1.length c1] w fun e w'=>e= .returned (.bool r)∧Drawn0 w w':=by
 have HR0:=Aside0.mk hr0;have HC0:=Aside0.mk hc0;clear hr0 hc0;have HR1:=Aside0.mk hr1;have HC1:=Aside0.mk hc1;clear hr1 hc1;have H:=h;clear h
 unfold impl_areValued.f at H
 replace H:=bnd H;obtain⟨t106,A3,H⟩:=H;replace H:=itt H;rcases H with⟨rfl,H⟩|⟨rfl,H⟩
 ·replace H:=bnd H;obtain⟨t107,A5,H⟩:=H;replace H:=itt H;rcases H with⟨rfl,H⟩|⟨rfl,H⟩
  ·obtain rfl:=Option.some.inj H
   go_enter Try.func73,Try.ntmps73
   go_wp2_with(first|(refine cal_ 115 (some 6) Try.func115 #[.slice A0 l0.length c0] rfl (impl_AreArcs.calls k _ _ l0 true _ ?_ HC0.out A3.out) ?_;exact cC HR0;rintro e w' ⟨rfl,⟨nd,rfl⟩⟩;refine⟨_,rfl,?_⟩)|(go_at_call 114;(with_reducible refine(impl_goodValues.calls k _ _ l1 true _ ?_ HC1.out A5.out).mono ?_);exact cC HR1;rintro e w' ⟨rfl,⟨nd,rfl⟩⟩))
   go_ret
   exact⟨eqx,d0x⟩
  ·obtain rfl:=Option.some.inj H
   go_enter Try.func73,Try.ntmps73
   go_wp2_with(first|(refine cal_ 115 (some 6) Try.func115 #[.slice A0 l0.length c0] rfl (impl_AreArcs.calls k _ _ l0 true _ ?_ HC0.out A3.out) ?_;exact cC HR0;rintro e w' ⟨rfl,⟨nd,rfl⟩⟩;refine⟨_,rfl,?_⟩)|(go_at_call 114;(with_reducible refine(impl_goodValues.calls k _ _ l1 false _ ?_ HC1.out A5.out).mono ?_);exact cC HR1;rintro e w' ⟨rfl,⟨nd,rfl⟩⟩))
   go_ret
   exact⟨eqx,d0x⟩
 ·obtain rfl:=Option.some.inj H
  go_enter Try.func73,Try.ntmps73
  go_wp2_with(first|(refine cal_ 115 (some 6) Try.func115 #[.slice A0 l0.length c0] rfl (impl_AreArcs.calls k _ _ l0 false _ ?_ HC0.out A3.out) ?_;exact cC HR0;rintro e w' ⟨rfl,⟨nd,rfl⟩⟩;refine⟨_,rfl,?_⟩))
  go_ret
  exact⟨eqx,d0x⟩
def impl_listOf.l0:Nat→List Int→List Bool→Int→Int→Option (List Int)
 |0,_,_,_,_=>none
 |k+1,x3,x7,x8,x9=>if x9<x8 then(if 0≤x9 then(if x9<(x7.length:Int)then(if rdOf false x7 x9=true then(if x3.length<17592186044416 then(impl_listOf.l0 k (x3++[x9]) x7 x8 (wrap64 (x9+1)))else(none))else(impl_listOf.l0 k x3 x7 x8 (wrap64 (x9+1))))else(none))else(none))else(some x3)
def impl_listOf.f (k:Nat) (l0:List Bool):Option (List Int):=impl_listOf.l0 k (([]:List Int)) l0 (l0.length:Int) 0
set_option maxHeartbeats 8000000 in
set_option maxRecDepth 100000 in
theorem impl_listOf.calls (k:Nat) (A0:Option Addr) (c0:Nat) (l0:List Bool) (r:List Int) (w:World) (hr0:Kd.C Kd.bool w A0 l0.length l0) (hc0:l0.length≤c0) (h:impl_listOf.f k l0=some r):
  Calls Try.prog 78 #[.slice A0 l0.length c0] w fun e w'=> ∃v0_:Value,e= .returned (v0_)∧Kd.R (Kd.int .i64) 3 w' w.heap.size (fun _=>True) v0_ r∧Below w.heap.size w w':=by
 have HR0:=Aside0.mk hr0;have HC0:=Aside0.mk hc0;clear hr0 hc0;have HB:=Aside0.mk (Below.refl w.heap.size w);have H:=h;clear h
 unfold impl_listOf.f at H
 obtain⟨y108,hy108⟩: ∃y_:List Int,y_=(([]:List Int)):=⟨_,rfl⟩;replace H:(impl_listOf.l0 k y108 l0 (l0.length:Int) 0)=some r:=by first|(rw[hy108];with_reducible exact H)|(have H2_:=(Option.bind_some _ _).symm.trans H;rw[hy108];with_reducible exact H2_)|(have H2_:=(Option.bind_some _ _).symm.trans H;with_reducible exact H2_)|with_reducible exact H|(rw[hy108];exact H)|exact H
 have Ny108:=Aside0.mk hy108;clear hy108;have H':=Aside0.mk H;clear H
 go_enter Try.func78,Try.ntmps78
 go_wp2_with(first|((with_reducible refine gate_dst (N:=6) rfl ?_);refine Kd.R_lit (Kd.int .i64) _ 3 ?hg (N:=6) ?hd (xs:=([]:List Int)) (inner:=[]) (ok:=fun _=>True) (okp:=fun _=>True) ?hr ?hp (fun _ hk=>hk) trivial (Below.refl _ _) (Nat.le_refl _) (by simp) ?_;(case hd=>rfl);(case hg=>rfl);(case hr=>first|(go_simp;done)|(go_simp;rfl));(case hp=>exact(Reps.none _ _));intro v109 w2 ho3 hb hg_ hnew_;clear hg_ hnew_;(first|rw[←Ny108.out]at ho3|(simp only[Int.reduceToNat]at ho3;rw[←Ny108.out]at ho3));have HO110:=eRr ho3 (bz HB);replace HB:=bs HB hb;clear hb ho3))
 go_loopg [3,9] k (fun kq v3 v9 w'=> ∃(x3_1:List Int) (x9_1:Int),v9= .int .i64 x9_1∧Aside0 (impl_listOf.l0 kq x3_1 l0 (l0.length:Int) x9_1=some r)∧Aside0 (kq≤k)∧Aside0 (Kd.R (Kd.int .i64) 3 w' w.heap.size (fun _=>True) v3 x3_1)∧Aside0 (Below w.heap.size w w'))
 case atStart=>exact⟨(y108),(0),eqx,H',⟨Nat.le_refl _⟩,mR HO110,⟨cB HB⟩⟩
 case round=>
  clear H';obtain⟨x3_1,x9_1,rfl,HA,HK1,HO_3,HB⟩:=hrel;obtain _|k1:=gk
  ·exact nz HA.out
  have H:=HA.out;clear HA;simp only[impl_listOf.l0]at H;replace H:=itb H;rcases H with⟨c4b0,H⟩|⟨c4b0,H⟩
  ·replace H:=itd H;obtain⟨c5b0,H⟩:=H;replace H:=itd H;obtain⟨c6b0,H⟩:=H;obtain⟨bq7,hbq7⟩: ∃b_:Bool,b_=(rdOf false l0 x9_1):=⟨_,rfl⟩;replace H:(if bq7=true then(if x3_1.length<17592186044416 then(impl_listOf.l0 k1 (x3_1++[x9_1]) l0 (l0.length:Int) (wrap64 (x9_1+1)))else(none))else(impl_listOf.l0 k1 x3_1 l0 (l0.length:Int) (wrap64 (x9_1+1))))=some r:=by rw[←hbq7]at H;exact H
   have Nbq7:=Aside0.mk hbq7;clear hbq7;replace H:=itt H;rcases H with⟨rfl,H⟩|⟨rfl,H⟩
   ·replace H:=itm H;obtain⟨LMc9,H⟩:=H;obtain⟨y112,Ny112⟩:=nmx ((x3_1++[x9_1]):List Int);rw[←Ny112.out]at H;have H':=Aside0.mk H;clear H;have p111:0≤(x9_1:Int):=of_decide_eq_true asx;have q111:x9_1<(l0.length:Int):=of_decide_eq_true asx;obtain⟨ad111,e111,hx111_0⟩:=Kd.at_bool HR0.out x9_1 p111 q111
    (try rw[←Nbq7.out]at hx111_0)
    cases e111;replace hx111_0:=hc_ HB hx111_0;replace p111:=eq_true p111;replace q111:=eq_true q111
    go_wp2_with(first|((with_reducible refine gate_builtin (b:= .append) (xs:= #[.tmp 15,.tmp 17]) rfl ?_);at_builtin;refine Kd.R_append (Kd.int .i64) (w0:=w) w.heap.size rfl (.tmp 15) (.tmp 17) 24 3 (.int .i64 0) 8 rfl Try.underlying24 info3 rfl (by decide) (by omega) u3 x3_1 x9_1 [.int .i64 x9_1] (fun _=>True) (fun _=>False) rfl rfl ?aP (fun _ hk=>hk.elim) ?aF ?aO ?aB ?aS ?aL ?_;(case aP=>exact rfl);(case aB=>exact(cB HB));(case aF=>exact(fun _ _=>trivial));(case aO=>exact(cR HO_3));(case aS=>exact(bz HB));(case aL=>have:=LMc9.out;omega);intro v113 w10 ho hb hg hat;rw[←Ny112.out]at ho;have n0_:=Aside0.mk hb;have n1_:=Aside0.mk ho;clear HB HO_3;have HB:=n0_;have HO114:=n1_;clear n0_ n1_ ho hb hg hat))
    go_roundg k1
    case measure=>have:=HK1.out;omega
    case rel=>exact⟨(y112),(wrap64 (x9_1+1)),eqx,H',⟨by have:=HK1.out;omega⟩,mR HO114,⟨cB HB⟩⟩
   ·have H':=Aside0.mk H;clear H;have p111:0≤(x9_1:Int):=of_decide_eq_true asx;have q111:x9_1<(l0.length:Int):=of_decide_eq_true asx;obtain⟨ad111,e111,hx111_0⟩:=Kd.at_bool HR0.out x9_1 p111 q111
    (try rw[←Nbq7.out]at hx111_0)
    cases e111;replace hx111_0:=hc_ HB hx111_0;replace p111:=eq_true p111;replace q111:=eq_true q111;go_wp2
    go_roundg k1
    case measure=>have:=HK1.out;omega
    case rel=>exact⟨(x3_1),(wrap64 (x9_1+1)),eqx,H',⟨by have:=HK1.out;omega⟩,mR HO_3,⟨cB HB⟩⟩
  ·obtain rfl:=Option.some.inj H;go_wp2
   go_ret
   exact⟨_,erx,by(with_reducible repeat(first|apply Kd.R_alloc|apply Kd.R_drewN|apply Kd.R_drew));exact HO_3.out,cB HB⟩
end Go.Proofs.Ytlkppimbbbdmbaa.PFnForced
