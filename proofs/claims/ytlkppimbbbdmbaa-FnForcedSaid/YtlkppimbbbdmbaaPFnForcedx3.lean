-- Printed by a changed copy of the printer; impl.bestPit and spec.paFind by contracts walked by hand
import Derived.Test.YtlkppimbbbdmbaaPFnForcedx0
import Derived.Test.YtlkppimbbbdmbaaPFnForcedx2
namespace Go.Proofs.Ytlkppimbbbdmbaa.PFnForced
open Go.RowKit Go.Proofs.YtlkppimbbbdmbaaW.PrintWords Go.Proofs.YtlkppimbbbdmbaaW.PrintLast Go.Proofs.YtlkppimbbbdmbaaW.PrintMore
attribute [local go_sem] max2_int min2_int max_two min_two max_three min_three max_four min_four
set_option linter.unusedVariables false
set_option linter.unusedSimpArgs false
def spec_l1Rising.l0:Nat→List Int→Int→Int→List Int→Int→Int→Option (Bool)
 |0,_,_,_,_,_,_=>none
 |k+1,x0,x1,x2,x9,x10,x11=>if x11<x10 then(if 0≤x11 then(if x11<(x9.length:Int)then((spec_l1In.f (rd x9 x11) x1 x2).bind fun t209=>(if t209=true then(if x11>0 then(if 0≤(wrap64 (x11-1))then(if(wrap64 (x11-1))<(x0.length:Int)then(if(rd x0 (wrap64 (x11-1)))≥(rd x9 x11)then(some false)else(spec_l1Rising.l0 k x0 x1 x2 x9 x10 (wrap64 (x11+1))))else(none))else(none))else(spec_l1Rising.l0 k x0 x1 x2 x9 x10 (wrap64 (x11+1))))else(some false)))else(none))else(none))else(some true)
def spec_l1Rising.f (k:Nat) (l0:List Int) (a1:Int) (a2:Int):Option (Bool):=spec_l1Rising.l0 k l0 a1 a2 l0 (l0.length:Int) 0
set_option maxHeartbeats 8000000 in
set_option maxRecDepth 100000 in
theorem spec_l1Rising.calls (k:Nat) (A0:Option Addr) (c0:Nat) (l0:List Int) (a1:Int) (a2:Int) (r:Bool) (w:World) (hr0:Kd.C (Kd.int .i64) w A0 l0.length l0) (hc0:l0.length≤c0) (h:spec_l1Rising.f k l0 a1 a2=some r):
  Calls Try.prog 107 #[.slice A0 l0.length c0,.int .i64 a1,.int .i64 a2] w fun e w'=>e= .returned (.bool r)∧Drawn0 w w':=by
 have HR0:=Aside0.mk hr0;have HC0:=Aside0.mk hc0;clear hr0 hc0;have H:=h;clear h
 unfold spec_l1Rising.f at H
 have H':=Aside0.mk H;clear H
 go_enter Try.func107,Try.ntmps107
 go_wp2
 go_loopg [11] k (fun kq v11 w'=> ∃(x11_1:Int),v11= .int .i64 x11_1∧Aside0 (spec_l1Rising.l0 kq l0 a1 a2 l0 (l0.length:Int) x11_1=some r)∧Aside0 (kq≤k)∧Drawn0 w w')
 case atStart=>exact⟨(0),eqx,H',⟨Nat.le_refl _⟩,d0x⟩
 case round=>
  clear H';obtain⟨x11_1,rfl,HA,HK1,⟨m1,rfl⟩⟩:=hrel;obtain _|k1:=gk
  ·exact nz HA.out
  have H:=HA.out;clear HA;simp only[spec_l1Rising.l0]at H;replace H:=itb H;rcases H with⟨c4b0,H⟩|⟨c4b0,H⟩
  ·replace H:=itd H;obtain⟨c5b0,H⟩:=H;replace H:=itd H;obtain⟨c6b0,H⟩:=H;replace H:=bnd H;obtain⟨t209,A7,H⟩:=H;replace H:=itt H;rcases H with⟨rfl,H⟩|⟨rfl,H⟩
   ·replace H:=itb H;rcases H with⟨c9b0,H⟩|⟨c9b0,H⟩
    ·obtain⟨ji10,hji10⟩:=jix (wrap64 (x11_1-1));simp only[hji10]at H
     (try rw[hji10]at A7)
     have hji10w:(IntKind.i64.wrap (x11_1-1))=ji10:=(i64_w _).trans hji10;replace H:=itd H;obtain⟨c11b0,H⟩:=H;replace H:=itd H;obtain⟨c12b0,H⟩:=H;replace H:=itb H;rcases H with⟨c13b0,H⟩|⟨c13b0,H⟩
     ·obtain rfl:=Option.some.inj H;obtain⟨ad208,e208,hx208_0,p208,q208⟩:=ldi (i:=x11_1) HR0.out;cases e208
      go_wp2_with(first|(refine cal_ 81 (some 19) Try.func81 #[.int .i64 (rd l0 x11_1),.int .i64 a1,.int .i64 a2] rfl (spec_l1In.calls (rd l0 x11_1) a1 a2 true _ A7.out) ?_;rintro e w' ⟨rfl,⟨nd,rfl⟩⟩;refine⟨_,rfl,?_⟩;have p210:0≤((ji10):Int):=of_decide_eq_true asx;have q210:(ji10)<(l0.length:Int):=of_decide_eq_true asx;obtain⟨ad210,e210,hx210_0⟩:=Kd.at_int HR0.out (ji10) p210 q210;obtain rfl:ad208=ad210:=(by injection e210);replace p210:=eq_true p210;replace q210:=eq_true q210))
      go_ret
      exact⟨by first|rfl|(simp;done)|(simp only[←hji10]<;>(first|rfl|simp))|(simp[*];done),d0x⟩
     ·have H':=Aside0.mk H;clear H;obtain⟨ad208,e208,hx208_0,p208,q208⟩:=ldi (i:=x11_1) HR0.out;cases e208
      go_wp2_with(first|(refine cal_ 81 (some 19) Try.func81 #[.int .i64 (rd l0 x11_1),.int .i64 a1,.int .i64 a2] rfl (spec_l1In.calls (rd l0 x11_1) a1 a2 true _ A7.out) ?_;rintro e w' ⟨rfl,⟨nd,rfl⟩⟩;refine⟨_,rfl,?_⟩;have p210:0≤((ji10):Int):=of_decide_eq_true asx;have q210:(ji10)<(l0.length:Int):=of_decide_eq_true asx;obtain⟨ad210,e210,hx210_0⟩:=Kd.at_int HR0.out (ji10) p210 q210;obtain rfl:ad208=ad210:=(by injection e210);replace p210:=eq_true p210;replace q210:=eq_true q210))
      go_roundg k1
      case measure=>have:=HK1.out;omega
      case rel=>exact⟨(wrap64 (x11_1+1)),eqx,H',⟨by have:=HK1.out;omega⟩,d0x⟩
    ·have H':=Aside0.mk H;clear H;obtain⟨ad208,e208,hx208_0,p208,q208⟩:=ldi (i:=x11_1) HR0.out;cases e208
     go_wp2_with(first|(refine cal_ 81 (some 19) Try.func81 #[.int .i64 (rd l0 x11_1),.int .i64 a1,.int .i64 a2] rfl (spec_l1In.calls (rd l0 x11_1) a1 a2 true _ A7.out) ?_;rintro e w' ⟨rfl,⟨nd,rfl⟩⟩;refine⟨_,rfl,?_⟩))
     go_roundg k1
     case measure=>have:=HK1.out;omega
     case rel=>exact⟨(wrap64 (x11_1+1)),eqx,H',⟨by have:=HK1.out;omega⟩,d0x⟩
   ·obtain rfl:=Option.some.inj H;obtain⟨ad208,e208,hx208_0,p208,q208⟩:=ldi (i:=x11_1) HR0.out;cases e208
    go_wp2_with(first|(refine cal_ 81 (some 19) Try.func81 #[.int .i64 (rd l0 x11_1),.int .i64 a1,.int .i64 a2] rfl (spec_l1In.calls (rd l0 x11_1) a1 a2 false _ A7.out) ?_;rintro e w' ⟨rfl,⟨nd,rfl⟩⟩;refine⟨_,rfl,?_⟩))
    go_ret
    exact⟨eqx,d0x⟩
  ·obtain rfl:=Option.some.inj H;go_wp2
   go_ret
   exact⟨eqx,d0x⟩
def spec_clArcs.l0:Nat→List (List Int)→List (List Int)→Int→Int→Option (Bool)
 |0,_,_,_,_=>none
 |k+1,x0,x5,x6,x7=>if x7<x6 then(if 0≤x7 then(if x7<(x5.length:Int)then((spec_l1Rising.f k (rd_L1 x5 x7) 0 (wrap64 (x7-1))).bind fun t212=>(if t212=true then(spec_clArcs.l0 k x0 x5 x6 (wrap64 (x7+1)))else(some false)))else(none))else(none))else((spec_l1In.f (x0.length:Int) 1 120).bind fun t213=>(some t213))
def spec_clArcs.f (k:Nat) (l0:List (List Int)):Option (Bool):=spec_clArcs.l0 k l0 l0 (l0.length:Int) 0
set_option maxHeartbeats 8000000 in
set_option maxRecDepth 100000 in
theorem spec_clArcs.calls (k:Nat) (A0:Option Addr) (c0:Nat) (l0:List (List Int)) (r:Bool) (w:World) (hr0:Kd.C (Kd.slice 3 (Kd.int .i64)) w A0 l0.length l0) (hc0:l0.length≤c0) (h:spec_clArcs.f k l0=some r):
  Calls Try.prog 132 #[.slice A0 l0.length c0] w fun e w'=>e= .returned (.bool r)∧Drawn0 w w':=by
 have HR0:=Aside0.mk hr0;have HC0:=Aside0.mk hc0;clear hr0 hc0;have H:=h;clear h
 unfold spec_clArcs.f at H
 have H':=Aside0.mk H;clear H
 go_enter Try.func132,Try.ntmps132
 go_wp2
 go_loopg [7] k (fun kq v7 w'=> ∃(x7_1:Int),v7= .int .i64 x7_1∧Aside0 (spec_clArcs.l0 kq l0 l0 (l0.length:Int) x7_1=some r)∧Aside0 (kq≤k)∧Drawn0 w w')
 case atStart=>exact⟨(0),eqx,H',⟨Nat.le_refl _⟩,d0x⟩
 case round=>
  clear H';obtain⟨x7_1,rfl,HA,HK1,⟨m1,rfl⟩⟩:=hrel;obtain _|k1:=gk
  ·exact nz HA.out
  have H:=HA.out;clear HA;simp only[spec_clArcs.l0]at H;replace H:=itb H;rcases H with⟨c2b0,H⟩|⟨c2b0,H⟩
  ·replace H:=itd H;obtain⟨c3b0,H⟩:=H;replace H:=itd H;obtain⟨c4b0,H⟩:=H;replace H:=bnd H;obtain⟨t212,A5,H⟩:=H;replace H:=itt H;rcases H with⟨rfl,H⟩|⟨rfl,H⟩
   ·have H':=Aside0.mk H;clear H;have p211:0≤(x7_1:Int):=of_decide_eq_true asx;have q211:x7_1<(l0.length:Int):=of_decide_eq_true asx;obtain⟨ad211,A211_0,c211_0,e211,hx211_0,hl211_0,hi211_0⟩:=at_L1 HR0.out x7_1 p211 q211;cases e211;have HR211_0:=Aside0.mk hi211_0;have HC211_0:=Aside0.mk hl211_0;clear hi211_0 hl211_0;replace p211:=eq_true p211;replace q211:=eq_true q211
    go_wp2_with(first|(refine cal_ 107 (some 15) Try.func107 #[.slice A211_0 (rd_L1 l0 x7_1).length c211_0,.int .i64 0,.int .i64 (wrap64 (x7_1-1))] rfl (spec_l1Rising.calls k1 _ _ (rd_L1 l0 x7_1) 0 (wrap64 (x7_1-1)) true _ ?_ HC211_0.out A5.out) ?_;exact cC HR211_0;rintro e w' ⟨rfl,⟨nd,rfl⟩⟩;refine⟨_,rfl,?_⟩))
    go_roundg k1
    case measure=>have:=HK1.out;omega
    case rel=>exact⟨(wrap64 (x7_1+1)),eqx,H',⟨by have:=HK1.out;omega⟩,d0x⟩
   ·obtain rfl:=Option.some.inj H;have p211:0≤(x7_1:Int):=of_decide_eq_true asx;have q211:x7_1<(l0.length:Int):=of_decide_eq_true asx;obtain⟨ad211,A211_0,c211_0,e211,hx211_0,hl211_0,hi211_0⟩:=at_L1 HR0.out x7_1 p211 q211;cases e211;have HR211_0:=Aside0.mk hi211_0;have HC211_0:=Aside0.mk hl211_0;clear hi211_0 hl211_0;replace p211:=eq_true p211;replace q211:=eq_true q211
    go_wp2_with(first|(refine cal_ 107 (some 15) Try.func107 #[.slice A211_0 (rd_L1 l0 x7_1).length c211_0,.int .i64 0,.int .i64 (wrap64 (x7_1-1))] rfl (spec_l1Rising.calls k1 _ _ (rd_L1 l0 x7_1) 0 (wrap64 (x7_1-1)) false _ ?_ HC211_0.out A5.out) ?_;exact cC HR211_0;rintro e w' ⟨rfl,⟨nd,rfl⟩⟩;refine⟨_,rfl,?_⟩))
    go_ret
    exact⟨eqx,d0x⟩
  ·replace H:=bnd H;obtain⟨t213,A7,H⟩:=H;obtain rfl:=Option.some.inj H
   go_wp2_with(first|(refine cal_ 81 (some 20) Try.func81 #[.int .i64 (l0.length:Int),.int .i64 1,.int .i64 120] rfl (spec_l1In.calls (l0.length:Int) 1 120 t213 _ A7.out) ?_;rintro e w' ⟨rfl,⟨nd,rfl⟩⟩;refine⟨_,rfl,?_⟩))
   go_ret
   exact⟨eqx,d0x⟩
def spec_l1All.l0:Nat→Int→Int→List Int→Int→Int→Option (Bool)
 |0,_,_,_,_,_=>none
 |k+1,x1,x2,x9,x10,x11=>if x11<x10 then(if 0≤x11 then(if x11<(x9.length:Int)then((spec_l1In.f (rd x9 x11) x1 x2).bind fun t215=>(if t215=true then(spec_l1All.l0 k x1 x2 x9 x10 (wrap64 (x11+1)))else(some false)))else(none))else(none))else(some true)
def spec_l1All.f (k:Nat) (l0:List Int) (a1:Int) (a2:Int):Option (Bool):=spec_l1All.l0 k a1 a2 l0 (l0.length:Int) 0
set_option maxHeartbeats 8000000 in
set_option maxRecDepth 100000 in
theorem spec_l1All.calls (k:Nat) (A0:Option Addr) (c0:Nat) (l0:List Int) (a1:Int) (a2:Int) (r:Bool) (w:World) (hr0:Kd.C (Kd.int .i64) w A0 l0.length l0) (hc0:l0.length≤c0) (h:spec_l1All.f k l0 a1 a2=some r):
  Calls Try.prog 144 #[.slice A0 l0.length c0,.int .i64 a1,.int .i64 a2] w fun e w'=>e= .returned (.bool r)∧Drawn0 w w':=by
 have HR0:=Aside0.mk hr0;have HC0:=Aside0.mk hc0;clear hr0 hc0;have H:=h;clear h
 unfold spec_l1All.f at H
 have H':=Aside0.mk H;clear H
 go_enter Try.func144,Try.ntmps144
 go_wp2
 go_loopg [11] k (fun kq v11 w'=> ∃(x11_1:Int),v11= .int .i64 x11_1∧Aside0 (spec_l1All.l0 kq a1 a2 l0 (l0.length:Int) x11_1=some r)∧Aside0 (kq≤k)∧Drawn0 w w')
 case atStart=>exact⟨(0),eqx,H',⟨Nat.le_refl _⟩,d0x⟩
 case round=>
  clear H';obtain⟨x11_1,rfl,HA,HK1,⟨m1,rfl⟩⟩:=hrel;obtain _|k1:=gk
  ·exact nz HA.out
  have H:=HA.out;clear HA;simp only[spec_l1All.l0]at H;replace H:=itb H;rcases H with⟨c4b0,H⟩|⟨c4b0,H⟩
  ·replace H:=itd H;obtain⟨c5b0,H⟩:=H;replace H:=itd H;obtain⟨c6b0,H⟩:=H;replace H:=bnd H;obtain⟨t215,A7,H⟩:=H;replace H:=itt H;rcases H with⟨rfl,H⟩|⟨rfl,H⟩
   ·have H':=Aside0.mk H;clear H;obtain⟨ad214,e214,hx214_0,p214,q214⟩:=ldi (i:=x11_1) HR0.out;cases e214
    go_wp2_with(first|(refine cal_ 81 (some 18) Try.func81 #[.int .i64 (rd l0 x11_1),.int .i64 a1,.int .i64 a2] rfl (spec_l1In.calls (rd l0 x11_1) a1 a2 true _ A7.out) ?_;rintro e w' ⟨rfl,⟨nd,rfl⟩⟩;refine⟨_,rfl,?_⟩))
    go_roundg k1
    case measure=>have:=HK1.out;omega
    case rel=>exact⟨(wrap64 (x11_1+1)),eqx,H',⟨by have:=HK1.out;omega⟩,d0x⟩
   ·obtain rfl:=Option.some.inj H;obtain⟨ad214,e214,hx214_0,p214,q214⟩:=ldi (i:=x11_1) HR0.out;cases e214
    go_wp2_with(first|(refine cal_ 81 (some 18) Try.func81 #[.int .i64 (rd l0 x11_1),.int .i64 a1,.int .i64 a2] rfl (spec_l1In.calls (rd l0 x11_1) a1 a2 false _ A7.out) ?_;rintro e w' ⟨rfl,⟨nd,rfl⟩⟩;refine⟨_,rfl,?_⟩))
    go_ret
    exact⟨eqx,d0x⟩
  ·obtain rfl:=Option.some.inj H;go_wp2
   go_ret
   exact⟨eqx,d0x⟩
def spec_vaGood.f (k:Nat) (l0:List Int) (a1:Int):Option (Bool):=if(l0.length:Int)=a1 then((spec_l1In.f a1 1 120).bind fun t216=>(if t216=true then((spec_l1All.f k l0 (-1000000) 1000000).bind fun t217=>(some t217))else(some false)))else(some false)
set_option maxHeartbeats 8000000 in
set_option maxRecDepth 100000 in
theorem spec_vaGood.calls (k:Nat) (A0:Option Addr) (c0:Nat) (l0:List Int) (a1:Int) (r:Bool) (w:World) (hr0:Kd.C (Kd.int .i64) w A0 l0.length l0) (hc0:l0.length≤c0) (h:spec_vaGood.f k l0 a1=some r):
  Calls Try.prog 133 #[.slice A0 l0.length c0,.int .i64 a1] w fun e w'=>e= .returned (.bool r)∧Drawn0 w w':=by
 have HR0:=Aside0.mk hr0;have HC0:=Aside0.mk hc0;clear hr0 hc0;have H:=h;clear h
 unfold spec_vaGood.f at H
 replace H:=itp H;rcases H with⟨c3,H⟩|⟨c3,H⟩
 ·have c3b0:((l0.length:Int)==a1)=true:=beq_iff_eq.mpr c3;have c3b1:((l0.length:Int) !=a1)=false:=bne_eq_false_iff_eq.mpr c3;clear c3;replace H:=bnd H;obtain⟨t216,A4,H⟩:=H;replace H:=itt H;rcases H with⟨rfl,H⟩|⟨rfl,H⟩
  ·replace H:=bnd H;obtain⟨t217,A6,H⟩:=H;obtain rfl:=Option.some.inj H
   go_enter Try.func133,Try.ntmps133
   go_wp2_with(first|(go_at_call 81;(with_reducible refine(spec_l1In.calls a1 1 120 true _ A4.out).mono ?_);rintro e w' ⟨rfl,⟨nd,rfl⟩⟩)|(go_at_call 144;(with_reducible refine(spec_l1All.calls k _ _ l0 (-1000000) 1000000 t217 _ ?_ HC0.out A6.out).mono ?_);exact cC HR0;rintro e w' ⟨rfl,⟨nd,rfl⟩⟩))
   go_ret
   exact⟨eqx,d0x⟩
  ·obtain rfl:=Option.some.inj H
   go_enter Try.func133,Try.ntmps133
   go_wp2_with(first|(go_at_call 81;(with_reducible refine(spec_l1In.calls a1 1 120 false _ A4.out).mono ?_);rintro e w' ⟨rfl,⟨nd,rfl⟩⟩))
   go_ret
   exact⟨eqx,d0x⟩
 ·have c3b0:((l0.length:Int)==a1)=false:=beq_eq_false_iff_ne.mpr c3;have c3b1:((l0.length:Int) !=a1)=true:=bne_iff_ne.mpr c3;obtain rfl:=Option.some.inj H
  go_enter Try.func133,Try.ntmps133
  go_wp2
  go_ret
  exact⟨eqx,d0x⟩
def spec_paGood.f (k:Nat) (l0:List (List Int)) (l1:List Int):Option (Bool):=(spec_clArcs.f k l0).bind fun t218=>(if t218=true then((spec_vaGood.f k l1 (l0.length:Int)).bind fun t219=>(some t219))else(some false))
set_option maxHeartbeats 8000000 in
set_option maxRecDepth 100000 in
theorem spec_paGood.calls (k:Nat) (A0:Option Addr) (c0:Nat) (l0:List (List Int)) (A1:Option Addr) (c1:Nat) (l1:List Int) (r:Bool) (w:World) (hr0:Kd.C (Kd.slice 3 (Kd.int .i64)) w A0 l0.length l0) (hc0:l0.length≤c0) (hr1:Kd.C (Kd.int .i64) w A1 l1.length l1) (hc1:l1.length≤c1) (h:spec_paGood.f k l0 l1=some r):
  Calls Try.prog 75 #[.slice A0 l0.length c0,.slice A1 l1.length c1] w fun e w'=>e= .returned (.bool r)∧Drawn0 w w':=by
 have HR0:=Aside0.mk hr0;have HC0:=Aside0.mk hc0;clear hr0 hc0;have HR1:=Aside0.mk hr1;have HC1:=Aside0.mk hc1;clear hr1 hc1;have H:=h;clear h
 unfold spec_paGood.f at H
 replace H:=bnd H;obtain⟨t218,A3,H⟩:=H;replace H:=itt H;rcases H with⟨rfl,H⟩|⟨rfl,H⟩
 ·replace H:=bnd H;obtain⟨t219,A5,H⟩:=H;obtain rfl:=Option.some.inj H
  go_enter Try.func75,Try.ntmps75
  go_wp2_with(first|(refine cal_ 132 (some 6) Try.func132 #[.slice A0 l0.length c0] rfl (spec_clArcs.calls k _ _ l0 true _ ?_ HC0.out A3.out) ?_;exact cC HR0;rintro e w' ⟨rfl,⟨nd,rfl⟩⟩;refine⟨_,rfl,?_⟩)|(go_at_call 133;(with_reducible refine(spec_vaGood.calls k _ _ l1 (l0.length:Int) t219 _ ?_ HC1.out A5.out).mono ?_);exact cC HR1;rintro e w' ⟨rfl,⟨nd,rfl⟩⟩))
  go_ret
  exact⟨eqx,d0x⟩
 ·obtain rfl:=Option.some.inj H
  go_enter Try.func75,Try.ntmps75
  go_wp2_with(first|(refine cal_ 132 (some 6) Try.func132 #[.slice A0 l0.length c0] rfl (spec_clArcs.calls k _ _ l0 false _ ?_ HC0.out A3.out) ?_;exact cC HR0;rintro e w' ⟨rfl,⟨nd,rfl⟩⟩;refine⟨_,rfl,?_⟩))
  go_ret
  exact⟨eqx,d0x⟩
end Go.Proofs.Ytlkppimbbbdmbaa.PFnForced
