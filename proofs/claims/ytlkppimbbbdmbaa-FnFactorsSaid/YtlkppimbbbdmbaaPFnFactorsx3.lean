-- Printed by a changed copy of the printer; impl.bestPit and spec.paFind by contracts walked by hand
import Derived.Test.YtlkppimbbbdmbaaPFnFactorsx0
namespace Go.Proofs.Ytlkppimbbbdmbaa.PFnFactors
open Go.RowKit Go.Proofs.YtlkppimbbbdmbaaW.PrintWords Go.Proofs.YtlkppimbbbdmbaaW.PrintLast Go.Proofs.YtlkppimbbbdmbaaW.PrintMore
attribute [local go_sem] max2_int min2_int max_two min_two max_three min_three max_four min_four
set_option linter.unusedVariables false
set_option linter.unusedSimpArgs false
def laws_qHas.l0:Nat→Int→List Int→Int→Int→Option (Bool)
 |0,_,_,_,_=>none
 |k+1,x1,x7,x8,x9=>if x9<x8 then(if 0≤x9 then(if x9<(x7.length:Int)then(if(rd x7 x9)=x1 then(some true)else(laws_qHas.l0 k x1 x7 x8 (wrap64 (x9+1))))else(none))else(none))else(some false)
def laws_qHas.f (k:Nat) (l0:List Int) (a1:Int):Option (Bool):=laws_qHas.l0 k a1 l0 (l0.length:Int) 0
set_option maxHeartbeats 8000000 in
set_option maxRecDepth 100000 in
theorem laws_qHas.calls (k:Nat) (A0:Option Addr) (c0:Nat) (l0:List Int) (a1:Int) (r:Bool) (w:World) (hr0:Kd.C (Kd.int .i64) w A0 l0.length l0) (hc0:l0.length≤c0) (h:laws_qHas.f k l0 a1=some r):
  Calls Try.prog 18 #[.slice A0 l0.length c0,.int .i64 a1] w fun e w'=>e= .returned (.bool r)∧Drawn0 w w':=by
 have HR0:=Aside0.mk hr0;have HC0:=Aside0.mk hc0;clear hr0 hc0;have H:=h;clear h
 unfold laws_qHas.f at H
 have H':=Aside0.mk H;clear H
 go_enter Try.func18,Try.ntmps18
 go_wp2
 go_loopg [9] k (fun kq v9 w'=> ∃(x9_1:Int),v9= .int .i64 x9_1∧Aside0 (laws_qHas.l0 kq a1 l0 (l0.length:Int) x9_1=some r)∧Aside0 (kq≤k)∧Drawn0 w w')
 case atStart=>exact⟨(0),eqx,H',⟨Nat.le_refl _⟩,d0x⟩
 case round=>
  clear H';obtain⟨x9_1,rfl,HA,HK1,⟨m1,rfl⟩⟩:=hrel;obtain _|k1:=gk
  ·exact nz HA.out
  have H:=HA.out;clear HA;simp only[laws_qHas.l0]at H;replace H:=itb H;rcases H with⟨c3b0,H⟩|⟨c3b0,H⟩
  ·replace H:=itd H;obtain⟨c4b0,H⟩:=H;replace H:=itd H;obtain⟨c5b0,H⟩:=H;replace H:=itp H;rcases H with⟨c6,H⟩|⟨c6,H⟩
   ·have c6b0:((rd l0 x9_1)==a1)=true:=beq_iff_eq.mpr c6;have c6b1:((rd l0 x9_1) !=a1)=false:=bne_eq_false_iff_eq.mpr c6;clear c6;obtain rfl:=Option.some.inj H;obtain⟨ad210,e210,hx210_0,p210,q210⟩:=ldi (i:=x9_1) HR0.out;cases e210;go_wp2
    go_ret
    exact⟨eqx,d0x⟩
   ·have c6b0:((rd l0 x9_1)==a1)=false:=beq_eq_false_iff_ne.mpr c6;have c6b1:((rd l0 x9_1) !=a1)=true:=bne_iff_ne.mpr c6;have H':=Aside0.mk H;clear H;obtain⟨ad210,e210,hx210_0,p210,q210⟩:=ldi (i:=x9_1) HR0.out;cases e210;go_wp2
    go_roundg k1
    case measure=>have:=HK1.out;omega
    case rel=>exact⟨(wrap64 (x9_1+1)),eqx,H',⟨by have:=HK1.out;omega⟩,d0x⟩
  ·obtain rfl:=Option.some.inj H;go_wp2
   go_ret
   exact⟨eqx,d0x⟩
def impl_allIn.l0:Nat→List Bool→List Int→Int→Int→Option (Bool)
 |0,_,_,_,_=>none
 |k+1,x0,x7,x8,x9=>if x9<x8 then(if 0≤x9 then(if x9<(x7.length:Int)then(if 0≤(rd x7 x9)then(if(rd x7 x9)<(x0.length:Int)then(if(rdOf false x0 (rd x7 x9)=true)then(impl_allIn.l0 k x0 x7 x8 (wrap64 (x9+1)))else(some false))else(none))else(none))else(none))else(none))else(some true)
def impl_allIn.f (k:Nat) (l0:List Bool) (l1:List Int):Option (Bool):=impl_allIn.l0 k l0 l1 (l1.length:Int) 0
set_option maxHeartbeats 8000000 in
set_option maxRecDepth 100000 in
theorem impl_allIn.calls (k:Nat) (A0:Option Addr) (c0:Nat) (l0:List Bool) (A1:Option Addr) (c1:Nat) (l1:List Int) (r:Bool) (w:World) (hr0:Kd.C Kd.bool w A0 l0.length l0) (hc0:l0.length≤c0) (hr1:Kd.C (Kd.int .i64) w A1 l1.length l1) (hc1:l1.length≤c1) (h:impl_allIn.f k l0 l1=some r):
  Calls Try.prog 105 #[.slice A0 l0.length c0,.slice A1 l1.length c1] w fun e w'=>e= .returned (.bool r)∧Drawn0 w w':=by
 have HR0:=Aside0.mk hr0;have HC0:=Aside0.mk hc0;clear hr0 hc0;have HR1:=Aside0.mk hr1;have HC1:=Aside0.mk hc1;clear hr1 hc1;have H:=h;clear h
 unfold impl_allIn.f at H
 have H':=Aside0.mk H;clear H
 go_enter Try.func105,Try.ntmps105
 go_wp2
 go_loopg [9] k (fun kq v9 w'=> ∃(x9_1:Int),v9= .int .i64 x9_1∧Aside0 (impl_allIn.l0 kq l0 l1 (l1.length:Int) x9_1=some r)∧Aside0 (kq≤k)∧Drawn0 w w')
 case atStart=>exact⟨(0),eqx,H',⟨Nat.le_refl _⟩,d0x⟩
 case round=>
  clear H';obtain⟨x9_1,rfl,HA,HK1,⟨m1,rfl⟩⟩:=hrel;obtain _|k1:=gk
  ·exact nz HA.out
  have H:=HA.out;clear HA;simp only[impl_allIn.l0]at H;replace H:=itb H;rcases H with⟨c3b0,H⟩|⟨c3b0,H⟩
  ·replace H:=itd H;obtain⟨c4b0,H⟩:=H;replace H:=itd H;obtain⟨c5b0,H⟩:=H;replace H:=itd H;obtain⟨c6b0,H⟩:=H;replace H:=itd H;obtain⟨c7b0,H⟩:=H;obtain⟨bq8,hbq8⟩: ∃b_:Bool,b_=(rdOf false l0 (rd l1 x9_1)):=⟨_,rfl⟩;replace H:(if(bq8=true)then(impl_allIn.l0 k1 l0 l1 (l1.length:Int) (wrap64 (x9_1+1)))else(some false))=some r:=by rw[←hbq8]at H;exact H
   have Nbq8:=Aside0.mk hbq8;clear hbq8;replace H:=itt H;rcases H with⟨rfl,H⟩|⟨rfl,H⟩
   ·have H':=Aside0.mk H;clear H;obtain⟨ad211,e211,hx211_0,p211,q211⟩:=ldi (i:=x9_1) HR1.out;cases e211;have p212:0≤((rd l1 x9_1):Int):=of_decide_eq_true asx;have q212:(rd l1 x9_1)<(l0.length:Int):=of_decide_eq_true asx;obtain⟨ad212,e212,hx212_0⟩:=Kd.at_bool HR0.out (rd l1 x9_1) p212 q212
    (try rw[←Nbq8.out]at hx212_0)
    cases e212;replace p212:=eq_true p212;replace q212:=eq_true q212;go_wp2
    go_roundg k1
    case measure=>have:=HK1.out;omega
    case rel=>exact⟨(wrap64 (x9_1+1)),eqx,H',⟨by have:=HK1.out;omega⟩,d0x⟩
   ·obtain rfl:=Option.some.inj H;obtain⟨ad211,e211,hx211_0,p211,q211⟩:=ldi (i:=x9_1) HR1.out;cases e211;have p212:0≤((rd l1 x9_1):Int):=of_decide_eq_true asx;have q212:(rd l1 x9_1)<(l0.length:Int):=of_decide_eq_true asx;obtain⟨ad212,e212,hx212_0⟩:=Kd.at_bool HR0.out (rd l1 x9_1) p212 q212
    (try rw[←Nbq8.out]at hx212_0)
    cases e212;replace p212:=eq_true p212;replace q212:=eq_true q212;go_wp2
    go_ret
    exact⟨eqx,d0x⟩
  ·obtain rfl:=Option.some.inj H;go_wp2
   go_ret
   exact⟨eqx,d0x⟩
def impl_markOf.l0:Nat→List Bool→List Int→Int→Int→Option (List Bool)
 |0,_,_,_,_=>none
 |k+1,x5,x10,x11,x12=>if x12<x11 then(if 0≤x12 then(if x12<(x10.length:Int)then(if 0≤(rd x10 x12)then(if(rd x10 x12)<(x5.length:Int)then(impl_markOf.l0 k (x5.set ((rd x10 x12):Int).toNat true) x10 x11 (wrap64 (x12+1)))else(none))else(none))else(none))else(none))else(some x5)
def impl_markOf.f (k:Nat) (a0:Int) (l1:List Int):Option (List Bool):=if 0≤a0 then(if(a0:Int).toNat≤281474976710656 then(impl_markOf.l0 k (List.replicate (a0:Int).toNat false) l1 (l1.length:Int) 0)else(none))else(none)
set_option maxHeartbeats 8000000 in
set_option maxRecDepth 100000 in
theorem impl_markOf.calls (k:Nat) (a0:Int) (A1:Option Addr) (c1:Nat) (l1:List Int) (r:List Bool) (w:World) (hr1:Kd.C (Kd.int .i64) w A1 l1.length l1) (hc1:l1.length≤c1) (h:impl_markOf.f k a0 l1=some r):
  Calls Try.prog 106 #[.int .i64 a0,.slice A1 l1.length c1] w fun e w'=> ∃v0_:Value,e= .returned (v0_)∧Kd.R Kd.bool 4 w' w.heap.size (fun _=>True) v0_ r∧Below w.heap.size w w':=by
 have HR1:=Aside0.mk hr1;have HC1:=Aside0.mk hc1;clear hr1 hc1;have HB:=Aside0.mk (Below.refl w.heap.size w);have H:=h;clear h
 unfold impl_markOf.f at H
 replace H:=itp H;rcases H with⟨c3,H⟩|⟨c3,H⟩
 ·have c3b0:=eq_true c3;have c3b1:=decide_eq_true c3;clear c3;replace H:=ite_ H;obtain⟨c4b0,c4b1,H⟩:=H;obtain⟨y213,Ny213⟩:=nmx ((List.replicate (a0:Int).toNat false):List Bool);rw[←Ny213.out]at H;have H':=Aside0.mk H;clear H
  go_enter Try.func106,Try.ntmps106
  go_wp2_with(first|((with_reducible refine gate_dst (N:=9) rfl ?_);refine Kd.R_make Kd.bool _ 4 rfl (N:=9) rfl 80 _ _ rfl a0 rfl rfl Try.underlying80 (.bool false) 1 info4 rfl (by decide) (by omega) false (ok:=fun _=>True) (okp:=fun _=>True) rfl (fun _ hk=>hk) trivial (of_decide_eq_true asx) (Nat.le_trans (Nat.mul_le_mul_right _ (of_decide_eq_true asx:a0.toNat≤281474976710656)) (by omega)) (Below.refl _ _) (Nat.le_refl _) ?_;intro v214 w5 ho6 hb hg_ hnew_;clear hg_ hnew_;(first|rw[←Ny213.out]at ho6|(simp only[Int.reduceToNat]at ho6;rw[←Ny213.out]at ho6));have HO215:=eRr ho6 (bz HB);replace HB:=bs HB hb;clear hb ho6))
  go_loopg [12] k (fun kq v12 w'=> ∃(x5_1:List Bool) (x12_1:Int),v12= .int .i64 x12_1∧Aside0 (impl_markOf.l0 kq x5_1 l1 (l1.length:Int) x12_1=some r)∧Aside0 (kq≤k)∧Aside0 (Kd.R Kd.bool 4 w' w.heap.size (fun _=>True) v214 x5_1)∧Aside0 (Below w.heap.size w w'))
  case atStart=>exact⟨(y213),(0),eqx,H',⟨Nat.le_refl _⟩,mR HO215,⟨cB HB⟩⟩
  case round=>
   clear H';obtain⟨x5_1,x12_1,rfl,HA,HK1,HO_5,HB⟩:=hrel;obtain _|k1:=gk
   ·exact nz HA.out
   have H:=HA.out;clear HA;simp only[impl_markOf.l0]at H;replace H:=itb H;rcases H with⟨c7b0,H⟩|⟨c7b0,H⟩
   ·replace H:=itd H;obtain⟨c8b0,H⟩:=H;replace H:=itd H;obtain⟨c9b0,H⟩:=H;replace H:=itd H;obtain⟨c10b0,H⟩:=H;replace H:=itd H;obtain⟨c11b0,H⟩:=H;obtain⟨y217,Ny217⟩:=nmx ((x5_1.set ((rd l1 x12_1):Int).toNat true):List Bool);rw[←Ny217.out]at H;have H':=Aside0.mk H;clear H;obtain⟨ad216,e216,hx216_0,p216,q216⟩:=ldi (i:=x12_1) HR1.out;cases e216;replace hx216_0:=hc_ HB hx216_0;have p12:0≤((rd l1 x12_1):Int):=of_decide_eq_true asx;have q12:((rd l1 x12_1):Int)<((x5_1.length:Int):Int):=of_decide_eq_true asx;obtain⟨go12,co12,eo12,gb12,gl12,cl12,HG12⟩:=Kd.R_form HO_5.out (by omega)
    (first|cases eo12|(injection eo12 with ea_ en_ ec_;(first|subst ea_|(injection ea_ with ea_;subst ea_));subst ec_;clear en_))
    have GB12:=Aside0.mk gb12;have GG12:=Aside0.mk HG12;clear gb12 gl12 HG12;obtain⟨hx12_0,hf12_0⟩:=Kd.R_celln false HO_5.out ((rd l1 x12_1):Int) p12 q12;replace p12:=eq_true p12;replace q12:=eq_true q12;have HP13:=Kd.R_putg HO_5.out ((rd l1 x12_1):Int) true
    go_wp2_with(first|((with_reducible refine gate_store (t:=4) (p:=18) rfl ?_);refine store_event (t:=4) (p:=18) (v:=?vo_w14) (w1:=(wr.setCell ⟨go12,((rd l1 x12_1):Int).toNat,none⟩ (.bool true))) ?hg ?ho ?hn ?hr ?_;(case ho=>rfl);(case hg=>rfl);(case hn=>rfl);(case hr=>first|(go_simp;done)|(go_simp;rfl));intro w14 hw;have hg:wr.grownBy w14 (some go12):=(by rw[hw];exact HP13.2);have hp_:Kd.R Kd.bool 4 w14 w.heap.size (fun _=>True) (.slice (some ⟨go12,0,none⟩) x5_1.length co12) y217:=(by rw[hw,Ny217.out];exact HP13.1);clear HP13;replace HO_5:=Aside0.mk hp_;replace HB:=Aside0.mk (by rw[hw];exact below_set (HB.out) GB12.out:Below w.heap.size w w14);clear hg hw hp_))
    go_roundg k1
    case measure=>have:=HK1.out;omega
    case rel=>exact⟨(y217),(wrap64 (x12_1+1)),eqx,H',⟨by have:=HK1.out;omega⟩,mR HO_5,⟨cB HB⟩⟩
   ·obtain rfl:=Option.some.inj H;go_wp2
    go_ret
    exact⟨_,erx,by(with_reducible repeat(first|apply Kd.R_alloc|apply Kd.R_drewN|apply Kd.R_drew));exact HO_5.out,cB HB⟩
 ·exact absurd H (by simp)
end Go.Proofs.Ytlkppimbbbdmbaa.PFnFactors
