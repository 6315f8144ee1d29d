-- Printed by a changed copy of the printer; impl.bestPit and spec.paFind by contracts walked by hand
import Derived.Test.YtlkppimbbbdmbaaPFnForcedx0
import Derived.Test.YtlkppimbbbdmbaaPFnForcedx6
import Derived.Test.YtlkppimbbbdmbaaPFnForcedx15
namespace Go.Proofs.Ytlkppimbbbdmbaa.PFnForced
open Go.RowKit Go.Proofs.YtlkppimbbbdmbaaW.PrintWords Go.Proofs.YtlkppimbbbdmbaaW.PrintLast Go.Proofs.YtlkppimbbbdmbaaW.PrintMore
attribute [local go_sem] max2_int min2_int max_two min_two max_three min_three max_four min_four
set_option linter.unusedVariables false
set_option linter.unusedSimpArgs false
def spec_clMarks.l0:Nat→List Bool→List Int→Int→Int→Option (List Bool)
 |0,_,_,_,_=>none
 |k+1,x5,x10,x11,x12=>if x12<x11 then(if 0≤x12 then(if x12<(x10.length:Int)then(if 0≤(rd x10 x12)then(if(rd x10 x12)<(x5.length:Int)then(spec_clMarks.l0 k (x5.set ((rd x10 x12):Int).toNat true) x10 x11 (wrap64 (x12+1)))else(none))else(none))else(none))else(none))else(some x5)
def spec_clMarks.f (k:Nat) (a0:Int) (l1:List Int):Option (List Bool):=if 0≤a0 then(if(a0:Int).toNat≤281474976710656 then(spec_clMarks.l0 k (List.replicate (a0:Int).toNat false) l1 (l1.length:Int) 0)else(none))else(none)
set_option maxHeartbeats 8000000 in
set_option maxRecDepth 100000 in
theorem spec_clMarks.calls (k:Nat) (a0:Int) (A1:Option Addr) (c1:Nat) (l1:List Int) (r:List Bool) (w:World) (hr1:Kd.C (Kd.int .i64) w A1 l1.length l1) (hc1:l1.length≤c1) (h:spec_clMarks.f k a0 l1=some r):
  Calls Try.prog 135 #[.int .i64 a0,.slice A1 l1.length c1] w fun e w'=> ∃v0_:Value,e= .returned (v0_)∧Kd.R Kd.bool 4 w' w.heap.size (fun _=>True) v0_ r∧Below w.heap.size w w':=by
 have HR1:=Aside0.mk hr1;have HC1:=Aside0.mk hc1;clear hr1 hc1;have HB:=Aside0.mk (Below.refl w.heap.size w);have H:=h;clear h
 unfold spec_clMarks.f at H
 replace H:=itp H;rcases H with⟨c3,H⟩|⟨c3,H⟩
 ·have c3b0:=eq_true c3;have c3b1:=decide_eq_true c3;clear c3;replace H:=ite_ H;obtain⟨c4b0,c4b1,H⟩:=H;obtain⟨y814,Ny814⟩:=nmx ((List.replicate (a0:Int).toNat false):List Bool);rw[←Ny814.out]at H;have H':=Aside0.mk H;clear H
  go_enter Try.func135,Try.ntmps135
  go_wp2_with(first|((with_reducible refine gate_dst (N:=9) rfl ?_);refine Kd.R_make Kd.bool _ 4 rfl (N:=9) rfl 80 _ _ rfl a0 rfl rfl Try.underlying80 (.bool false) 1 info4 rfl (by decide) (by omega) false (ok:=fun _=>True) (okp:=fun _=>True) rfl (fun _ hk=>hk) trivial (of_decide_eq_true asx) (Nat.le_trans (Nat.mul_le_mul_right _ (of_decide_eq_true asx:a0.toNat≤281474976710656)) (by omega)) (Below.refl _ _) (Nat.le_refl _) ?_;intro v815 w5 ho6 hb hg_ hnew_;clear hg_ hnew_;(first|rw[←Ny814.out]at ho6|(simp only[Int.reduceToNat]at ho6;rw[←Ny814.out]at ho6));have HO816:=eRr ho6 (bz HB);replace HB:=bs HB hb;clear hb ho6))
  go_loopg [12] k (fun kq v12 w'=> ∃(x5_1:List Bool) (x12_1:Int),v12= .int .i64 x12_1∧Aside0 (spec_clMarks.l0 kq x5_1 l1 (l1.length:Int) x12_1=some r)∧Aside0 (kq≤k)∧Aside0 (Kd.R Kd.bool 4 w' w.heap.size (fun _=>True) v815 x5_1)∧Aside0 (Below w.heap.size w w'))
  case atStart=>exact⟨(y814),(0),eqx,H',⟨Nat.le_refl _⟩,mR HO816,⟨cB HB⟩⟩
  case round=>
   clear H';obtain⟨x5_1,x12_1,rfl,HA,HK1,HO_5,HB⟩:=hrel;obtain _|k1:=gk
   ·exact nz HA.out
   have H:=HA.out;clear HA;simp only[spec_clMarks.l0]at H;replace H:=itb H;rcases H with⟨c7b0,H⟩|⟨c7b0,H⟩
   ·replace H:=itd H;obtain⟨c8b0,H⟩:=H;replace H:=itd H;obtain⟨c9b0,H⟩:=H;replace H:=itd H;obtain⟨c10b0,H⟩:=H;replace H:=itd H;obtain⟨c11b0,H⟩:=H;obtain⟨y818,Ny818⟩:=nmx ((x5_1.set ((rd l1 x12_1):Int).toNat true):List Bool);rw[←Ny818.out]at H;have H':=Aside0.mk H;clear H;obtain⟨ad817,e817,hx817_0,p817,q817⟩:=ldi (i:=x12_1) HR1.out;cases e817;replace hx817_0:=hc_ HB hx817_0;have p12:0≤((rd l1 x12_1):Int):=of_decide_eq_true asx;have q12:((rd l1 x12_1):Int)<((x5_1.length:Int):Int):=of_decide_eq_true asx;obtain⟨go12,co12,eo12,gb12,gl12,cl12,HG12⟩:=Kd.R_form HO_5.out (by omega)
    (first|cases eo12|(injection eo12 with ea_ en_ ec_;(first|subst ea_|(injection ea_ with ea_;subst ea_));subst ec_;clear en_))
    have GB12:=Aside0.mk gb12;have GG12:=Aside0.mk HG12;clear gb12 gl12 HG12;obtain⟨hx12_0,hf12_0⟩:=Kd.R_celln false HO_5.out ((rd l1 x12_1):Int) p12 q12;replace p12:=eq_true p12;replace q12:=eq_true q12;have HP13:=Kd.R_putg HO_5.out ((rd l1 x12_1):Int) true
    go_wp2_with(first|((with_reducible refine gate_store (t:=4) (p:=18) rfl ?_);refine store_event (t:=4) (p:=18) (v:=?vo_w14) (w1:=(wr.setCell ⟨go12,((rd l1 x12_1):Int).toNat,none⟩ (.bool true))) ?hg ?ho ?hn ?hr ?_;(case ho=>rfl);(case hg=>rfl);(case hn=>rfl);(case hr=>first|(go_simp;done)|(go_simp;rfl));intro w14 hw;have hg:wr.grownBy w14 (some go12):=(by rw[hw];exact HP13.2);have hp_:Kd.R Kd.bool 4 w14 w.heap.size (fun _=>True) (.slice (some ⟨go12,0,none⟩) x5_1.length co12) y818:=(by rw[hw,Ny818.out];exact HP13.1);clear HP13;replace HO_5:=Aside0.mk hp_;replace HB:=Aside0.mk (by rw[hw];exact below_set (HB.out) GB12.out:Below w.heap.size w w14);clear hg hw hp_))
    go_roundg k1
    case measure=>have:=HK1.out;omega
    case rel=>exact⟨(y818),(wrap64 (x12_1+1)),eqx,H',⟨by have:=HK1.out;omega⟩,mR HO_5,⟨cB HB⟩⟩
   ·obtain rfl:=Option.some.inj H;go_wp2
    go_ret
    exact⟨_,erx,by(with_reducible repeat(first|apply Kd.R_alloc|apply Kd.R_drewN|apply Kd.R_drew));exact HO_5.out,cB HB⟩
 ·exact absurd H (by simp)
def spec_clList.l0:Nat→List Int→List Bool→Int→Int→Option (List Int)
 |0,_,_,_,_=>none
 |k+1,x3,x6,x7,x8=>if x8<x7 then(if 0≤x8 then(if x8<(x6.length:Int)then(if rdOf false x6 x8=true then(if x3.length<17592186044416 then(spec_clList.l0 k (x3++[x8]) x6 x7 (wrap64 (x8+1)))else(none))else(spec_clList.l0 k x3 x6 x7 (wrap64 (x8+1))))else(none))else(none))else(some x3)
def spec_clList.f (k:Nat) (l0:List Bool):Option (List Int):=spec_clList.l0 k ([]:List Int) l0 (l0.length:Int) 0
set_option maxHeartbeats 8000000 in
set_option maxRecDepth 100000 in
theorem spec_clList.calls (k:Nat) (A0:Option Addr) (c0:Nat) (l0:List Bool) (r:List Int) (w:World) (hr0:Kd.C Kd.bool w A0 l0.length l0) (hc0:l0.length≤c0) (h:spec_clList.f k l0=some r):
  Calls Try.prog 136 #[.slice A0 l0.length c0] w fun e w'=> ∃v0_:Value,e= .returned (v0_)∧Kd.R (Kd.int .i64) 3 w' w.heap.size (fun _=>True) v0_ r∧Below w.heap.size w w':=by
 have HR0:=Aside0.mk hr0;have HC0:=Aside0.mk hc0;clear hr0 hc0;have HB:=Aside0.mk (Below.refl w.heap.size w);have H:=h;clear h
 unfold spec_clList.f at H
 have H':=Aside0.mk H;clear H
 go_enter Try.func136,Try.ntmps136
 go_wp2
 go_loopg [3,8] k (fun kq v3 v8 w'=> ∃(x3_1:List Int) (x8_1:Int),v8= .int .i64 x8_1∧Aside0 (spec_clList.l0 kq x3_1 l0 (l0.length:Int) x8_1=some r)∧Aside0 (kq≤k)∧Aside0 (Kd.R (Kd.int .i64) 3 w' w.heap.size (fun _=>True) v3 x3_1)∧Aside0 (Below w.heap.size w w'))
 case atStart=>exact⟨(([]:List Int)),(0),eqx,H',⟨Nat.le_refl _⟩,⟨nlx⟩,⟨cB HB⟩⟩
 case round=>
  clear H';obtain⟨x3_1,x8_1,rfl,HA,HK1,HO_3,HB⟩:=hrel;obtain _|k1:=gk
  ·exact nz HA.out
  have H:=HA.out;clear HA;simp only[spec_clList.l0]at H;replace H:=itb H;rcases H with⟨c2b0,H⟩|⟨c2b0,H⟩
  ·replace H:=itd H;obtain⟨c3b0,H⟩:=H;replace H:=itd H;obtain⟨c4b0,H⟩:=H;obtain⟨bq5,hbq5⟩: ∃b_:Bool,b_=(rdOf false l0 x8_1):=⟨_,rfl⟩;replace H:(if bq5=true then(if x3_1.length<17592186044416 then(spec_clList.l0 k1 (x3_1++[x8_1]) l0 (l0.length:Int) (wrap64 (x8_1+1)))else(none))else(spec_clList.l0 k1 x3_1 l0 (l0.length:Int) (wrap64 (x8_1+1))))=some r:=by rw[←hbq5]at H;exact H
   have Nbq5:=Aside0.mk hbq5;clear hbq5;replace H:=itt H;rcases H with⟨rfl,H⟩|⟨rfl,H⟩
   ·replace H:=itm H;obtain⟨LMc7,H⟩:=H;obtain⟨y820,Ny820⟩:=nmx ((x3_1++[x8_1]):List Int);rw[←Ny820.out]at H;have H':=Aside0.mk H;clear H;have p819:0≤(x8_1:Int):=of_decide_eq_true asx;have q819:x8_1<(l0.length:Int):=of_decide_eq_true asx;obtain⟨ad819,e819,hx819_0⟩:=Kd.at_bool HR0.out x8_1 p819 q819
    (try rw[←Nbq5.out]at hx819_0)
    cases e819;replace hx819_0:=hc_ HB hx819_0;replace p819:=eq_true p819;replace q819:=eq_true q819
    go_wp2_with(first|((with_reducible refine gate_builtin (b:= .append) (xs:= #[.tmp 14,.tmp 16]) rfl ?_);at_builtin;refine Kd.R_append (Kd.int .i64) (w0:=w) w.heap.size rfl (.tmp 14) (.tmp 16) 24 3 (.int .i64 0) 8 rfl Try.underlying24 info3 rfl (by decide) (by omega) u3 x3_1 x8_1 [.int .i64 x8_1] (fun _=>True) (fun _=>False) rfl rfl ?aP (fun _ hk=>hk.elim) ?aF ?aO ?aB ?aS ?aL ?_;(case aP=>exact rfl);(case aB=>exact(cB HB));(case aF=>exact(fun _ _=>trivial));(case aO=>exact(cR HO_3));(case aS=>exact(bz HB));(case aL=>have:=LMc7.out;omega);intro v821 w8 ho hb hg hat;rw[←Ny820.out]at ho;have n0_:=Aside0.mk hb;have n1_:=Aside0.mk ho;clear HB HO_3;have HB:=n0_;have HO822:=n1_;clear n0_ n1_ ho hb hg hat))
    go_roundg k1
    case measure=>have:=HK1.out;omega
    case rel=>exact⟨(y820),(wrap64 (x8_1+1)),eqx,H',⟨by have:=HK1.out;omega⟩,mR HO822,⟨cB HB⟩⟩
   ·have H':=Aside0.mk H;clear H;have p819:0≤(x8_1:Int):=of_decide_eq_true asx;have q819:x8_1<(l0.length:Int):=of_decide_eq_true asx;obtain⟨ad819,e819,hx819_0⟩:=Kd.at_bool HR0.out x8_1 p819 q819
    (try rw[←Nbq5.out]at hx819_0)
    cases e819;replace hx819_0:=hc_ HB hx819_0;replace p819:=eq_true p819;replace q819:=eq_true q819;go_wp2
    go_roundg k1
    case measure=>have:=HK1.out;omega
    case rel=>exact⟨(x3_1),(wrap64 (x8_1+1)),eqx,H',⟨by have:=HK1.out;omega⟩,mR HO_3,⟨cB HB⟩⟩
  ·obtain rfl:=Option.some.inj H;go_wp2
   go_ret
   exact⟨_,erx,by(with_reducible repeat(first|apply Kd.R_alloc|apply Kd.R_drewN|apply Kd.R_drew));exact HO_3.out,cB HB⟩
mutual
def spec_clLeast.l0:Nat→List (List Int)→List Bool→Int→Option (List Int)
 |0,_,_,_=>none
 |k+1,x0,x5,x6=>if x6≥0 then(if 0≤x6 then(if x6<(x5.length:Int)then(if rdOf false x5 x6=true then(if x6<(x0.length:Int)then(spec_clLeast.l1 k x0 x5 x6 (rd_L1 x0 x6) ((rd_L1 x0 x6).length:Int) 0)else(none))else(spec_clLeast.l0 k x0 x5 (wrap64 (x6-1))))else(none))else(none))else((spec_clList.f k x5).bind fun t826=>(some t826))
def spec_clLeast.l1:Nat→List (List Int)→List Bool→Int→List Int→Int→Int→Option (List Int)
 |0,_,_,_,_,_,_=>none
 |k+1,x0,x5,x6,x27,x28,x29=>if x29<x28 then(if 0≤x29 then(if x29<(x27.length:Int)then(if 0≤(rd x27 x29)then(if(rd x27 x29)<(x5.length:Int)then(spec_clLeast.l1 k x0 (x5.set ((rd x27 x29):Int).toNat true) x6 x27 x28 (wrap64 (x29+1)))else(none))else(none))else(none))else(none))else(spec_clLeast.l0 k x0 x5 (wrap64 (x6-1)))
end
def spec_clLeast.f (k:Nat) (l0:List (List Int)) (l1:List Int):Option (List Int):=(spec_clMarks.f k (l0.length:Int) l1).bind fun t823=>(spec_clLeast.l0 k l0 t823 (wrap64 ((l0.length:Int)-1)))
set_option maxHeartbeats 8000000 in
set_option maxRecDepth 100000 in
theorem spec_clLeast.calls (k:Nat) (A0:Option Addr) (c0:Nat) (l0:List (List Int)) (A1:Option Addr) (c1:Nat) (l1:List Int) (r:List Int) (w:World) (hr0:Kd.C (Kd.slice 3 (Kd.int .i64)) w A0 l0.length l0) (hc0:l0.length≤c0) (hr1:Kd.C (Kd.int .i64) w A1 l1.length l1) (hc1:l1.length≤c1) (h:spec_clLeast.f k l0 l1=some r):
  Calls Try.prog 125 #[.slice A0 l0.length c0,.slice A1 l1.length c1] w fun e w'=> ∃v0_:Value,e= .returned (v0_)∧Kd.R (Kd.int .i64) 3 w' w.heap.size (fun _=>True) v0_ r∧Below w.heap.size w w':=by
 have HR0:=Aside0.mk hr0;have HC0:=Aside0.mk hc0;clear hr0 hc0;have HR1:=Aside0.mk hr1;have HC1:=Aside0.mk hc1;clear hr1 hc1;have HB:=Aside0.mk (Below.refl w.heap.size w);have H:=h;clear h
 unfold spec_clLeast.f at H
 replace H:=bnd H;obtain⟨t823,A3,H⟩:=H;have H':=Aside0.mk H;clear H
 go_enter Try.func125,Try.ntmps125
 go_wp2_with(first|(refine cal_ 135 (some 12) Try.func135 #[.int .i64 (l0.length:Int),.slice A1 l1.length c1] rfl (spec_clMarks.calls k (l0.length:Int) _ _ l1 t823 _ ?_ HC1.out A3.out) ?_;exact cC HR1;rintro e w4 ⟨v824,rfl,ho0,hb⟩;refine⟨_,rfl,?_⟩;have HO825:=eRr ho0 (bz HB);replace HB:=bs HB hb;clear hb ho0))
 go_loopg [6] k (fun kq v6 w'=> ∃(x5_1:List Bool) (x6_1:Int),v6= .int .i64 x6_1∧Aside0 (spec_clLeast.l0 kq l0 x5_1 x6_1=some r)∧Aside0 (kq≤k)∧Aside0 (Kd.R Kd.bool 4 w' w.heap.size (fun _=>True) v824 x5_1)∧Aside0 (Below w.heap.size w w'))
 case atStart=>exact⟨(t823),(wrap64 ((l0.length:Int)-1)),eqx,H',⟨Nat.le_refl _⟩,mR HO825,⟨cB HB⟩⟩
 case round=>
  clear H';obtain⟨x5_1,x6_1,rfl,HA,HK1,HO_5,HB⟩:=hrel;obtain _|k1:=gk
  ·exact nz HA.out
  have H:=HA.out;clear HA;simp only[spec_clLeast.l0]at H;replace H:=itb H;rcases H with⟨c5b0,H⟩|⟨c5b0,H⟩
  ·replace H:=itd H;obtain⟨c6b0,H⟩:=H;replace H:=itd H;obtain⟨c7b0,H⟩:=H;obtain⟨bq8,hbq8⟩: ∃b_:Bool,b_=(rdOf false x5_1 x6_1):=⟨_,rfl⟩;replace H:(if bq8=true then(if x6_1<(l0.length:Int)then(spec_clLeast.l1 k1 l0 x5_1 x6_1 (rd_L1 l0 x6_1) ((rd_L1 l0 x6_1).length:Int) 0)else(none))else(spec_clLeast.l0 k1 l0 x5_1 (wrap64 (x6_1-1))))=some r:=by rw[←hbq8]at H;exact H
   have Nbq8:=Aside0.mk hbq8;clear hbq8;replace H:=itt H;rcases H with⟨rfl,H⟩|⟨rfl,H⟩
   ·replace H:=itd H;obtain⟨c10b0,H⟩:=H;have H':=Aside0.mk H;clear H;obtain⟨Ao11,co11,rfl⟩:=sR HO_5;have p829:0≤(x6_1:Int):=of_decide_eq_true asx;have q829:x6_1<(x5_1.length:Int):=of_decide_eq_true asx;obtain⟨ad829,e829,hx829_0⟩:=Kd.at_bool (rR HO_5) x6_1 p829 q829
    (try rw[←Nbq8.out]at hx829_0)
    cases e829;replace p829:=eq_true p829;replace q829:=eq_true q829;have p830:0≤(x6_1:Int):=of_decide_eq_true asx;have q830:x6_1<(l0.length:Int):=of_decide_eq_true asx;obtain⟨ad830,A830_0,c830_0,e830,hx830_0,hl830_0,hi830_0⟩:=at_L1 HR0.out x6_1 p830 q830;cases e830;replace hx830_0:=hc_ HB hx830_0;have HR830_0:=Aside0.mk hi830_0;have HC830_0:=Aside0.mk hl830_0;clear hi830_0 hl830_0;replace p830:=eq_true p830;replace q830:=eq_true q830;go_wp2
    go_loopg [29] k1 (fun kq v29 w'=> ∃(x5_2:List Bool) (x29_2:Int),v29= .int .i64 x29_2∧Aside0 (spec_clLeast.l1 kq l0 x5_2 x6_1 (rd_L1 l0 x6_1) ((rd_L1 l0 x6_1).length:Int) x29_2=some r)∧Aside0 (kq≤k1)∧Aside0 (Kd.R Kd.bool 4 w' w.heap.size (fun _=>True) (.slice (some ad829) x5_1.length co11) x5_2)∧Aside0 (Below w.heap.size w w'))
    case atStart=>exact⟨(x5_1),(0),eqx,H',⟨Nat.le_refl _⟩,mR HO_5,⟨cB HB⟩⟩
    case round=>
     clear H';obtain⟨x5_2,x29_2,rfl,HA,HK2,HO_5,HB⟩:=hrel;have hl5_2:=(Kd.R_reads' HO_5.out).1;rw[hl5_2]at HO_5
     (try simp only[hl5_2])
     obtain _|k2:=gk
     ·exact nz HA.out
     have H:=HA.out;clear HA;simp only[spec_clLeast.l1]at H;replace H:=itb H;rcases H with⟨c12b0,H⟩|⟨c12b0,H⟩
     ·replace H:=itd H;obtain⟨c13b0,H⟩:=H;replace H:=itd H;obtain⟨c14b0,H⟩:=H;replace H:=itd H;obtain⟨c15b0,H⟩:=H;replace H:=itd H;obtain⟨c16b0,H⟩:=H;obtain⟨y832,Ny832⟩:=nmx ((x5_2.set ((rd (rd_L1 l0 x6_1) x29_2):Int).toNat true):List Bool);rw[←Ny832.out]at H;have H':=Aside0.mk H;clear H;obtain⟨ad831,e831,hx831_0,p831,q831⟩:=ldi (i:=x29_2) HR830_0.out;cases e831;replace hx831_0:=hc_ HB hx831_0;have p17:0≤((rd (rd_L1 l0 x6_1) x29_2):Int):=of_decide_eq_true asx;have q17:((rd (rd_L1 l0 x6_1) x29_2):Int)<((x5_2.length:Int):Int):=of_decide_eq_true asx;obtain⟨go17,co17,eo17,gb17,gl17,cl17,HG17⟩:=Kd.R_form HO_5.out (by omega)
      (first|cases eo17|(injection eo17 with ea_ en_ ec_;(first|subst ea_|(injection ea_ with ea_;subst ea_));subst ec_;clear en_))
      have GB17:=Aside0.mk gb17;have GG17:=Aside0.mk HG17;clear gb17 gl17 HG17
      (first|simp only[add_plain]at hx829_0|skip)
      obtain⟨hx17_0,hf17_0⟩:=Kd.R_celln false HO_5.out ((rd (rd_L1 l0 x6_1) x29_2):Int) p17 q17;replace p17:=eq_true p17;replace q17:=eq_true q17;have HP18:=Kd.R_putg HO_5.out ((rd (rd_L1 l0 x6_1) x29_2):Int) true
      go_wp2_with(first|((with_reducible refine gate_store (t:=4) (p:=35) rfl ?_);refine store_event (t:=4) (p:=35) (v:=?vo_w19) (w1:=(wr.setCell ⟨go17,((rd (rd_L1 l0 x6_1) x29_2):Int).toNat,none⟩ (.bool true))) ?hg ?ho ?hn ?hr ?_;(case ho=>rfl);(case hg=>rfl);(case hn=>rfl);(case hr=>first|(go_simp;done)|(go_simp;rfl));intro w19 hw;have hg:wr.grownBy w19 (some go17):=(by rw[hw];exact HP18.2);have hp_:Kd.R Kd.bool 4 w19 w.heap.size (fun _=>True) (.slice (some ⟨go17,0,none⟩) x5_2.length co11) y832:=(by rw[hw,Ny832.out];exact HP18.1);clear HP18;replace HO_5:=Aside0.mk hp_;replace HB:=Aside0.mk (by rw[hw];exact below_set (HB.out) GB17.out:Below w.heap.size w w19);clear hg hw hp_))
      (try simp only[←hl5_2])
      go_roundg k2
      case measure=>have:=HK1.out;have:=HK2.out;omega
      case rel=>exact⟨(y832),(wrap64 (x29_2+1)),eqx,H',⟨om2 HK1 HK2⟩,⟨by(try simp only[hl5_2]);(with_reducible repeat(first|apply Kd.R_alloc|apply Kd.R_drewN|apply Kd.R_drew));exact HO_5.out⟩,⟨cB HB⟩⟩
     ·have H':=Aside0.mk H;clear H;go_wp2
      (try simp only[←hl5_2])
      go_roundg k2
      case measure=>have:=HK1.out;have:=HK2.out;omega
      case rel=>exact⟨(x5_2),(wrap64 (x6_1-1)),eqx,H',⟨om2 HK1 HK2⟩,⟨by(try simp only[hl5_2]);(with_reducible repeat(first|apply Kd.R_alloc|apply Kd.R_drewN|apply Kd.R_drew));exact HO_5.out⟩,⟨cB HB⟩⟩
   ·have H':=Aside0.mk H;clear H;obtain⟨Ao20,co20,rfl⟩:=sR HO_5;have p829:0≤(x6_1:Int):=of_decide_eq_true asx;have q829:x6_1<(x5_1.length:Int):=of_decide_eq_true asx;obtain⟨ad829,e829,hx829_0⟩:=Kd.at_bool (rR HO_5) x6_1 p829 q829
    (try rw[←Nbq8.out]at hx829_0)
    cases e829;replace p829:=eq_true p829;replace q829:=eq_true q829;go_wp2
    go_roundg k1
    case measure=>have:=HK1.out;omega
    case rel=>exact⟨(x5_1),(wrap64 (x6_1-1)),eqx,H',⟨by have:=HK1.out;omega⟩,mR HO_5,⟨cB HB⟩⟩
  ·replace H:=bnd H;obtain⟨t826,A21,H⟩:=H;obtain rfl:=Option.some.inj H;obtain⟨Ao22,co22,rfl⟩:=sR HO_5
   go_wp2_with(first|(refine cal_ 136 (some 38) Try.func136 #[.slice Ao22 x5_1.length co22] rfl (spec_clList.calls k1 _ _ x5_1 t826 _ ?_ (lR HO_5) A21.out) ?_;exact rR HO_5;rintro e w23 ⟨v827,rfl,ho0,hb⟩;refine⟨_,rfl,?_⟩;replace HO_5:=bR HO_5 hb;have HO828:=eRr ho0 (bz HB);replace HB:=bs HB hb;clear hb ho0))
   go_ret
   exact⟨_,erx,by(with_reducible repeat(first|apply Kd.R_alloc|apply Kd.R_drewN|apply Kd.R_drew));exact HO828.out,cB HB⟩
mutual
def spec_ForcedPit.l0:Nat→List (List Int)→List Int→List Int→List Int→Int→Int→Option (List Int×Bool)
 |0,_,_,_,_,_,_=>none
 |k+1,x0,x1,x8,x9,x22,x23=>if x23<x22 then((spec_l1Has.f k x8 x23).bind fun t837=>(if t837=true then(spec_ForcedPit.l0 k x0 x1 x8 x9 x22 (wrap64 (x23+1)))else(if x9.length<17592186044416 then(spec_ForcedPit.l0 k x0 x1 x8 (x9++[x23]) x22 (wrap64 (x23+1)))else(none))))else((spec_paOnly.f k x0 x1 x9).bind fun t841=>(spec_ForcedPit.l1 k x8 t841 (t841.length:Int) 0))
def spec_ForcedPit.l1:Nat→List Int→List Int→Int→Int→Option (List Int×Bool)
 |0,_,_,_,_=>none
 |k+1,x8,x38,x39,x40=>if x40<x39 then(if 0≤x40 then(if x40<(x38.length:Int)then((spec_l1Put.f k x8 (rd x38 x40)).bind fun t845=>(spec_ForcedPit.l1 k t845 x38 x39 (wrap64 (x40+1))))else(none))else(none))else(some (x8,true))
end
def spec_ForcedPit.f (k:Nat) (l0:List (List Int)) (l1:List Int) (l2:List Int):Option (List Int×Bool):=(spec_paList.f k l0 l1 l2).bind fun t833=>(if t833=true then((spec_clLeast.f k l0 l2).bind fun t834=>(spec_ForcedPit.l0 k l0 l1 t834 ([]:List Int) (l0.length:Int) 0))else(some (([]:List Int),false)))
set_option maxHeartbeats 8000000 in
set_option maxRecDepth 100000 in
theorem spec_ForcedPit.calls (k:Nat) (A0:Option Addr) (c0:Nat) (l0:List (List Int)) (A1:Option Addr) (c1:Nat) (l1:List Int) (A2:Option Addr) (c2:Nat) (l2:List Int) (r1:List Int) (r2:Bool) (w:World) (hr0:Kd.C (Kd.slice 3 (Kd.int .i64)) w A0 l0.length l0) (hc0:l0.length≤c0) (hr1:Kd.C (Kd.int .i64) w A1 l1.length l1) (hc1:l1.length≤c1) (hr2:Kd.C (Kd.int .i64) w A2 l2.length l2) (hc2:l2.length≤c2) (h:spec_ForcedPit.f k l0 l1 l2=some (r1,r2)):
  Calls Try.prog 64 #[.slice A0 l0.length c0,.slice A1 l1.length c1,.slice A2 l2.length c2] w fun e w'=> ∃v0_:Value,e= .returned (.tuple #[v0_,.bool r2])∧Kd.R (Kd.int .i64) 3 w' w.heap.size (fun _=>True) v0_ r1∧Below w.heap.size w w':=by
 have HR0:=Aside0.mk hr0;have HC0:=Aside0.mk hc0;clear hr0 hc0;have HR1:=Aside0.mk hr1;have HC1:=Aside0.mk hc1;clear hr1 hc1;have HR2:=Aside0.mk hr2;have HC2:=Aside0.mk hc2;clear hr2 hc2;have HB:=Aside0.mk (Below.refl w.heap.size w);have H:=h;clear h
 unfold spec_ForcedPit.f at H
 replace H:=bnd H;obtain⟨t833,A4,H⟩:=H;replace H:=itt H;rcases H with⟨rfl,H⟩|⟨rfl,H⟩
 ·replace H:=bnd H;obtain⟨t834,A6,H⟩:=H;have H':=Aside0.mk H;clear H
  go_enter Try.func64,Try.ntmps64
  go_wp2_with(first|(refine cal_ 124 (some 16) Try.func124 #[.slice A0 l0.length c0,.slice A1 l1.length c1,.slice A2 l2.length c2] rfl (spec_paList.calls k _ _ l0 _ _ l1 _ _ l2 true _ ?_ HC0.out ?_ HC1.out ?_ HC2.out A4.out) ?_;exact cC HR0;exact cC HR1;exact cC HR2;rintro e w' ⟨rfl,⟨nd,rfl⟩⟩;refine⟨_,rfl,?_⟩)|(refine cal_ 125 (some 20) Try.func125 #[.slice A0 l0.length c0,.slice A2 l2.length c2] rfl (spec_clLeast.calls k _ _ l0 _ _ l2 t834 _ ?_ HC0.out ?_ HC2.out A6.out) ?_;exact cC HR0;exact cC HR2;rintro e w7 ⟨v835,rfl,ho0,hb⟩;refine⟨_,rfl,?_⟩;have HO836:=eRr ho0 (bz HB);replace HB:=bs HB hb;clear hb ho0))
  go_loopg [9,23] k (fun kq v9 v23 w'=> ∃(x9_1:List Int) (x23_1:Int),v23= .int .i64 x23_1∧Aside0 (spec_ForcedPit.l0 kq l0 l1 t834 x9_1 (l0.length:Int) x23_1=some (r1,r2))∧Aside0 (kq≤k)∧Aside0 (Kd.R (Kd.int .i64) 3 w' w.heap.size (fun k_=>some k_≠(v9:Value).ownBlock) v835 t834)∧Aside0 (Kd.R (Kd.int .i64) 3 w' w.heap.size (fun k_=>some k_≠(v835:Value).ownBlock) v9 x9_1)∧Aside0 (Below w.heap.size w w'))
  case atStart=>exact⟨(([]:List Int)),(0),eqx,H',⟨Nat.le_refl _⟩,mR HO836,⟨nlx⟩,⟨cB HB⟩⟩
  case round=>
   clear H';obtain⟨x9_1,x23_1,rfl,HA,HK1,HO_8,HO_9,HB⟩:=hrel;obtain _|k1:=gk
   ·exact nz HA.out
   have H:=HA.out;clear HA;simp only[spec_ForcedPit.l0]at H;replace H:=itb H;rcases H with⟨c8b0,H⟩|⟨c8b0,H⟩
   ·replace H:=bnd H;obtain⟨t837,A9,H⟩:=H;replace H:=itt H;rcases H with⟨rfl,H⟩|⟨rfl,H⟩
    ·have H':=Aside0.mk H;clear H;obtain⟨Ao11,co11,rfl⟩:=sR HO_8
     go_wp2_with(first|(refine cal_ 94 (some 28) Try.func94 #[.slice Ao11 t834.length co11,.int .i64 x23_1] rfl (spec_l1Has.calls k1 _ _ t834 x23_1 true _ ?_ (lR HO_8) A9.out) ?_;exact rR HO_8;rintro e w' ⟨rfl,⟨nd,rfl⟩⟩;refine⟨_,rfl,?_⟩))
     go_roundg k1
     case measure=>have:=HK1.out;omega
     case rel=>exact⟨(x9_1),(wrap64 (x23_1+1)),eqx,H',⟨by have:=HK1.out;omega⟩,mR HO_8,mR HO_9,⟨cB HB⟩⟩
    ·replace H:=itm H;obtain⟨LMc12,H⟩:=H;obtain⟨y838,Ny838⟩:=nmx ((x9_1++[x23_1]):List Int);rw[←Ny838.out]at H;have H':=Aside0.mk H;clear H;obtain⟨Ao13,co13,rfl⟩:=sR HO_8
     go_wp2_with(first|(refine cal_ 94 (some 28) Try.func94 #[.slice Ao13 t834.length co13,.int .i64 x23_1] rfl (spec_l1Has.calls k1 _ _ t834 x23_1 false _ ?_ (lR HO_8) A9.out) ?_;exact rR HO_8;rintro e w' ⟨rfl,⟨nd,rfl⟩⟩;refine⟨_,rfl,?_⟩)|((with_reducible refine gate_builtin (b:= .append) (xs:= #[.tmp 30,.tmp 32]) rfl ?_);at_builtin;refine Kd.R_append (Kd.int .i64) (w0:=w) w.heap.size rfl (.tmp 30) (.tmp 32) 24 3 (.int .i64 0) 8 rfl Try.underlying24 info3 rfl (by decide) (by omega) u9 x9_1 x23_1 [.int .i64 x23_1] (fun k_=>some k_≠(.slice Ao13 t834.length co13:Value).ownBlock) (fun _=>False) rfl rfl ?aP (fun _ hk=>hk.elim) ?aF ?aO ?aB ?aS ?aL ?_;(case aP=>exact rfl);(case aB=>exact(cB HB));(case aF=>exact(fun k_ hk=>Kd.fresh' (Kd.R_lt (cR HO_8)) k_ hk));(case aO=>exact(cR HO_9));(case aS=>exact(bz HB));(case aL=>have:=LMc12.out;omega);intro v839 w14 ho hb hg hat;rw[←Ny838.out]at ho;have n0_:=Aside0.mk (Kd.R_after (ok:=(fun _=>True)) (cR ⟨Kd.R_mono HO_8.out (fun _ hk=>⟨trivial,hk⟩)⟩) hg hat);have n1_:=Aside0.mk hb;have n2_:=Aside0.mk ho;clear HO_8 HB HO_9;have HO_8:=n0_;have HB:=n1_;have HO840:=n2_;clear n0_ n1_ n2_ ho hb hg hat))
     go_roundg k1
     case measure=>have:=HK1.out;omega
     case rel=>exact⟨(y838),(wrap64 (x23_1+1)),eqx,H',⟨by have:=HK1.out;omega⟩,mR HO_8,mR HO840,⟨cB HB⟩⟩
   ·replace H:=bnd H;obtain⟨t841,A15,H⟩:=H;have H':=Aside0.mk H;clear H;obtain⟨Ao16,co16,rfl⟩:=sR HO_9
    go_wp2_with(first|(refine cal_ 82 (some 38) Try.func82 #[.slice A0 l0.length c0,.slice A1 l1.length c1,.slice Ao16 x9_1.length co16] rfl (spec_paOnly.calls k1 _ _ l0 _ _ l1 _ _ x9_1 t841 _ ?_ HC0.out ?_ HC1.out ?_ (lR HO_9) A15.out) ?_;exact cb_ HR0 HB;exact cb_ HR1 HB;exact rR HO_9;rintro e w17 ⟨v842,rfl,ho0,hb⟩;refine⟨_,rfl,?_⟩;have HO843:=Aside0.mk (Kd.R_lower (nRR (nRR ho0 HO_8) HO_9) (bz HB));replace HO_8:=aR HO_8 (Kd.R_base ho0) hb;replace HO_9:=aR HO_9 (Kd.R_base ho0) hb;replace HB:=bs HB hb;clear hb ho0;obtain⟨Ao18,co18,rfl⟩:=sR HO843))
    go_loopg [8,40] k1 (fun kq v8 v40 w'=> ∃(x8_2:List Int) (x40_2:Int),v40= .int .i64 x40_2∧Aside0 (spec_ForcedPit.l1 kq x8_2 t841 (t841.length:Int) x40_2=some (r1,r2))∧Aside0 (kq≤k1)∧Aside0 (Kd.R (Kd.int .i64) 3 w' w.heap.size (fun k_=>some k_≠((.slice Ao18 t841.length co18):Value).ownBlock) v8 x8_2)∧Aside0 (Kd.R (Kd.int .i64) 3 w' w.heap.size (fun k_=>some k_≠(v8:Value).ownBlock) (.slice Ao18 t841.length co18) t841)∧Aside0 (Below w.heap.size w w'))
    case atStart=>exact⟨(t834),(0),eqx,H',⟨Nat.le_refl _⟩,mR HO_8,mR HO843,⟨cB HB⟩⟩
    case round=>
     clear H';obtain⟨x8_2,x40_2,rfl,HA,HK2,HO_8,HO_38,HB⟩:=hrel;obtain _|k2:=gk
     ·exact nz HA.out
     have H:=HA.out;clear HA;simp only[spec_ForcedPit.l1]at H;replace H:=itb H;rcases H with⟨c19b0,H⟩|⟨c19b0,H⟩
     ·replace H:=itd H;obtain⟨c20b0,H⟩:=H;replace H:=itd H;obtain⟨c21b0,H⟩:=H;replace H:=bnd H;obtain⟨t845,A22,H⟩:=H;have H':=Aside0.mk H;clear H;obtain⟨ad844,e844,hx844_0,p844,q844⟩:=ldi (i:=x40_2) (rR HO_38);cases e844;obtain⟨Ao23,co23,rfl⟩:=sR HO_8
      go_wp2_with(first|(refine cal_ 71 (some 46) Try.func71 #[.slice Ao23 x8_2.length co23,.int .i64 (rd t841 x40_2)] rfl (spec_l1Put.calls k2 (fun k_=>some k_=(.slice Ao23 x8_2.length co23:Value).ownBlock) (.slice Ao23 x8_2.length co23) x8_2 (rd t841 x40_2) t845 w _ ?_ ?_ A22.out) ?_;exact cB HB;exact Kd.R_tight rfl HO_8.out;rintro e w24 ⟨v846,rfl,ho0,hb,hkp⟩;refine⟨_,rfl,?_⟩;have n0_:=Aside0.mk (Kd.R_mono (ok':=fun k_=>some k_≠(v846:Value).ownBlock) (Kd.R_keptB (HO_38.out) hkp (fun k_ hk_ hs_=>(hk_) hs_)) (fun k_ hk_=>fun e_=>Or.elim (ho0.1 k_ e_.symm) (fun hs_=>hk_.2.1 hs_) (fun hn_=>Nat.not_le.2 hk_.2.2 hn_)));have n1_:=Aside0.mk (Kd.R_mono (ok':=fun k_=>some k_≠(.slice (some ad844) t841.length co18:Value).ownBlock) ho0 (fun k_ hk_=>Or.elim hk_ (fun hs_=>fun e_=>(((HO_38.out).1 k_ e_.symm)) hs_) (fun hn_=>(Kd.fresh' (Kd.R_lt (cR HO_38)) k_ hn_))));have n2_:=Aside0.mk hb;clear HO_38 HB HO_8;have HO_38:=n0_;have HO847:=n1_;have HB:=n2_;clear n0_ n1_ n2_ hb hkp ho0))
      go_roundg k2
      case measure=>have:=HK1.out;have:=HK2.out;omega
      case rel=>exact⟨(t845),(wrap64 (x40_2+1)),eqx,H',⟨om2 HK1 HK2⟩,mR HO847,mR HO_38,⟨cB HB⟩⟩
     ·simp only[Option.some.injEq,Prod.mk.injEq]at H;obtain⟨rfl,rfl⟩:=H;go_wp2
      go_ret2
      exact⟨_,erx,by(with_reducible repeat(first|apply Kd.R_alloc|apply Kd.R_drewN|apply Kd.R_drew));exact Kd.R_mono HO_8.out (fun _ hk=>trivial),cB HB⟩
 ·simp only[Option.some.injEq,Prod.mk.injEq]at H;obtain⟨rfl,rfl⟩:=H
  go_enter Try.func64,Try.ntmps64
  go_wp2_with(first|(refine cal_ 124 (some 16) Try.func124 #[.slice A0 l0.length c0,.slice A1 l1.length c1,.slice A2 l2.length c2] rfl (spec_paList.calls k _ _ l0 _ _ l1 _ _ l2 false _ ?_ HC0.out ?_ HC1.out ?_ HC2.out A4.out) ?_;exact cC HR0;exact cC HR1;exact cC HR2;rintro e w' ⟨rfl,⟨nd,rfl⟩⟩;refine⟨_,rfl,?_⟩))
  go_ret2
  exact⟨_,erx,nlx,cB HB⟩
end Go.Proofs.Ytlkppimbbbdmbaa.PFnForced
