-- Printed by a changed copy of the printer; impl.bestPit and spec.paFind by contracts walked by hand
import Derived.Test.YtlkppimbbbdmbaaPFnFactorsx0
import Derived.Test.YtlkppimbbbdmbaaPFnFactorsx5
namespace Go.Proofs.Ytlkppimbbbdmbaa.PFnFactors
open Go.RowKit Go.Proofs.YtlkppimbbbdmbaaW.PrintWords Go.Proofs.YtlkppimbbbdmbaaW.PrintLast Go.Proofs.YtlkppimbbbdmbaaW.PrintMore
attribute [local go_sem] max2_int min2_int max_two min_two max_three min_three max_four min_four
set_option linter.unusedVariables false
set_option linter.unusedSimpArgs false
mutual
def impl_firstFactors.l0:Nat→List (List Int)→List Int→List Int→Int→List Int→Int→Int→Option (List Int)
 |0,_,_,_,_,_,_,_=>none
 |k+1,x0,x1,x2,x3,x9,x19,x20=>if x20<x19 then(if 0≤x20 then(if x20<(x9.length:Int)then(impl_firstFactors.l0 k x0 x1 x2 x3 (x9.set (x20:Int).toNat (-1)) x19 (wrap64 (x20+1)))else(none))else(none))else((impl_pitsTo.f k x0 x1 x2 x3).bind fun t811=>(impl_firstFactors.l1 k x9 t811 (t811.length:Int) 0))
def impl_firstFactors.l1:Nat→List Int→List (List Bool)→Int→Int→Option (List Int)
 |0,_,_,_,_=>none
 |k+1,x9,x31,x32,x33=>if x33<x32 then(if 0≤x33 then(if x33<(x31.length:Int)then(impl_firstFactors.l2 k x9 x33 x31 x32 x33 (rd_L4 x31 x33) ((rd_L4 x31 x33).length:Int) 0)else(none))else(none))else(some x9)
def impl_firstFactors.l2:Nat→List Int→Int→List (List Bool)→Int→Int→List Bool→Int→Int→Option (List Int)
 |0,_,_,_,_,_,_,_,_=>none
 |k+1,x9,x11,x31,x32,x33,x38,x39,x40=>if x40<x39 then(if 0≤x40 then(if x40<(x38.length:Int)then(if rdOf false x38 x40=true then(if x40<(x9.length:Int)then(if(rd x9 x40)<0 then(impl_firstFactors.l2 k (x9.set (x40:Int).toNat x11) x11 x31 x32 x33 x38 x39 (wrap64 (x40+1)))else(impl_firstFactors.l2 k x9 x11 x31 x32 x33 x38 x39 (wrap64 (x40+1))))else(none))else(impl_firstFactors.l2 k x9 x11 x31 x32 x33 x38 x39 (wrap64 (x40+1))))else(none))else(none))else(impl_firstFactors.l1 k x9 x31 x32 (wrap64 (x33+1)))
end
def impl_firstFactors.f (k:Nat) (l0:List (List Int)) (l1:List Int) (l2:List Int) (a3:Int):Option (List Int):=if 0≤(l0.length:Int)then(if((l0.length:Int):Int).toNat≤35184372088832 then((some (List.replicate ((l0.length:Int):Int).toNat 0:List Int)).bind fun y807=>(impl_firstFactors.l0 k l0 l1 l2 a3 y807 (y807.length:Int) 0))else(none))else(none)
set_option maxHeartbeats 8000000 in
set_option maxRecDepth 100000 in
theorem impl_firstFactors.calls (k:Nat) (A0:Option Addr) (c0:Nat) (l0:List (List Int)) (A1:Option Addr) (c1:Nat) (l1:List Int) (A2:Option Addr) (c2:Nat) (l2:List Int) (a3:Int) (r:List Int) (w:World) (hr0:Kd.C (Kd.slice 3 (Kd.int .i64)) w A0 l0.length l0) (hc0:l0.length≤c0) (hr1:Kd.C (Kd.int .i64) w A1 l1.length l1) (hc1:l1.length≤c1) (hr2:Kd.C (Kd.int .i64) w A2 l2.length l2) (hc2:l2.length≤c2) (h:impl_firstFactors.f k l0 l1 l2 a3=some r):
  Calls Try.prog 91 #[.slice A0 l0.length c0,.slice A1 l1.length c1,.slice A2 l2.length c2,.int .i64 a3] w fun e w'=> ∃v0_:Value,e= .returned (v0_)∧Kd.R (Kd.int .i64) 3 w' w.heap.size (fun _=>True) v0_ r∧Below w.heap.size w w':=by
 have HR0:=Aside0.mk hr0;have HC0:=Aside0.mk hc0;clear hr0 hc0;have HR1:=Aside0.mk hr1;have HC1:=Aside0.mk hc1;clear hr1 hc1;have HR2:=Aside0.mk hr2;have HC2:=Aside0.mk hc2;clear hr2 hc2;have HB:=Aside0.mk (Below.refl w.heap.size w);have H:=h;clear h
 unfold impl_firstFactors.f at H
 replace H:=itp H;rcases H with⟨c5,H⟩|⟨c5,H⟩
 ·have c5b0:=eq_true c5;have c5b1:=decide_eq_true c5;clear c5;replace H:=ite_ H;obtain⟨c6b0,c6b1,H⟩:=H;replace H:=nmb H;obtain⟨y807,Ny807,H⟩:=H;have H':=Aside0.mk H;clear H
  go_enter Try.func91,Try.ntmps91
  go_wp2_with(first|((with_reducible refine gate_dst (N:=17) rfl ?_);refine Kd.R_make (Kd.int .i64) _ 3 rfl (N:=17) rfl 24 _ _ rfl (l0.length:Int) rfl rfl Try.underlying24 (.int .i64 0) 8 info3 rfl (by decide) (by omega) 0 (ok:=fun _=>True) (okp:=fun _=>True) rfl (fun _ hk=>hk) trivial (of_decide_eq_true asx) (Nat.le_trans (Nat.mul_le_mul_right _ (of_decide_eq_true asx:(l0.length:Int).toNat≤35184372088832)) (by omega)) (Below.refl _ _) (Nat.le_refl _) ?_;intro v808 w7 ho8 hb hg_ hnew_;clear hg_ hnew_;(first|rw[←Ny807.out]at ho8|(simp only[Int.reduceToNat]at ho8;rw[←Ny807.out]at ho8));have HO809:=eRr ho8 (bz HB);replace HB:=bs HB hb;clear hb ho8;obtain⟨Ao9,co9,rfl⟩:=sR HO809))
  go_loopg [20] k (fun kq v20 w'=> ∃(x9_1:List Int) (x20_1:Int),v20= .int .i64 x20_1∧Aside0 (impl_firstFactors.l0 kq l0 l1 l2 a3 x9_1 (y807.length:Int) x20_1=some r)∧Aside0 (kq≤k)∧Aside0 (Kd.R (Kd.int .i64) 3 w' w.heap.size (fun _=>True) (.slice Ao9 y807.length co9) x9_1)∧Aside0 (Below w.heap.size w w'))
  case atStart=>exact⟨(y807),(0),eqx,H',⟨Nat.le_refl _⟩,mR HO809,⟨cB HB⟩⟩
  case round=>
   clear H';obtain⟨x9_1,x20_1,rfl,HA,HK1,HO_9,HB⟩:=hrel;have hl9_1:=(Kd.R_reads' HO_9.out).1;rw[hl9_1]at HO_9
   (try simp only[hl9_1])
   obtain _|k1:=gk
   ·exact nz HA.out
   have H:=HA.out;clear HA;simp only[impl_firstFactors.l0]at H;replace H:=itb H;rcases H with⟨c10b0,H⟩|⟨c10b0,H⟩
   ·(try(have c10b20:=c10b0;rw[hl9_1]at c10b20))
    replace H:=itd H;obtain⟨c11b0,H⟩:=H;replace H:=itd H;obtain⟨c12b0,H⟩:=H
    (try(have c12b20:=c12b0;rw[hl9_1]at c12b20))
    obtain⟨y810,Ny810⟩:=nmx ((x9_1.set (x20_1:Int).toNat (-1)):List Int);rw[←Ny810.out]at H;have H':=Aside0.mk H;clear H;have p13:0≤(x20_1:Int):=of_decide_eq_true asx;have q13:(x20_1:Int)<((x9_1.length:Int):Int):=of_decide_eq_true asx;obtain⟨go13,co13,eo13,gb13,gl13,cl13,HG13⟩:=Kd.R_form HO_9.out (by omega)
    (first|cases eo13|(injection eo13 with ea_ en_ ec_;(first|subst ea_|(injection ea_ with ea_;subst ea_));subst ec_;clear en_))
    have GB13:=Aside0.mk gb13;have GG13:=Aside0.mk HG13;clear gb13 gl13 HG13;obtain⟨hx13_0,hf13_0⟩:=Kd.R_celln 0 HO_9.out (x20_1:Int) p13 q13;replace p13:=eq_true p13;replace q13:=eq_true q13;have HP14:=Kd.R_putg HO_9.out (x20_1:Int) (-1)
    go_wp2_with(first|((with_reducible refine gate_store (t:=3) (p:=25) rfl ?_);refine store_event (t:=3) (p:=25) (v:=?vo_w15) (w1:=(wr.setCell ⟨go13,(x20_1:Int).toNat,none⟩ (.int .i64 (-1)))) ?hg ?ho ?hn ?hr ?_;(case ho=>rfl);(case hg=>rfl);(case hn=>rfl);(case hr=>first|(go_simp;done)|(go_simp;rfl));intro w15 hw;have hg:wr.grownBy w15 (some go13):=(by rw[hw];exact HP14.2);have hp_:Kd.R (Kd.int .i64) 3 w15 w.heap.size (fun _=>True) (.slice (some ⟨go13,0,none⟩) x9_1.length co9) y810:=(by rw[hw,Ny810.out];exact HP14.1);clear HP14;replace HO_9:=Aside0.mk hp_;replace HB:=Aside0.mk (by rw[hw];exact below_set (HB.out) GB13.out:Below w.heap.size w w15);clear hg hw hp_))
    (try simp only[←hl9_1])
    go_roundg k1
    case measure=>have:=HK1.out;omega
    case rel=>exact⟨(y810),(wrap64 (x20_1+1)),eqx,H',⟨by have:=HK1.out;omega⟩,⟨by(try simp only[hl9_1]);(with_reducible repeat(first|apply Kd.R_alloc|apply Kd.R_drewN|apply Kd.R_drew));exact HO_9.out⟩,⟨cB HB⟩⟩
   ·(try(have c10b20:=c10b0;rw[hl9_1]at c10b20))
    replace H:=bnd H;obtain⟨t811,A16,H⟩:=H;have H':=Aside0.mk H;clear H
    go_wp2_with(first|(refine cal_ 95 (some 31) Try.func95 #[.slice A0 l0.length c0,.slice A1 l1.length c1,.slice A2 l2.length c2,.int .i64 a3] rfl (impl_pitsTo.calls k1 _ _ l0 _ _ l1 _ _ l2 a3 t811 _ ?_ HC0.out ?_ HC1.out ?_ HC2.out A16.out) ?_;exact cb_ HR0 HB;exact cb_ HR1 HB;exact cb_ HR2 HB;rintro e w17 ⟨v812,rfl,ho0,hb⟩;refine⟨_,rfl,?_⟩;have HO813:=Aside0.mk (Kd.V_lower (Kd.V_mono (ok':=fun k_=>some k_≠(.slice Ao9 x9_1.length co9:Value).ownBlock) ho0 (fun k_ hk_=>(Kd.fresh' (Kd.R_lt (cR HO_9)) k_ hk_))) (bz HB));replace HO_9:=bR HO_9 hb;replace HB:=bs HB hb;clear hb ho0;obtain⟨Ao18,co18,rfl⟩:=sV HO813))
    go_loopg [33] k1 (fun kq v33 w'=> ∃(x9_2:List Int) (x33_2:Int),v33= .int .i64 x33_2∧Aside0 (impl_firstFactors.l1 kq x9_2 t811 (t811.length:Int) x33_2=some r)∧Aside0 (kq≤k1)∧Aside0 (Kd.R (Kd.int .i64) 3 w' w.heap.size (fun _=>True) (.slice Ao9 x9_1.length co9) x9_2)∧Aside0 (Kd.V (Kd.slice 4 Kd.bool) 80 w' w.heap.size (fun k_=>some k_≠((.slice Ao9 x9_1.length co9):Value).ownBlock) (.slice Ao18 t811.length co18) t811)∧Aside0 (Below w.heap.size w w'))
    case atStart=>exact⟨(x9_1),(0),eqx,H',⟨Nat.le_refl _⟩,⟨by(try simp only[hl9_1]);(with_reducible repeat(first|apply Kd.R_alloc|apply Kd.R_drewN|apply Kd.R_drew));exact HO_9.out⟩,⟨by(try simp only[hl9_1]);(with_reducible repeat(first|apply Kd.V_alloc|apply Kd.V_drewN|apply Kd.V_drew));exact HO813.out⟩,⟨cB HB⟩⟩
    case round=>
     clear H';obtain⟨x9_2,x33_2,rfl,HA,HK2,HO_9,HO_31,HB⟩:=hrel;have hl9_2:=(Kd.R_reads' HO_9.out).1;rw[hl9_2]at HO_9
     (try simp only[hl9_2])
     (try simp only[hl9_2]at HO_31)
     obtain _|k2:=gk
     ·exact nz HA.out
     have H:=HA.out;clear HA;simp only[impl_firstFactors.l1]at H;replace H:=itb H;rcases H with⟨c19b0,H⟩|⟨c19b0,H⟩
     ·(try(have c19b20:=c19b0;rw[hl9_1]at c19b20))
      (try(have c19b21:=c19b0;rw[hl9_2]at c19b21))
      replace H:=itd H;obtain⟨c20b0,H⟩:=H;replace H:=itd H;obtain⟨c21b0,H⟩:=H
      (try(have c21b20:=c21b0;rw[hl9_1]at c21b20))
      (try(have c21b21:=c21b0;rw[hl9_2]at c21b21))
      have H':=Aside0.mk H;clear H;have p814:0≤(x33_2:Int):=of_decide_eq_true asx;have q814:x33_2<(t811.length:Int):=of_decide_eq_true asx;obtain⟨ad814,A814_0,c814_0,e814,hx814_0,hl814_0,hi814_0⟩:=at_L4 (rV HO_31) x33_2 p814 q814;cases e814;obtain⟨ce814,hce814,hMe814,hcc814⟩:=Kd.V_get HO_31.out [] x33_2 p814 (by first|exact q814|exact of_decide_eq_true asx|(have e_:=(Kd.V_reads' HO_31.out).1;omega));obtain⟨ua814_0,uc814_0,rfl,ul814_0,ge814_0⟩:=Kd.FK_slice_open hMe814;have hv814_0:=hcc814 0 _ rfl;rw[Nat.add_zero,show((Kd.slice 4 Kd.bool)).sz=1 from rfl,Nat.mul_one]at hv814_0;replace hv814_0:=Option.some.inj (hv814_0.symm.trans hx814_0)
      injection hv814_0 with hva_ hvn_ hvc_
      rw[hva_]at ge814_0;rw[hvc_]at ul814_0;have HL814_0:=Aside0.mk (show Kd.V Kd.bool 4 _ w.heap.size _ _ (rd_L4 t811 x33_2)from Kd.V_mk ul814_0 ge814_0);clear hva_ hvn_ hvc_ ge814_0 ul814_0;clear hcc814 hce814;have HR814_0:=Aside0.mk hi814_0;have HC814_0:=Aside0.mk hl814_0;clear hi814_0 hl814_0;replace p814:=eq_true p814;replace q814:=eq_true q814;go_wp2
      go_loopg [40] k2 (fun kq v40 w'=> ∃(x9_3:List Int) (x40_3:Int),v40= .int .i64 x40_3∧Aside0 (impl_firstFactors.l2 kq x9_3 x33_2 t811 (t811.length:Int) x33_2 (rd_L4 t811 x33_2) ((rd_L4 t811 x33_2).length:Int) x40_3=some r)∧Aside0 (kq≤k2)∧Aside0 (Kd.R (Kd.int .i64) 3 w' w.heap.size (fun _=>True) (.slice Ao9 x9_2.length co9) x9_3)∧Aside0 (Kd.V (Kd.slice 4 Kd.bool) 80 w' w.heap.size (fun k_=>some k_≠((.slice Ao9 x9_2.length co9):Value).ownBlock) (.slice (some ad814) t811.length co18) t811)∧Aside0 (Kd.V Kd.bool 4 w' w.heap.size (fun k_=>some k_≠((.slice Ao9 x9_2.length co9):Value).ownBlock) (.slice A814_0 (rd_L4 t811 x33_2).length c814_0) (rd_L4 t811 x33_2))∧Aside0 (Below w.heap.size w w'))
      case atStart=>exact⟨(x9_2),(0),eqx,H',⟨Nat.le_refl _⟩,⟨by(try simp only[hl9_1]);(try simp only[hl9_2]);(with_reducible repeat(first|apply Kd.R_alloc|apply Kd.R_drewN|apply Kd.R_drew));exact HO_9.out⟩,⟨by(try simp only[hl9_1]);(try simp only[hl9_2]);(with_reducible repeat(first|apply Kd.V_alloc|apply Kd.V_drewN|apply Kd.V_drew));exact HO_31.out⟩,⟨by(try simp only[hl9_1]);(try simp only[hl9_2]);(with_reducible repeat(first|apply Kd.V_alloc|apply Kd.V_drewN|apply Kd.V_drew));exact HL814_0.out⟩,⟨cB HB⟩⟩
      case round=>
       clear H';obtain⟨x9_3,x40_3,rfl,HA,HK3,HO_9,HO_31,HL814_0,HB⟩:=hrel;have hl9_3:=(Kd.R_reads' HO_9.out).1;rw[hl9_3]at HO_9
       (try simp only[hl9_3])
       (try simp only[hl9_3]at HO_31);(try simp only[hl9_3]at HL814_0)
       obtain _|k3:=gk
       ·exact nz HA.out
       have H:=HA.out;clear HA;simp only[impl_firstFactors.l2]at H;replace H:=itb H;rcases H with⟨c22b0,H⟩|⟨c22b0,H⟩
       ·replace H:=itd H;obtain⟨c23b0,H⟩:=H;replace H:=itd H;obtain⟨c24b0,H⟩:=H;obtain⟨bq25,hbq25⟩: ∃b_:Bool,b_=(rdOf false (rd_L4 t811 x33_2) x40_3):=⟨_,rfl⟩;replace H:(if bq25=true then(if x40_3<(x9_3.length:Int)then(if(rd x9_3 x40_3)<0 then(impl_firstFactors.l2 k3 (x9_3.set (x40_3:Int).toNat x33_2) x33_2 t811 (t811.length:Int) x33_2 (rd_L4 t811 x33_2) ((rd_L4 t811 x33_2).length:Int) (wrap64 (x40_3+1)))else(impl_firstFactors.l2 k3 x9_3 x33_2 t811 (t811.length:Int) x33_2 (rd_L4 t811 x33_2) ((rd_L4 t811 x33_2).length:Int) (wrap64 (x40_3+1))))else(none))else(impl_firstFactors.l2 k3 x9_3 x33_2 t811 (t811.length:Int) x33_2 (rd_L4 t811 x33_2) ((rd_L4 t811 x33_2).length:Int) (wrap64 (x40_3+1))))=some r:=by rw[←hbq25]at H;exact H
        have Nbq25:=Aside0.mk hbq25;clear hbq25;replace H:=itt H;rcases H with⟨rfl,H⟩|⟨rfl,H⟩
        ·replace H:=itd H;obtain⟨c27b0,H⟩:=H
         (try(have c27b20:=c27b0;rw[hl9_1]at c27b20))
         (try(have c27b21:=c27b0;rw[hl9_2]at c27b21))
         (try(have c27b22:=c27b0;rw[hl9_3]at c27b22))
         replace H:=itb H;rcases H with⟨c28b0,H⟩|⟨c28b0,H⟩
         ·obtain⟨y817,Ny817⟩:=nmx ((x9_3.set (x40_3:Int).toNat x33_2):List Int);rw[←Ny817.out]at H;have H':=Aside0.mk H;clear H;have p815:0≤(x40_3:Int):=of_decide_eq_true asx;have q815:x40_3<((rd_L4 t811 x33_2).length:Int):=of_decide_eq_true asx;obtain⟨ad815,e815,hx815_0⟩:=Kd.at_bool (rV HL814_0) x40_3 p815 q815
          (try rw[←Nbq25.out]at hx815_0)
          cases e815
          skip
          replace p815:=eq_true p815;replace q815:=eq_true q815;obtain⟨ad816,e816,hx816_0,p816,q816⟩:=ldi (i:=x40_3) (rR HO_9);cases e816;have p29:0≤(x40_3:Int):=of_decide_eq_true asx;have q29:(x40_3:Int)<((x9_3.length:Int):Int):=of_decide_eq_true asx;obtain⟨go29,co29,eo29,gb29,gl29,cl29,HG29⟩:=Kd.R_form HO_9.out (by omega)
          (first|cases eo29|(injection eo29 with ea_ en_ ec_;(first|subst ea_|(injection ea_ with ea_;subst ea_));subst ec_;clear en_))
          have GB29:=Aside0.mk gb29;have GG29:=Aside0.mk HG29;clear gb29 gl29 HG29
          (first|simp only[add_plain]at hx816_0|skip)
          obtain⟨hx29_0,hf29_0⟩:=Kd.R_celln 0 HO_9.out (x40_3:Int) p29 q29;replace p29:=eq_true p29;replace q29:=eq_true q29;have HP30:=Kd.R_putg HO_9.out (x40_3:Int) x33_2
          go_wp2_with(first|((with_reducible refine gate_store (t:=3) (p:=56) rfl ?_);refine store_event (t:=3) (p:=56) (v:=?vo_w31) (w1:=(wr.setCell ⟨go29,(x40_3:Int).toNat,none⟩ (.int .i64 x33_2))) ?hg ?ho ?hn ?hr ?_;(case ho=>rfl);(case hg=>rfl);(case hn=>rfl);(case hr=>first|(go_simp;done)|(go_simp;rfl));intro w31 hw;have hg:wr.grownBy w31 (some go29):=(by rw[hw];exact HP30.2);have hp_:Kd.R (Kd.int .i64) 3 w31 w.heap.size (fun _=>True) (.slice (some ⟨go29,0,none⟩) x9_3.length co9) y817:=(by rw[hw,Ny817.out];exact HP30.1);clear HP30;have n0_:=Aside0.mk hp_;have n1_:=Aside0.mk (Kd.V_afterv (v:=(.slice (some ⟨go29,0,none⟩) x9_3.length co9)) (v1:=(.slice (some ⟨go29,0,none⟩) x9_3.length co9)) (ok:=(fun _=>True)) (cV ⟨Kd.V_mono HO_31.out (fun _ hk=>⟨trivial,hk⟩)⟩) hg (.inl rfl));have nL_:=Aside0.mk (Kd.V_afterv (v:=(.slice (some ⟨go29,0,none⟩) x9_3.length co9)) (v1:=(.slice (some ⟨go29,0,none⟩) x9_3.length co9)) (ok:=(fun _=>True)) (cV ⟨Kd.V_mono HL814_0.out (fun _ hk=>⟨trivial,hk⟩)⟩) hg (.inl rfl));have n2_:=Aside0.mk (by rw[hw];exact below_set (HB.out) GB29.out:Below w.heap.size w w31);clear HO_9 HO_31 HL814_0 HB;have HO_9:=n0_;have HO_31:=n1_;have HL814_0:=nL_;clear nL_;have HB:=n2_;clear n0_ n1_ n2_ hg hw hp_))
          (try simp only[←hl9_3])
          go_roundg k3
          case measure=>have:=HK1.out;have:=HK2.out;have:=HK3.out;omega
          case rel=>exact⟨(y817),(wrap64 (x40_3+1)),eqx,H',⟨by have:=HK1.out;have:=HK2.out;have:=HK3.out;omega⟩,⟨by(try simp only[hl9_1]);(try simp only[hl9_2]);(try simp only[hl9_3]);(with_reducible repeat(first|apply Kd.R_alloc|apply Kd.R_drewN|apply Kd.R_drew));exact HO_9.out⟩,⟨by(try simp only[hl9_1]);(try simp only[hl9_2]);(try simp only[hl9_3]);(with_reducible repeat(first|apply Kd.V_alloc|apply Kd.V_drewN|apply Kd.V_drew));exact Kd.V_mono HO_31.out (fun _ hk=>hk.2)⟩,⟨by(try simp only[hl9_1]);(try simp only[hl9_2]);(try simp only[hl9_3]);(with_reducible repeat(first|apply Kd.V_alloc|apply Kd.V_drewN|apply Kd.V_drew));exact Kd.V_mono HL814_0.out (fun _ hk=>hk.2)⟩,⟨cB HB⟩⟩
         ·have H':=Aside0.mk H;clear H;have p815:0≤(x40_3:Int):=of_decide_eq_true asx;have q815:x40_3<((rd_L4 t811 x33_2).length:Int):=of_decide_eq_true asx;obtain⟨ad815,e815,hx815_0⟩:=Kd.at_bool (rV HL814_0) x40_3 p815 q815
          (try rw[←Nbq25.out]at hx815_0)
          cases e815
          skip
          replace p815:=eq_true p815;replace q815:=eq_true q815;obtain⟨ad816,e816,hx816_0,p816,q816⟩:=ldi (i:=x40_3) (rR HO_9);cases e816;go_wp2
          (try simp only[←hl9_3])
          go_roundg k3
          case measure=>have:=HK1.out;have:=HK2.out;have:=HK3.out;omega
          case rel=>exact⟨(x9_3),(wrap64 (x40_3+1)),eqx,H',⟨by have:=HK1.out;have:=HK2.out;have:=HK3.out;omega⟩,⟨by(try simp only[hl9_1]);(try simp only[hl9_2]);(try simp only[hl9_3]);(with_reducible repeat(first|apply Kd.R_alloc|apply Kd.R_drewN|apply Kd.R_drew));exact HO_9.out⟩,⟨by(try simp only[hl9_1]);(try simp only[hl9_2]);(try simp only[hl9_3]);(with_reducible repeat(first|apply Kd.V_alloc|apply Kd.V_drewN|apply Kd.V_drew));exact HO_31.out⟩,⟨by(try simp only[hl9_1]);(try simp only[hl9_2]);(try simp only[hl9_3]);(with_reducible repeat(first|apply Kd.V_alloc|apply Kd.V_drewN|apply Kd.V_drew));exact HL814_0.out⟩,⟨cB HB⟩⟩
        ·have H':=Aside0.mk H;clear H;have p815:0≤(x40_3:Int):=of_decide_eq_true asx;have q815:x40_3<((rd_L4 t811 x33_2).length:Int):=of_decide_eq_true asx;obtain⟨ad815,e815,hx815_0⟩:=Kd.at_bool (rV HL814_0) x40_3 p815 q815
         (try rw[←Nbq25.out]at hx815_0)
         cases e815
         skip
         replace p815:=eq_true p815;replace q815:=eq_true q815;go_wp2
         (try simp only[←hl9_3])
         go_roundg k3
         case measure=>have:=HK1.out;have:=HK2.out;have:=HK3.out;omega
         case rel=>exact⟨(x9_3),(wrap64 (x40_3+1)),eqx,H',⟨by have:=HK1.out;have:=HK2.out;have:=HK3.out;omega⟩,⟨by(try simp only[hl9_1]);(try simp only[hl9_2]);(try simp only[hl9_3]);(with_reducible repeat(first|apply Kd.R_alloc|apply Kd.R_drewN|apply Kd.R_drew));exact HO_9.out⟩,⟨by(try simp only[hl9_1]);(try simp only[hl9_2]);(try simp only[hl9_3]);(with_reducible repeat(first|apply Kd.V_alloc|apply Kd.V_drewN|apply Kd.V_drew));exact HO_31.out⟩,⟨by(try simp only[hl9_1]);(try simp only[hl9_2]);(try simp only[hl9_3]);(with_reducible repeat(first|apply Kd.V_alloc|apply Kd.V_drewN|apply Kd.V_drew));exact HL814_0.out⟩,⟨cB HB⟩⟩
       ·have H':=Aside0.mk H;clear H;go_wp2
        (try simp only[←hl9_2,←hl9_3])
        go_roundg k3
        case measure=>have:=HK1.out;have:=HK2.out;have:=HK3.out;omega
        case rel=>exact⟨(x9_3),(wrap64 (x33_2+1)),eqx,H',⟨by have:=HK1.out;have:=HK2.out;have:=HK3.out;omega⟩,⟨by(try simp only[hl9_1]);(try simp only[hl9_2]);(try simp only[hl9_3]);(with_reducible repeat(first|apply Kd.R_alloc|apply Kd.R_drewN|apply Kd.R_drew));exact HO_9.out⟩,⟨by(try simp only[hl9_1]);(try simp only[hl9_2]);(try simp only[hl9_3]);(with_reducible repeat(first|apply Kd.V_alloc|apply Kd.V_drewN|apply Kd.V_drew));exact HO_31.out⟩,⟨cB HB⟩⟩
     ·(try(have c19b20:=c19b0;rw[hl9_1]at c19b20))
      (try(have c19b21:=c19b0;rw[hl9_2]at c19b21))
      (try(have c19b22:=c19b0;rw[hl9_3]at c19b22))
      obtain rfl:=Option.some.inj H;go_wp2
      go_ret
      exact⟨_,erx,by(with_reducible repeat(first|apply Kd.R_alloc|apply Kd.R_drewN|apply Kd.R_drew));exact HO_9.out,cB HB⟩
 ·exact absurd H (by simp)
def impl_FirstFactors.f (k:Nat) (l0:List (List Int)) (l1:List Int) (l2:List Int) (a3:Int):Option (List Int×Bool):=(impl_areNested.f k l0 l1 l2 a3).bind fun t818=>(if t818=true then((impl_firstFactors.f k l0 l1 l2 a3).bind fun t819=>(some (t819,true)))else(some (([]:List Int),false)))
set_option maxHeartbeats 8000000 in
set_option maxRecDepth 100000 in
theorem impl_FirstFactors.calls (k:Nat) (A0:Option Addr) (c0:Nat) (l0:List (List Int)) (A1:Option Addr) (c1:Nat) (l1:List Int) (A2:Option Addr) (c2:Nat) (l2:List Int) (a3:Int) (r1:List Int) (r2:Bool) (w:World) (hr0:Kd.C (Kd.slice 3 (Kd.int .i64)) w A0 l0.length l0) (hc0:l0.length≤c0) (hr1:Kd.C (Kd.int .i64) w A1 l1.length l1) (hc1:l1.length≤c1) (hr2:Kd.C (Kd.int .i64) w A2 l2.length l2) (hc2:l2.length≤c2) (h:impl_FirstFactors.f k l0 l1 l2 a3=some (r1,r2)):
  Calls Try.prog 56 #[.slice A0 l0.length c0,.slice A1 l1.length c1,.slice A2 l2.length c2,.int .i64 a3] w fun e w'=> ∃v0_:Value,e= .returned (.tuple #[v0_,.bool r2])∧Kd.R (Kd.int .i64) 3 w' w.heap.size (fun _=>True) v0_ r1∧Below w.heap.size w w':=by
 have HR0:=Aside0.mk hr0;have HC0:=Aside0.mk hc0;clear hr0 hc0;have HR1:=Aside0.mk hr1;have HC1:=Aside0.mk hc1;clear hr1 hc1;have HR2:=Aside0.mk hr2;have HC2:=Aside0.mk hc2;clear hr2 hc2;have HB:=Aside0.mk (Below.refl w.heap.size w);have H:=h;clear h
 unfold impl_FirstFactors.f at H
 replace H:=bnd H;obtain⟨t818,A5,H⟩:=H;replace H:=itt H;rcases H with⟨rfl,H⟩|⟨rfl,H⟩
 ·replace H:=bnd H;obtain⟨t819,A7,H⟩:=H;simp only[Option.some.injEq,Prod.mk.injEq]at H;obtain⟨rfl,rfl⟩:=H
  go_enter Try.func56,Try.ntmps56
  go_wp2_with(first|(refine cal_ 90 (some 14) Try.func90 #[.slice A0 l0.length c0,.slice A1 l1.length c1,.slice A2 l2.length c2,.int .i64 a3] rfl (impl_areNested.calls k _ _ l0 _ _ l1 _ _ l2 a3 true _ ?_ HC0.out ?_ HC1.out ?_ HC2.out A5.out) ?_;exact cC HR0;exact cC HR1;exact cC HR2;rintro e w' ⟨rfl,⟨nd,rfl⟩⟩;refine⟨_,rfl,?_⟩)|(refine cal_ 91 (some 20) Try.func91 #[.slice A0 l0.length c0,.slice A1 l1.length c1,.slice A2 l2.length c2,.int .i64 a3] rfl (impl_firstFactors.calls k _ _ l0 _ _ l1 _ _ l2 a3 t819 _ ?_ HC0.out ?_ HC1.out ?_ HC2.out A7.out) ?_;exact cC HR0;exact cC HR1;exact cC HR2;rintro e w8 ⟨v820,rfl,ho0,hb⟩;refine⟨_,rfl,?_⟩;have HO821:=eRr ho0 (bz HB);replace HB:=bs HB hb;clear hb ho0))
  go_ret2
  exact⟨_,erx,by(with_reducible repeat(first|apply Kd.R_alloc|apply Kd.R_drewN|apply Kd.R_drew));exact HO821.out,cB HB⟩
 ·simp only[Option.some.injEq,Prod.mk.injEq]at H;obtain⟨rfl,rfl⟩:=H
  go_enter Try.func56,Try.ntmps56
  go_wp2_with(first|(refine cal_ 90 (some 14) Try.func90 #[.slice A0 l0.length c0,.slice A1 l1.length c1,.slice A2 l2.length c2,.int .i64 a3] rfl (impl_areNested.calls k _ _ l0 _ _ l1 _ _ l2 a3 false _ ?_ HC0.out ?_ HC1.out ?_ HC2.out A5.out) ?_;exact cC HR0;exact cC HR1;exact cC HR2;rintro e w' ⟨rfl,⟨nd,rfl⟩⟩;refine⟨_,rfl,?_⟩))
  go_ret2
  exact⟨_,erx,nlx,cB HB⟩
end Go.Proofs.Ytlkppimbbbdmbaa.PFnFactors
