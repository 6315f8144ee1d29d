-- Printed by a changed copy of the printer; impl.bestPit and spec.paFind by contracts walked by hand
import Derived.Test.YtlkppimbbbdmbaaPFnFactorsx0
import Derived.Test.YtlkppimbbbdmbaaPFnFactorsx5
import Derived.Test.YtlkppimbbbdmbaaPFnFactorsx6
import Derived.Test.YtlkppimbbbdmbaaPFnFactorsx7
namespace Go.Proofs.Ytlkppimbbbdmbaa.PFnFactors
open Go.RowKit Go.Proofs.YtlkppimbbbdmbaaW.PrintWords Go.Proofs.YtlkppimbbbdmbaaW.PrintLast Go.Proofs.YtlkppimbbbdmbaaW.PrintMore
attribute [local go_sem] max2_int min2_int max_two min_two max_three min_three max_four min_four
set_option linter.unusedVariables false
set_option linter.unusedSimpArgs false
mutual
def spec_FirstFactors.l0:Nat→List (List Int)→List Int→List Int→Int→List Int→Int→Int→Option (List Int×Bool)
 |0,_,_,_,_,_,_,_=>none
 |k+1,x0,x1,x2,x3,x10,x26,x27=>if x27<x26 then(if 0≤x27 then(if x27<(x10.length:Int)then(spec_FirstFactors.l0 k x0 x1 x2 x3 (x10.set (x27:Int).toNat (-1)) x26 (wrap64 (x27+1)))else(none))else(none))else((spec_nePits.f k x0 x1 x2 x3).bind fun t827=>(spec_FirstFactors.l1 k x10 t827 (t827.length:Int) 0))
def spec_FirstFactors.l1:Nat→List Int→List (List Int)→Int→Int→Option (List Int×Bool)
 |0,_,_,_,_=>none
 |k+1,x10,x38,x39,x40=>if x40<x39 then(if 0≤x40 then(if x40<(x38.length:Int)then(spec_FirstFactors.l2 k x10 x40 x38 x39 x40 (rd_L1 x38 x40) ((rd_L1 x38 x40).length:Int) 0)else(none))else(none))else(some (x10,true))
def spec_FirstFactors.l2:Nat→List Int→Int→List (List Int)→Int→Int→List Int→Int→Int→Option (List Int×Bool)
 |0,_,_,_,_,_,_,_,_=>none
 |k+1,x10,x12,x38,x39,x40,x45,x46,x47=>if x47<x46 then(if 0≤x47 then(if x47<(x45.length:Int)then(if 0≤(rd x45 x47)then(if(rd x45 x47)<(x10.length:Int)then(if(rd x10 (rd x45 x47))<0 then(spec_FirstFactors.l2 k (x10.set ((rd x45 x47):Int).toNat x12) x12 x38 x39 x40 x45 x46 (wrap64 (x47+1)))else(spec_FirstFactors.l2 k x10 x12 x38 x39 x40 x45 x46 (wrap64 (x47+1))))else(none))else(none))else(none))else(none))else(spec_FirstFactors.l1 k x10 x38 x39 (wrap64 (x40+1)))
end
def spec_FirstFactors.f (k:Nat) (l0:List (List Int)) (l1:List Int) (l2:List Int) (a3:Int):Option (List Int×Bool):=(spec_neAsked.f k l0 l1 l2 a3).bind fun t822=>(if t822=true then(if 0≤(l0.length:Int)then(if((l0.length:Int):Int).toNat≤35184372088832 then((some (List.replicate ((l0.length:Int):Int).toNat 0:List Int)).bind fun y823=>(spec_FirstFactors.l0 k l0 l1 l2 a3 y823 (y823.length:Int) 0))else(none))else(none))else(some (([]:List Int),false)))
set_option maxHeartbeats 8000000 in
set_option maxRecDepth 100000 in
theorem spec_FirstFactors.calls (k:Nat) (A0:Option Addr) (c0:Nat) (l0:List (List Int)) (A1:Option Addr) (c1:Nat) (l1:List Int) (A2:Option Addr) (c2:Nat) (l2:List Int) (a3:Int) (r1:List Int) (r2:Bool) (w:World) (hr0:Kd.C (Kd.slice 3 (Kd.int .i64)) w A0 l0.length l0) (hc0:l0.length≤c0) (hr1:Kd.C (Kd.int .i64) w A1 l1.length l1) (hc1:l1.length≤c1) (hr2:Kd.C (Kd.int .i64) w A2 l2.length l2) (hc2:l2.length≤c2) (h:spec_FirstFactors.f k l0 l1 l2 a3=some (r1,r2)):
  Calls Try.prog 57 #[.slice A0 l0.length c0,.slice A1 l1.length c1,.slice A2 l2.length c2,.int .i64 a3] w fun e w'=> ∃v0_:Value,e= .returned (.tuple #[v0_,.bool r2])∧Kd.R (Kd.int .i64) 3 w' w.heap.size (fun _=>True) v0_ r1∧Below w.heap.size w w':=by
 have HR0:=Aside0.mk hr0;have HC0:=Aside0.mk hc0;clear hr0 hc0;have HR1:=Aside0.mk hr1;have HC1:=Aside0.mk hc1;clear hr1 hc1;have HR2:=Aside0.mk hr2;have HC2:=Aside0.mk hc2;clear hr2 hc2;have HB:=Aside0.mk (Below.refl w.heap.size w);have H:=h;clear h
 unfold spec_FirstFactors.f at H
 replace H:=bnd H;obtain⟨t822,A5,H⟩:=H;replace H:=itt H;rcases H with⟨rfl,H⟩|⟨rfl,H⟩
 ·replace H:=ite_ H;obtain⟨c7b0,c7b1,H⟩:=H;replace H:=ite_ H;obtain⟨c8b0,c8b1,H⟩:=H;replace H:=nmb H;obtain⟨y823,Ny823,H⟩:=H;have H':=Aside0.mk H;clear H
  go_enter Try.func57,Try.ntmps57
  go_wp2_with(first|(refine cal_ 92 (some 20) Try.func92 #[.slice A0 l0.length c0,.slice A1 l1.length c1,.slice A2 l2.length c2,.int .i64 a3] rfl (spec_neAsked.calls k _ _ l0 _ _ l1 _ _ l2 a3 true _ ?_ HC0.out ?_ HC1.out ?_ HC2.out A5.out) ?_;exact cC HR0;exact cC HR1;exact cC HR2;rintro e w' ⟨rfl,⟨nd,rfl⟩⟩;refine⟨_,rfl,?_⟩)|((with_reducible refine gate_dst (N:=24) rfl ?_);refine Kd.R_make (Kd.int .i64) _ 3 rfl (N:=24) rfl 24 _ _ rfl (l0.length:Int) rfl rfl Try.underlying24 (.int .i64 0) 8 info3 rfl (by decide) (by omega) 0 (ok:=fun _=>True) (okp:=fun _=>True) rfl (fun _ hk=>hk) trivial (of_decide_eq_true asx) (Nat.le_trans (Nat.mul_le_mul_right _ (of_decide_eq_true asx:(l0.length:Int).toNat≤35184372088832)) (by omega)) (Below.refl _ _) (Nat.le_refl _) ?_;intro v824 w9 ho10 hb hg_ hnew_;clear hg_ hnew_;(first|rw[←Ny823.out]at ho10|(simp only[Int.reduceToNat]at ho10;rw[←Ny823.out]at ho10));have HO825:=eRr ho10 (bz HB);replace HB:=bs HB hb;clear hb ho10;obtain⟨Ao11,co11,rfl⟩:=sR HO825))
  go_loopg [27] k (fun kq v27 w'=> ∃(x10_1:List Int) (x27_1:Int),v27= .int .i64 x27_1∧Aside0 (spec_FirstFactors.l0 kq l0 l1 l2 a3 x10_1 (y823.length:Int) x27_1=some (r1,r2))∧Aside0 (kq≤k)∧Aside0 (Kd.R (Kd.int .i64) 3 w' w.heap.size (fun _=>True) (.slice Ao11 y823.length co11) x10_1)∧Aside0 (Below w.heap.size w w'))
  case atStart=>exact⟨(y823),(0),eqx,H',⟨Nat.le_refl _⟩,mR HO825,⟨cB HB⟩⟩
  case round=>
   clear H';obtain⟨x10_1,x27_1,rfl,HA,HK1,HO_10,HB⟩:=hrel;have hl10_1:=(Kd.R_reads' HO_10.out).1;rw[hl10_1]at HO_10
   (try simp only[hl10_1])
   obtain _|k1:=gk
   ·exact nz HA.out
   have H:=HA.out;clear HA;simp only[spec_FirstFactors.l0]at H;replace H:=itb H;rcases H with⟨c12b0,H⟩|⟨c12b0,H⟩
   ·(try(have c12b20:=c12b0;rw[hl10_1]at c12b20))
    replace H:=itd H;obtain⟨c13b0,H⟩:=H;replace H:=itd H;obtain⟨c14b0,H⟩:=H
    (try(have c14b20:=c14b0;rw[hl10_1]at c14b20))
    obtain⟨y826,Ny826⟩:=nmx ((x10_1.set (x27_1:Int).toNat (-1)):List Int);rw[←Ny826.out]at H;have H':=Aside0.mk H;clear H;have p15:0≤(x27_1:Int):=of_decide_eq_true asx;have q15:(x27_1:Int)<((x10_1.length:Int):Int):=of_decide_eq_true asx;obtain⟨go15,co15,eo15,gb15,gl15,cl15,HG15⟩:=Kd.R_form HO_10.out (by omega)
    (first|cases eo15|(injection eo15 with ea_ en_ ec_;(first|subst ea_|(injection ea_ with ea_;subst ea_));subst ec_;clear en_))
    have GB15:=Aside0.mk gb15;have GG15:=Aside0.mk HG15;clear gb15 gl15 HG15;obtain⟨hx15_0,hf15_0⟩:=Kd.R_celln 0 HO_10.out (x27_1:Int) p15 q15;replace p15:=eq_true p15;replace q15:=eq_true q15;have HP16:=Kd.R_putg HO_10.out (x27_1:Int) (-1)
    go_wp2_with(first|((with_reducible refine gate_store (t:=3) (p:=32) rfl ?_);refine store_event (t:=3) (p:=32) (v:=?vo_w17) (w1:=(wr.setCell ⟨go15,(x27_1:Int).toNat,none⟩ (.int .i64 (-1)))) ?hg ?ho ?hn ?hr ?_;(case ho=>rfl);(case hg=>rfl);(case hn=>rfl);(case hr=>first|(go_simp;done)|(go_simp;rfl));intro w17 hw;have hg:wr.grownBy w17 (some go15):=(by rw[hw];exact HP16.2);have hp_:Kd.R (Kd.int .i64) 3 w17 w.heap.size (fun _=>True) (.slice (some ⟨go15,0,none⟩) x10_1.length co11) y826:=(by rw[hw,Ny826.out];exact HP16.1);clear HP16;replace HO_10:=Aside0.mk hp_;replace HB:=Aside0.mk (by rw[hw];exact below_set (HB.out) GB15.out:Below w.heap.size w w17);clear hg hw hp_))
    (try simp only[←hl10_1])
    go_roundg k1
    case measure=>have:=HK1.out;omega
    case rel=>exact⟨(y826),(wrap64 (x27_1+1)),eqx,H',⟨by have:=HK1.out;omega⟩,⟨by(try simp only[hl10_1]);(with_reducible repeat(first|apply Kd.R_alloc|apply Kd.R_drewN|apply Kd.R_drew));exact HO_10.out⟩,⟨cB HB⟩⟩
   ·(try(have c12b20:=c12b0;rw[hl10_1]at c12b20))
    replace H:=bnd H;obtain⟨t827,A18,H⟩:=H;have H':=Aside0.mk H;clear H
    go_wp2_with(first|(refine cal_ 93 (some 38) Try.func93 #[.slice A0 l0.length c0,.slice A1 l1.length c1,.slice A2 l2.length c2,.int .i64 a3] rfl (spec_nePits.calls k1 _ _ l0 _ _ l1 _ _ l2 a3 t827 _ ?_ HC0.out ?_ HC1.out ?_ HC2.out A18.out) ?_;exact cb_ HR0 HB;exact cb_ HR1 HB;exact cb_ HR2 HB;rintro e w19 ⟨v828,rfl,ho0,hb⟩;refine⟨_,rfl,?_⟩;have HO829:=Aside0.mk (Kd.V_lower (Kd.V_mono (ok':=fun k_=>some k_≠(.slice Ao11 x10_1.length co11:Value).ownBlock) ho0 (fun k_ hk_=>(Kd.fresh' (Kd.R_lt (cR HO_10)) k_ hk_))) (bz HB));replace HO_10:=bR HO_10 hb;replace HB:=bs HB hb;clear hb ho0;obtain⟨Ao20,co20,rfl⟩:=sV HO829))
    go_loopg [40] k1 (fun kq v40 w'=> ∃(x10_2:List Int) (x40_2:Int),v40= .int .i64 x40_2∧Aside0 (spec_FirstFactors.l1 kq x10_2 t827 (t827.length:Int) x40_2=some (r1,r2))∧Aside0 (kq≤k1)∧Aside0 (Kd.R (Kd.int .i64) 3 w' w.heap.size (fun _=>True) (.slice Ao11 x10_1.length co11) x10_2)∧Aside0 (Kd.V (Kd.slice 3 (Kd.int .i64)) 24 w' w.heap.size (fun k_=>some k_≠((.slice Ao11 x10_1.length co11):Value).ownBlock) (.slice Ao20 t827.length co20) t827)∧Aside0 (Below w.heap.size w w'))
    case atStart=>exact⟨(x10_1),(0),eqx,H',⟨Nat.le_refl _⟩,⟨by(try simp only[hl10_1]);(with_reducible repeat(first|apply Kd.R_alloc|apply Kd.R_drewN|apply Kd.R_drew));exact HO_10.out⟩,⟨by(try simp only[hl10_1]);(with_reducible repeat(first|apply Kd.V_alloc|apply Kd.V_drewN|apply Kd.V_drew));exact HO829.out⟩,⟨cB HB⟩⟩
    case round=>
     clear H';obtain⟨x10_2,x40_2,rfl,HA,HK2,HO_10,HO_38,HB⟩:=hrel;have hl10_2:=(Kd.R_reads' HO_10.out).1;rw[hl10_2]at HO_10
     (try simp only[hl10_2])
     (try simp only[hl10_2]at HO_38)
     obtain _|k2:=gk
     ·exact nz HA.out
     have H:=HA.out;clear HA;simp only[spec_FirstFactors.l1]at H;replace H:=itb H;rcases H with⟨c21b0,H⟩|⟨c21b0,H⟩
     ·(try(have c21b20:=c21b0;rw[hl10_1]at c21b20))
      (try(have c21b21:=c21b0;rw[hl10_2]at c21b21))
      replace H:=itd H;obtain⟨c22b0,H⟩:=H;replace H:=itd H;obtain⟨c23b0,H⟩:=H
      (try(have c23b20:=c23b0;rw[hl10_1]at c23b20))
      (try(have c23b21:=c23b0;rw[hl10_2]at c23b21))
      have H':=Aside0.mk H;clear H;have p830:0≤(x40_2:Int):=of_decide_eq_true asx;have q830:x40_2<(t827.length:Int):=of_decide_eq_true asx;obtain⟨ad830,A830_0,c830_0,e830,hx830_0,hl830_0,hi830_0⟩:=at_L1 (rV HO_38) x40_2 p830 q830;cases e830;obtain⟨ce830,hce830,hMe830,hcc830⟩:=Kd.V_get HO_38.out [] x40_2 p830 (by first|exact q830|exact of_decide_eq_true asx|(have e_:=(Kd.V_reads' HO_38.out).1;omega));obtain⟨ua830_0,uc830_0,rfl,ul830_0,ge830_0⟩:=Kd.FK_slice_open hMe830;have hv830_0:=hcc830 0 _ rfl;rw[Nat.add_zero,show((Kd.slice 3 (Kd.int .i64))).sz=1 from rfl,Nat.mul_one]at hv830_0;replace hv830_0:=Option.some.inj (hv830_0.symm.trans hx830_0)
      injection hv830_0 with hva_ hvn_ hvc_
      rw[hva_]at ge830_0;rw[hvc_]at ul830_0;have HL830_0:=Aside0.mk (show Kd.V (Kd.int .i64) 3 _ w.heap.size _ _ (rd_L1 t827 x40_2)from Kd.V_mk ul830_0 ge830_0);clear hva_ hvn_ hvc_ ge830_0 ul830_0;clear hcc830 hce830;have HR830_0:=Aside0.mk hi830_0;have HC830_0:=Aside0.mk hl830_0;clear hi830_0 hl830_0;replace p830:=eq_true p830;replace q830:=eq_true q830;go_wp2
      go_loopg [47] k2 (fun kq v47 w'=> ∃(x10_3:List Int) (x47_3:Int),v47= .int .i64 x47_3∧Aside0 (spec_FirstFactors.l2 kq x10_3 x40_2 t827 (t827.length:Int) x40_2 (rd_L1 t827 x40_2) ((rd_L1 t827 x40_2).length:Int) x47_3=some (r1,r2))∧Aside0 (kq≤k2)∧Aside0 (Kd.R (Kd.int .i64) 3 w' w.heap.size (fun _=>True) (.slice Ao11 x10_2.length co11) x10_3)∧Aside0 (Kd.V (Kd.slice 3 (Kd.int .i64)) 24 w' w.heap.size (fun k_=>some k_≠((.slice Ao11 x10_2.length co11):Value).ownBlock) (.slice (some ad830) t827.length co20) t827)∧Aside0 (Kd.V (Kd.int .i64) 3 w' w.heap.size (fun k_=>some k_≠((.slice Ao11 x10_2.length co11):Value).ownBlock) (.slice A830_0 (rd_L1 t827 x40_2).length c830_0) (rd_L1 t827 x40_2))∧Aside0 (Below w.heap.size w w'))
      case atStart=>exact⟨(x10_2),(0),eqx,H',⟨Nat.le_refl _⟩,⟨by(try simp only[hl10_1]);(try simp only[hl10_2]);(with_reducible repeat(first|apply Kd.R_alloc|apply Kd.R_drewN|apply Kd.R_drew));exact HO_10.out⟩,⟨by(try simp only[hl10_1]);(try simp only[hl10_2]);(with_reducible repeat(first|apply Kd.V_alloc|apply Kd.V_drewN|apply Kd.V_drew));exact HO_38.out⟩,⟨by(try simp only[hl10_1]);(try simp only[hl10_2]);(with_reducible repeat(first|apply Kd.V_alloc|apply Kd.V_drewN|apply Kd.V_drew));exact HL830_0.out⟩,⟨cB HB⟩⟩
      case round=>
       clear H';obtain⟨x10_3,x47_3,rfl,HA,HK3,HO_10,HO_38,HL830_0,HB⟩:=hrel;have hl10_3:=(Kd.R_reads' HO_10.out).1;rw[hl10_3]at HO_10
       (try simp only[hl10_3])
       (try simp only[hl10_3]at HO_38);(try simp only[hl10_3]at HL830_0)
       obtain _|k3:=gk
       ·exact nz HA.out
       have H:=HA.out;clear HA;simp only[spec_FirstFactors.l2]at H;replace H:=itb H;rcases H with⟨c24b0,H⟩|⟨c24b0,H⟩
       ·replace H:=itd H;obtain⟨c25b0,H⟩:=H;replace H:=itd H;obtain⟨c26b0,H⟩:=H;replace H:=itd H;obtain⟨c27b0,H⟩:=H;replace H:=itd H;obtain⟨c28b0,H⟩:=H;replace H:=itb H;rcases H with⟨c29b0,H⟩|⟨c29b0,H⟩
        ·obtain⟨y833,Ny833⟩:=nmx ((x10_3.set ((rd (rd_L1 t827 x40_2) x47_3):Int).toNat x40_2):List Int);rw[←Ny833.out]at H;have H':=Aside0.mk H;clear H;have p831:0≤(x47_3:Int):=of_decide_eq_true asx;have q831:x47_3<((rd_L1 t827 x40_2).length:Int):=of_decide_eq_true asx;obtain⟨ad831,e831,hx831_0⟩:=Kd.at_int (rV HL830_0) x47_3 p831 q831;cases e831
         skip
         replace p831:=eq_true p831;replace q831:=eq_true q831;obtain⟨ad832,e832,hx832_0,p832,q832⟩:=ldi (i:=(rd (rd_L1 t827 x40_2) x47_3)) (rR HO_10);cases e832;have p30:0≤((rd (rd_L1 t827 x40_2) x47_3):Int):=of_decide_eq_true asx;have q30:((rd (rd_L1 t827 x40_2) x47_3):Int)<((x10_3.length:Int):Int):=of_decide_eq_true asx;obtain⟨go30,co30,eo30,gb30,gl30,cl30,HG30⟩:=Kd.R_form HO_10.out (by omega)
         (first|cases eo30|(injection eo30 with ea_ en_ ec_;(first|subst ea_|(injection ea_ with ea_;subst ea_));subst ec_;clear en_))
         have GB30:=Aside0.mk gb30;have GG30:=Aside0.mk HG30;clear gb30 gl30 HG30
         (first|simp only[add_plain]at hx832_0|skip)
         obtain⟨hx30_0,hf30_0⟩:=Kd.R_celln 0 HO_10.out ((rd (rd_L1 t827 x40_2) x47_3):Int) p30 q30;replace p30:=eq_true p30;replace q30:=eq_true q30;have HP31:=Kd.R_putg HO_10.out ((rd (rd_L1 t827 x40_2) x47_3):Int) x40_2
         go_wp2_with(first|((with_reducible refine gate_store (t:=3) (p:=59) rfl ?_);refine store_event (t:=3) (p:=59) (v:=?vo_w32) (w1:=(wr.setCell ⟨go30,((rd (rd_L1 t827 x40_2) x47_3):Int).toNat,none⟩ (.int .i64 x40_2))) ?hg ?ho ?hn ?hr ?_;(case ho=>rfl);(case hg=>rfl);(case hn=>rfl);(case hr=>first|(go_simp;done)|(go_simp;rfl));intro w32 hw;have hg:wr.grownBy w32 (some go30):=(by rw[hw];exact HP31.2);have hp_:Kd.R (Kd.int .i64) 3 w32 w.heap.size (fun _=>True) (.slice (some ⟨go30,0,none⟩) x10_3.length co11) y833:=(by rw[hw,Ny833.out];exact HP31.1);clear HP31;have n0_:=Aside0.mk hp_;have n1_:=Aside0.mk (Kd.V_afterv (v:=(.slice (some ⟨go30,0,none⟩) x10_3.length co11)) (v1:=(.slice (some ⟨go30,0,none⟩) x10_3.length co11)) (ok:=(fun _=>True)) (cV ⟨Kd.V_mono HO_38.out (fun _ hk=>⟨trivial,hk⟩)⟩) hg (.inl rfl));have nL_:=Aside0.mk (Kd.V_afterv (v:=(.slice (some ⟨go30,0,none⟩) x10_3.length co11)) (v1:=(.slice (some ⟨go30,0,none⟩) x10_3.length co11)) (ok:=(fun _=>True)) (cV ⟨Kd.V_mono HL830_0.out (fun _ hk=>⟨trivial,hk⟩)⟩) hg (.inl rfl));have n2_:=Aside0.mk (by rw[hw];exact below_set (HB.out) GB30.out:Below w.heap.size w w32);clear HO_10 HO_38 HL830_0 HB;have HO_10:=n0_;have HO_38:=n1_;have HL830_0:=nL_;clear nL_;have HB:=n2_;clear n0_ n1_ n2_ hg hw hp_))
         (try simp only[←hl10_3])
         go_roundg k3
         case measure=>have:=HK1.out;have:=HK2.out;have:=HK3.out;omega
         case rel=>exact⟨(y833),(wrap64 (x47_3+1)),eqx,H',⟨by have:=HK1.out;have:=HK2.out;have:=HK3.out;omega⟩,⟨by(try simp only[hl10_1]);(try simp only[hl10_2]);(try simp only[hl10_3]);(with_reducible repeat(first|apply Kd.R_alloc|apply Kd.R_drewN|apply Kd.R_drew));exact HO_10.out⟩,⟨by(try simp only[hl10_1]);(try simp only[hl10_2]);(try simp only[hl10_3]);(with_reducible repeat(first|apply Kd.V_alloc|apply Kd.V_drewN|apply Kd.V_drew));exact Kd.V_mono HO_38.out (fun _ hk=>hk.2)⟩,⟨by(try simp only[hl10_1]);(try simp only[hl10_2]);(try simp only[hl10_3]);(with_reducible repeat(first|apply Kd.V_alloc|apply Kd.V_drewN|apply Kd.V_drew));exact Kd.V_mono HL830_0.out (fun _ hk=>hk.2)⟩,⟨cB HB⟩⟩
        ·have H':=Aside0.mk H;clear H;have p831:0≤(x47_3:Int):=of_decide_eq_true asx;have q831:x47_3<((rd_L1 t827 x40_2).length:Int):=of_decide_eq_true asx;obtain⟨ad831,e831,hx831_0⟩:=Kd.at_int (rV HL830_0) x47_3 p831 q831;cases e831
         skip
         replace p831:=eq_true p831;replace q831:=eq_true q831;obtain⟨ad832,e832,hx832_0,p832,q832⟩:=ldi (i:=(rd (rd_L1 t827 x40_2) x47_3)) (rR HO_10);cases e832;go_wp2
         (try simp only[←hl10_3])
         go_roundg k3
         case measure=>have:=HK1.out;have:=HK2.out;have:=HK3.out;omega
         case rel=>exact⟨(x10_3),(wrap64 (x47_3+1)),eqx,H',⟨by have:=HK1.out;have:=HK2.out;have:=HK3.out;omega⟩,⟨by(try simp only[hl10_1]);(try simp only[hl10_2]);(try simp only[hl10_3]);(with_reducible repeat(first|apply Kd.R_alloc|apply Kd.R_drewN|apply Kd.R_drew));exact HO_10.out⟩,⟨by(try simp only[hl10_1]);(try simp only[hl10_2]);(try simp only[hl10_3]);(with_reducible repeat(first|apply Kd.V_alloc|apply Kd.V_drewN|apply Kd.V_drew));exact HO_38.out⟩,⟨by(try simp only[hl10_1]);(try simp only[hl10_2]);(try simp only[hl10_3]);(with_reducible repeat(first|apply Kd.V_alloc|apply Kd.V_drewN|apply Kd.V_drew));exact HL830_0.out⟩,⟨cB HB⟩⟩
       ·have H':=Aside0.mk H;clear H;go_wp2
        (try simp only[←hl10_2,←hl10_3])
        go_roundg k3
        case measure=>have:=HK1.out;have:=HK2.out;have:=HK3.out;omega
        case rel=>exact⟨(x10_3),(wrap64 (x40_2+1)),eqx,H',⟨by have:=HK1.out;have:=HK2.out;have:=HK3.out;omega⟩,⟨by(try simp only[hl10_1]);(try simp only[hl10_2]);(try simp only[hl10_3]);(with_reducible repeat(first|apply Kd.R_alloc|apply Kd.R_drewN|apply Kd.R_drew));exact HO_10.out⟩,⟨by(try simp only[hl10_1]);(try simp only[hl10_2]);(try simp only[hl10_3]);(with_reducible repeat(first|apply Kd.V_alloc|apply Kd.V_drewN|apply Kd.V_drew));exact HO_38.out⟩,⟨cB HB⟩⟩
     ·(try(have c21b20:=c21b0;rw[hl10_1]at c21b20))
      (try(have c21b21:=c21b0;rw[hl10_2]at c21b21))
      (try(have c21b22:=c21b0;rw[hl10_3]at c21b22))
      simp only[Option.some.injEq,Prod.mk.injEq]at H;obtain⟨rfl,rfl⟩:=H;go_wp2
      go_ret2
      exact⟨_,erx,by(with_reducible repeat(first|apply Kd.R_alloc|apply Kd.R_drewN|apply Kd.R_drew));exact HO_10.out,cB HB⟩
 ·simp only[Option.some.injEq,Prod.mk.injEq]at H;obtain⟨rfl,rfl⟩:=H
  go_enter Try.func57,Try.ntmps57
  go_wp2_with(first|(refine cal_ 92 (some 20) Try.func92 #[.slice A0 l0.length c0,.slice A1 l1.length c1,.slice A2 l2.length c2,.int .i64 a3] rfl (spec_neAsked.calls k _ _ l0 _ _ l1 _ _ l2 a3 false _ ?_ HC0.out ?_ HC1.out ?_ HC2.out A5.out) ?_;exact cC HR0;exact cC HR1;exact cC HR2;rintro e w' ⟨rfl,⟨nd,rfl⟩⟩;refine⟨_,rfl,?_⟩))
  go_ret2
  exact⟨_,erx,nlx,cB HB⟩
def impl_FactorValues.f (k:Nat) (l0:List Int) (l1:List Int) (a2:Int):Option (List Int×Bool):=(impl_AreGains.f k l0 l1 (l0.length:Int)).bind fun t834=>(if t834=true then((impl_isFactor.f a2).bind fun t835=>(if t835=true then((impl_factorValues.f k l0 l1 a2).bind fun t836=>(some (t836,true)))else(some (([]:List Int),false))))else(some (([]:List Int),false)))
set_option maxHeartbeats 8000000 in
set_option maxRecDepth 100000 in
theorem impl_FactorValues.calls (k:Nat) (A0:Option Addr) (c0:Nat) (l0:List Int) (A1:Option Addr) (c1:Nat) (l1:List Int) (a2:Int) (r1:List Int) (r2:Bool) (w:World) (hr0:Kd.C (Kd.int .i64) w A0 l0.length l0) (hc0:l0.length≤c0) (hr1:Kd.C (Kd.int .i64) w A1 l1.length l1) (hc1:l1.length≤c1) (h:impl_FactorValues.f k l0 l1 a2=some (r1,r2)):
  Calls Try.prog 59 #[.slice A0 l0.length c0,.slice A1 l1.length c1,.int .i64 a2] w fun e w'=> ∃v0_:Value,e= .returned (.tuple #[v0_,.bool r2])∧Kd.R (Kd.int .i64) 3 w' w.heap.size (fun _=>True) v0_ r1∧Below w.heap.size w w':=by
 have HR0:=Aside0.mk hr0;have HC0:=Aside0.mk hc0;clear hr0 hc0;have HR1:=Aside0.mk hr1;have HC1:=Aside0.mk hc1;clear hr1 hc1;have HB:=Aside0.mk (Below.refl w.heap.size w);have H:=h;clear h
 unfold impl_FactorValues.f at H
 replace H:=bnd H;obtain⟨t834,A4,H⟩:=H;replace H:=itt H;rcases H with⟨rfl,H⟩|⟨rfl,H⟩
 ·replace H:=bnd H;obtain⟨t835,A6,H⟩:=H;replace H:=itt H;rcases H with⟨rfl,H⟩|⟨rfl,H⟩
  ·replace H:=bnd H;obtain⟨t836,A8,H⟩:=H;simp only[Option.some.injEq,Prod.mk.injEq]at H;obtain⟨rfl,rfl⟩:=H
   go_enter Try.func59,Try.ntmps59
   go_wp2_with(first|(refine cal_ 61 (some 12) Try.func61 #[.slice A0 l0.length c0,.slice A1 l1.length c1,.int .i64 (l0.length:Int)] rfl (impl_AreGains.calls k _ _ l0 _ _ l1 (l0.length:Int) true _ ?_ HC0.out ?_ HC1.out A4.out) ?_;exact cC HR0;exact cC HR1;rintro e w' ⟨rfl,⟨nd,rfl⟩⟩;refine⟨_,rfl,?_⟩)|(go_at_call 119;(with_reducible refine(impl_isFactor.calls a2 true _ A6.out).mono ?_);rintro e w' ⟨rfl,⟨nd,rfl⟩⟩)|(refine cal_ 96 (some 22) Try.func96 #[.slice A0 l0.length c0,.slice A1 l1.length c1,.int .i64 a2] rfl (impl_factorValues.calls k _ _ l0 _ _ l1 a2 t836 _ ?_ HC0.out ?_ HC1.out A8.out) ?_;exact cC HR0;exact cC HR1;rintro e w9 ⟨v837,rfl,ho0,hb⟩;refine⟨_,rfl,?_⟩;have HO838:=eRr ho0 (bz HB);replace HB:=bs HB hb;clear hb ho0))
   go_ret2
   exact⟨_,erx,by(with_reducible repeat(first|apply Kd.R_alloc|apply Kd.R_drewN|apply Kd.R_drew));exact HO838.out,cB HB⟩
  ·simp only[Option.some.injEq,Prod.mk.injEq]at H;obtain⟨rfl,rfl⟩:=H
   go_enter Try.func59,Try.ntmps59
   go_wp2_with(first|(refine cal_ 61 (some 12) Try.func61 #[.slice A0 l0.length c0,.slice A1 l1.length c1,.int .i64 (l0.length:Int)] rfl (impl_AreGains.calls k _ _ l0 _ _ l1 (l0.length:Int) true _ ?_ HC0.out ?_ HC1.out A4.out) ?_;exact cC HR0;exact cC HR1;rintro e w' ⟨rfl,⟨nd,rfl⟩⟩;refine⟨_,rfl,?_⟩)|(go_at_call 119;(with_reducible refine(impl_isFactor.calls a2 false _ A6.out).mono ?_);rintro e w' ⟨rfl,⟨nd,rfl⟩⟩))
   go_ret2
   exact⟨_,erx,nlx,cB HB⟩
 ·simp only[Option.some.injEq,Prod.mk.injEq]at H;obtain⟨rfl,rfl⟩:=H
  go_enter Try.func59,Try.ntmps59
  go_wp2_with(first|(refine cal_ 61 (some 12) Try.func61 #[.slice A0 l0.length c0,.slice A1 l1.length c1,.int .i64 (l0.length:Int)] rfl (impl_AreGains.calls k _ _ l0 _ _ l1 (l0.length:Int) false _ ?_ HC0.out ?_ HC1.out A4.out) ?_;exact cC HR0;exact cC HR1;rintro e w' ⟨rfl,⟨nd,rfl⟩⟩;refine⟨_,rfl,?_⟩))
  go_ret2
  exact⟨_,erx,nlx,cB HB⟩
def spec_FactorValues.f (k:Nat) (l0:List Int) (l1:List Int) (a2:Int):Option (List Int×Bool):=(spec_neGains.f k l0 l1 (l0.length:Int)).bind fun t839=>(if t839=true then((spec_neFactor.f a2).bind fun t840=>(if t840=true then((spec_neValues.f k l0 l1 a2).bind fun t841=>(some (t841,true)))else(some (([]:List Int),false))))else(some (([]:List Int),false)))
set_option maxHeartbeats 8000000 in
set_option maxRecDepth 100000 in
theorem spec_FactorValues.calls (k:Nat) (A0:Option Addr) (c0:Nat) (l0:List Int) (A1:Option Addr) (c1:Nat) (l1:List Int) (a2:Int) (r1:List Int) (r2:Bool) (w:World) (hr0:Kd.C (Kd.int .i64) w A0 l0.length l0) (hc0:l0.length≤c0) (hr1:Kd.C (Kd.int .i64) w A1 l1.length l1) (hc1:l1.length≤c1) (h:spec_FactorValues.f k l0 l1 a2=some (r1,r2)):
  Calls Try.prog 60 #[.slice A0 l0.length c0,.slice A1 l1.length c1,.int .i64 a2] w fun e w'=> ∃v0_:Value,e= .returned (.tuple #[v0_,.bool r2])∧Kd.R (Kd.int .i64) 3 w' w.heap.size (fun _=>True) v0_ r1∧Below w.heap.size w w':=by
 have HR0:=Aside0.mk hr0;have HC0:=Aside0.mk hc0;clear hr0 hc0;have HR1:=Aside0.mk hr1;have HC1:=Aside0.mk hc1;clear hr1 hc1;have HB:=Aside0.mk (Below.refl w.heap.size w);have H:=h;clear h
 unfold spec_FactorValues.f at H
 replace H:=bnd H;obtain⟨t839,A4,H⟩:=H;replace H:=itt H;rcases H with⟨rfl,H⟩|⟨rfl,H⟩
 ·replace H:=bnd H;obtain⟨t840,A6,H⟩:=H;replace H:=itt H;rcases H with⟨rfl,H⟩|⟨rfl,H⟩
  ·replace H:=bnd H;obtain⟨t841,A8,H⟩:=H;simp only[Option.some.injEq,Prod.mk.injEq]at H;obtain⟨rfl,rfl⟩:=H
   go_enter Try.func60,Try.ntmps60
   go_wp2_with(first|(refine cal_ 120 (some 12) Try.func120 #[.slice A0 l0.length c0,.slice A1 l1.length c1,.int .i64 (l0.length:Int)] rfl (spec_neGains.calls k _ _ l0 _ _ l1 (l0.length:Int) true _ ?_ HC0.out ?_ HC1.out A4.out) ?_;exact cC HR0;exact cC HR1;rintro e w' ⟨rfl,⟨nd,rfl⟩⟩;refine⟨_,rfl,?_⟩)|(go_at_call 121;(with_reducible refine(spec_neFactor.calls a2 true _ A6.out).mono ?_);rintro e w' ⟨rfl,⟨nd,rfl⟩⟩)|(refine cal_ 97 (some 22) Try.func97 #[.slice A0 l0.length c0,.slice A1 l1.length c1,.int .i64 a2] rfl (spec_neValues.calls k _ _ l0 _ _ l1 a2 t841 _ ?_ HC0.out ?_ HC1.out A8.out) ?_;exact cC HR0;exact cC HR1;rintro e w9 ⟨v842,rfl,ho0,hb⟩;refine⟨_,rfl,?_⟩;have HO843:=eRr ho0 (bz HB);replace HB:=bs HB hb;clear hb ho0))
   go_ret2
   exact⟨_,erx,by(with_reducible repeat(first|apply Kd.R_alloc|apply Kd.R_drewN|apply Kd.R_drew));exact HO843.out,cB HB⟩
  ·simp only[Option.some.injEq,Prod.mk.injEq]at H;obtain⟨rfl,rfl⟩:=H
   go_enter Try.func60,Try.ntmps60
   go_wp2_with(first|(refine cal_ 120 (some 12) Try.func120 #[.slice A0 l0.length c0,.slice A1 l1.length c1,.int .i64 (l0.length:Int)] rfl (spec_neGains.calls k _ _ l0 _ _ l1 (l0.length:Int) true _ ?_ HC0.out ?_ HC1.out A4.out) ?_;exact cC HR0;exact cC HR1;rintro e w' ⟨rfl,⟨nd,rfl⟩⟩;refine⟨_,rfl,?_⟩)|(go_at_call 121;(with_reducible refine(spec_neFactor.calls a2 false _ A6.out).mono ?_);rintro e w' ⟨rfl,⟨nd,rfl⟩⟩))
   go_ret2
   exact⟨_,erx,nlx,cB HB⟩
 ·simp only[Option.some.injEq,Prod.mk.injEq]at H;obtain⟨rfl,rfl⟩:=H
  go_enter Try.func60,Try.ntmps60
  go_wp2_with(first|(refine cal_ 120 (some 12) Try.func120 #[.slice A0 l0.length c0,.slice A1 l1.length c1,.int .i64 (l0.length:Int)] rfl (spec_neGains.calls k _ _ l0 _ _ l1 (l0.length:Int) false _ ?_ HC0.out ?_ HC1.out A4.out) ?_;exact cC HR0;exact cC HR1;rintro e w' ⟨rfl,⟨nd,rfl⟩⟩;refine⟨_,rfl,?_⟩))
  go_ret2
  exact⟨_,erx,nlx,cB HB⟩
end Go.Proofs.Ytlkppimbbbdmbaa.PFnFactors
