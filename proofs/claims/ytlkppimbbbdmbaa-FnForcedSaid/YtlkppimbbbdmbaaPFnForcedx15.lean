-- Printed by a changed copy of the printer; impl.bestPit and spec.paFind by contracts walked by hand
import Derived.Test.YtlkppimbbbdmbaaPFnForcedx0
import Derived.Test.YtlkppimbbbdmbaaPFnForcedx3
import Derived.Test.YtlkppimbbbdmbaaPFnForcedx4
namespace Go.Proofs.Ytlkppimbbbdmbaa.PFnForced
open Go.RowKit Go.Proofs.YtlkppimbbbdmbaaW.PrintWords Go.Proofs.YtlkppimbbbdmbaaW.PrintLast Go.Proofs.YtlkppimbbbdmbaaW.PrintMore
attribute [local go_sem] max2_int min2_int max_two min_two max_three min_three max_four min_four
set_option linter.unusedVariables false
set_option linter.unusedSimpArgs false
mutual
def spec_paOnly.l0:Nat→List (List Int)→List Int→List Int→List Int→List Int→Int→Int→Option (List Int)
 |0,_,_,_,_,_,_,_=>none
 |k+1,x0,x1,x2,x7,x23,x24,x25=>if x25<x24 then(if 0≤x25 then(if x25<(x23.length:Int)then(if 0≤(rd x23 x25)then(if(rd x23 x25)<(x7.length:Int)then(spec_paOnly.l0 k x0 x1 x2 (x7.set ((rd x23 x25):Int).toNat (wrap64 (x25+1))) x23 x24 (wrap64 (x25+1)))else(none))else(none))else(none))else(none))else(spec_paOnly.l1 k x0 x1 x2 x7 ([]:List (List Int)) ([]:List Int) x2 (x2.length:Int) 0)
def spec_paOnly.l1:Nat→List (List Int)→List Int→List Int→List Int→List (List Int)→List Int→List Int→Int→Int→Option (List Int)
 |0,_,_,_,_,_,_,_,_,_=>none
 |k+1,x0,x1,x2,x7,x10,x11,x36,x37,x38=>if x38<x37 then(if 0≤x38 then(if x38<(x36.length:Int)then(if 0≤(rd x36 x38)then(if(rd x36 x38)<(x0.length:Int)then(spec_paOnly.l2 k x0 x1 x2 x7 x10 x11 (rd x36 x38) ([]:List Int) x36 x37 x38 (rd_L1 x0 (rd x36 x38)) ((rd_L1 x0 (rd x36 x38)).length:Int) 0)else(none))else(none))else(none))else(none))else((spec_paFind.f x10 x11).bind fun t803=>(spec_paOnly.l3 k x2 ([]:List Int) t803 (t803.length:Int) 0))
def spec_paOnly.l2:Nat→List (List Int)→List Int→List Int→List Int→List (List Int)→List Int→Int→List Int→List Int→Int→Int→List Int→Int→Int→Option (List Int)
 |0,_,_,_,_,_,_,_,_,_,_,_,_,_,_=>none
 |k+1,x0,x1,x2,x7,x10,x11,x13,x14,x36,x37,x38,x45,x46,x47=>if x47<x46 then(if 0≤x47 then(if x47<(x45.length:Int)then(if 0≤(rd x45 x47)then(if(rd x45 x47)<(x7.length:Int)then(if(rd x7 (rd x45 x47))>0 then(if x14.length<17592186044416 then(spec_paOnly.l2 k x0 x1 x2 x7 x10 x11 x13 (x14++[wrap64 ((rd x7 (rd x45 x47))-1)]) x36 x37 x38 x45 x46 (wrap64 (x47+1)))else(none))else(spec_paOnly.l2 k x0 x1 x2 x7 x10 x11 x13 x14 x36 x37 x38 x45 x46 (wrap64 (x47+1))))else(none))else(none))else(none))else(none))else(if x10.length<5864062014805 then(if 0≤x13 then(if x13<(x1.length:Int)then(if x11.length<17592186044416 then(spec_paOnly.l1 k x0 x1 x2 x7 (x10++[x14]) (x11++[rd x1 x13]) x36 x37 (wrap64 (x38+1)))else(none))else(none))else(none))else(none))
def spec_paOnly.l3:Nat→List Int→List Int→List Int→Int→Int→Option (List Int)
 |0,_,_,_,_,_=>none
 |k+1,x2,x17,x79,x80,x81=>if x81<x80 then(if 0≤x81 then(if x81<(x79.length:Int)then(if 0≤(rd x79 x81)then(if(rd x79 x81)<(x2.length:Int)then(if x17.length<17592186044416 then(spec_paOnly.l3 k x2 (x17++[rd x2 (rd x79 x81)]) x79 x80 (wrap64 (x81+1)))else(none))else(none))else(none))else(none))else(none))else(some x17)
end
def spec_paOnly.f (k:Nat) (l0:List (List Int)) (l1:List Int) (l2:List Int):Option (List Int):=if 0≤(l0.length:Int)then(if((l0.length:Int):Int).toNat≤35184372088832 then(spec_paOnly.l0 k l0 l1 l2 (List.replicate ((l0.length:Int):Int).toNat 0) l2 (l2.length:Int) 0)else(none))else(none)
set_option maxHeartbeats 8000000 in
set_option maxRecDepth 100000 in
theorem spec_paOnly.calls (k:Nat) (A0:Option Addr) (c0:Nat) (l0:List (List Int)) (A1:Option Addr) (c1:Nat) (l1:List Int) (A2:Option Addr) (c2:Nat) (l2:List Int) (r:List Int) (w:World) (hr0:Kd.C (Kd.slice 3 (Kd.int .i64)) w A0 l0.length l0) (hc0:l0.length≤c0) (hr1:Kd.C (Kd.int .i64) w A1 l1.length l1) (hc1:l1.length≤c1) (hr2:Kd.C (Kd.int .i64) w A2 l2.length l2) (hc2:l2.length≤c2) (h:spec_paOnly.f k l0 l1 l2=some r):
  Calls Try.prog 82 #[.slice A0 l0.length c0,.slice A1 l1.length c1,.slice A2 l2.length c2] w fun e w'=> ∃v0_:Value,e= .returned (v0_)∧Kd.R (Kd.int .i64) 3 w' w.heap.size (fun _=>True) v0_ r∧Below w.heap.size w w':=by
 have HR0:=Aside0.mk hr0;have HC0:=Aside0.mk hc0;clear hr0 hc0;have HR1:=Aside0.mk hr1;have HC1:=Aside0.mk hc1;clear hr1 hc1;have HR2:=Aside0.mk hr2;have HC2:=Aside0.mk hc2;clear hr2 hc2;have HB:=Aside0.mk (Below.refl w.heap.size w);have H:=h;clear h
 unfold spec_paOnly.f at H
 replace H:=itp H;rcases H with⟨c4,H⟩|⟨c4,H⟩
 ·have c4b0:=eq_true c4;have c4b1:=decide_eq_true c4;clear c4;replace H:=ite_ H;obtain⟨c5b0,c5b1,H⟩:=H;obtain⟨y783,Ny783⟩:=nmx ((List.replicate ((l0.length:Int):Int).toNat 0):List Int);rw[←Ny783.out]at H;have H':=Aside0.mk H;clear H
  go_enter Try.func82,Try.ntmps82
  go_wp2_with(first|((with_reducible refine gate_dst (N:=22) rfl ?_);refine Kd.R_make (Kd.int .i64) _ 3 rfl (N:=22) rfl 24 _ _ rfl (l0.length:Int) rfl rfl Try.underlying24 (.int .i64 0) 8 info3 rfl (by decide) (by omega) 0 (ok:=fun _=>True) (okp:=fun _=>True) rfl (fun _ hk=>hk) trivial (of_decide_eq_true asx) (Nat.le_trans (Nat.mul_le_mul_right _ (of_decide_eq_true asx:(l0.length:Int).toNat≤35184372088832)) (by omega)) (Below.refl _ _) (Nat.le_refl _) ?_;intro v784 w6 ho7 hb hg_ hnew_;clear hg_ hnew_;(first|rw[←Ny783.out]at ho7|(simp only[Int.reduceToNat]at ho7;rw[←Ny783.out]at ho7));have HO785:=eRr ho7 (bz HB);replace HB:=bs HB hb;clear hb ho7))
  go_loopg [25] k (fun kq v25 w'=> ∃(x7_1:List Int) (x25_1:Int),v25= .int .i64 x25_1∧Aside0 (spec_paOnly.l0 kq l0 l1 l2 x7_1 l2 (l2.length:Int) x25_1=some r)∧Aside0 (kq≤k)∧Aside0 (Kd.R (Kd.int .i64) 3 w' w.heap.size (fun _=>True) v784 x7_1)∧Aside0 (Below w.heap.size w w'))
  case atStart=>exact⟨(y783),(0),eqx,H',⟨Nat.le_refl _⟩,mR HO785,⟨cB HB⟩⟩
  case round=>
   clear H';obtain⟨x7_1,x25_1,rfl,HA,HK1,HO_7,HB⟩:=hrel;obtain _|k1:=gk
   ·exact nz HA.out
   have H:=HA.out;clear HA;simp only[spec_paOnly.l0]at H;replace H:=itb H;rcases H with⟨c8b0,H⟩|⟨c8b0,H⟩
   ·replace H:=itd H;obtain⟨c9b0,H⟩:=H;replace H:=itd H;obtain⟨c10b0,H⟩:=H;replace H:=itd H;obtain⟨c11b0,H⟩:=H;replace H:=itd H;obtain⟨c12b0,H⟩:=H;obtain⟨y787,Ny787⟩:=nmx ((x7_1.set ((rd l2 x25_1):Int).toNat (wrap64 (x25_1+1))):List Int);rw[←Ny787.out]at H;have H':=Aside0.mk H;clear H;obtain⟨ad786,e786,hx786_0,p786,q786⟩:=ldi (i:=x25_1) HR2.out;cases e786;replace hx786_0:=hc_ HB hx786_0;have p13:0≤((rd l2 x25_1):Int):=of_decide_eq_true asx;have q13:((rd l2 x25_1):Int)<((x7_1.length:Int):Int):=of_decide_eq_true asx;obtain⟨go13,co13,eo13,gb13,gl13,cl13,HG13⟩:=Kd.R_form HO_7.out (by omega)
    (first|cases eo13|(injection eo13 with ea_ en_ ec_;(first|subst ea_|(injection ea_ with ea_;subst ea_));subst ec_;clear en_))
    have GB13:=Aside0.mk gb13;have GG13:=Aside0.mk HG13;clear gb13 gl13 HG13;obtain⟨hx13_0,hf13_0⟩:=Kd.R_celln 0 HO_7.out ((rd l2 x25_1):Int) p13 q13;replace p13:=eq_true p13;replace q13:=eq_true q13;have HP14:=Kd.R_putg HO_7.out ((rd l2 x25_1):Int) (wrap64 (x25_1+1))
    go_wp2_with(first|((with_reducible refine gate_store (t:=3) (p:=34) rfl ?_);refine store_event (t:=3) (p:=34) (v:=?vo_w15) (w1:=(wr.setCell ⟨go13,((rd l2 x25_1):Int).toNat,none⟩ (.int .i64 (wrap64 (x25_1+1))))) ?hg ?ho ?hn ?hr ?_;(case ho=>rfl);(case hg=>rfl);(case hn=>rfl);(case hr=>first|(go_simp;done)|(go_simp;rfl));intro w15 hw;have hg:wr.grownBy w15 (some go13):=(by rw[hw];exact HP14.2);have hp_:Kd.R (Kd.int .i64) 3 w15 w.heap.size (fun _=>True) (.slice (some ⟨go13,0,none⟩) x7_1.length co13) y787:=(by rw[hw,Ny787.out];exact HP14.1);clear HP14;replace HO_7:=Aside0.mk hp_;replace HB:=Aside0.mk (by rw[hw];exact below_set (HB.out) GB13.out:Below w.heap.size w w15);clear hg hw hp_))
    go_roundg k1
    case measure=>have:=HK1.out;omega
    case rel=>exact⟨(y787),(wrap64 (x25_1+1)),eqx,H',⟨by have:=HK1.out;omega⟩,mR HO_7,⟨cB HB⟩⟩
   ·have H':=Aside0.mk H;clear H;go_wp2
    go_loopg [10,11,38] k1 (fun kq v10 v11 v38 w'=> ∃(x10_2:List (List Int)) (x11_2:List Int) (x38_2:Int),v38= .int .i64 x38_2∧Aside0 (spec_paOnly.l1 kq l0 l1 l2 x7_1 x10_2 x11_2 l2 (l2.length:Int) x38_2=some r)∧Aside0 (kq≤k1)∧Aside0 (Kd.R (Kd.int .i64) 3 w' w.heap.size (fun k_=>some k_≠(v11:Value).ownBlock) v784 x7_1)∧Aside0 (Kd.S (Kd.slice 3 (Kd.int .i64)) 24 w' w.heap.size (fun k_=>some k_≠(v784:Value).ownBlock∧some k_≠(v11:Value).ownBlock) v10 x10_2)∧Aside0 (Kd.R (Kd.int .i64) 3 w' w.heap.size (fun k_=>some k_≠(v784:Value).ownBlock) v11 x11_2)∧Aside0 (Below w.heap.size w w'))
    case atStart=>exact⟨(([]:List (List Int))),(([]:List Int)),(0),eqx,H',⟨Nat.le_refl _⟩,mR HO_7,⟨by first|exact Kd.S_nil _ _ _ _ _|exact Kd.N_nil _ _ _ _ _|exact Kd.V_nil _ _ _ _ _|exact Kd.Q_nil _ _ _ _ _|exact Kd.R_nil _ _ _ _ _⟩,⟨nlx⟩,⟨cB HB⟩⟩
    case round=>
     clear H';obtain⟨x10_2,x11_2,x38_2,rfl,HA,HK2,HO_7,HO_10,HO_11,HB⟩:=hrel;obtain _|k2:=gk
     ·exact nz HA.out
     have H:=HA.out;clear HA;simp only[spec_paOnly.l1]at H;replace H:=itb H;rcases H with⟨c16b0,H⟩|⟨c16b0,H⟩
     ·replace H:=itd H;obtain⟨c17b0,H⟩:=H;replace H:=itd H;obtain⟨c18b0,H⟩:=H;replace H:=itd H;obtain⟨c19b0,H⟩:=H;replace H:=itd H;obtain⟨c20b0,H⟩:=H;have H':=Aside0.mk H;clear H;obtain⟨ad788,e788,hx788_0,p788,q788⟩:=ldi (i:=x38_2) HR2.out;cases e788;replace hx788_0:=hc_ HB hx788_0;have p789:0≤((rd l2 x38_2):Int):=of_decide_eq_true asx;have q789:(rd l2 x38_2)<(l0.length:Int):=of_decide_eq_true asx;obtain⟨ad789,A789_0,c789_0,e789,hx789_0,hl789_0,hi789_0⟩:=at_L1 HR0.out (rd l2 x38_2) p789 q789;cases e789;replace hx789_0:=hc_ HB hx789_0;have HR789_0:=Aside0.mk hi789_0;have HC789_0:=Aside0.mk hl789_0;clear hi789_0 hl789_0;replace p789:=eq_true p789;replace q789:=eq_true q789;go_wp2
      go_loopg [14,47] k2 (fun kq v14 v47 w'=> ∃(x14_3:List Int) (x47_3:Int),v47= .int .i64 x47_3∧Aside0 (spec_paOnly.l2 kq l0 l1 l2 x7_1 x10_2 x11_2 (rd l2 x38_2) x14_3 l2 (l2.length:Int) x38_2 (rd_L1 l0 (rd l2 x38_2)) ((rd_L1 l0 (rd l2 x38_2)).length:Int) x47_3=some r)∧Aside0 (kq≤k2)∧Aside0 (Kd.R (Kd.int .i64) 3 w' w.heap.size (fun k_=>some k_≠(u11:Value).ownBlock∧some k_≠(v14:Value).ownBlock) v784 x7_1)∧Aside0 (Kd.S (Kd.slice 3 (Kd.int .i64)) 24 w' w.heap.size (fun k_=>some k_≠(v784:Value).ownBlock∧some k_≠(u11:Value).ownBlock∧some k_≠(v14:Value).ownBlock) u10 x10_2)∧Aside0 (Kd.R (Kd.int .i64) 3 w' w.heap.size (fun k_=>some k_≠(v784:Value).ownBlock∧some k_≠(v14:Value).ownBlock) u11 x11_2)∧Aside0 (Kd.R (Kd.int .i64) 3 w' w.heap.size (fun k_=>some k_≠(v784:Value).ownBlock∧some k_≠(u11:Value).ownBlock) v14 x14_3)∧Aside0 (Below w.heap.size w w'))
      case atStart=>exact⟨(([]:List Int)),(0),(by first|rfl|(simp;done)|(simp[*];done)),H',⟨Nat.le_refl _⟩,⟨by(with_reducible repeat(first|apply Kd.R_alloc|apply Kd.R_drewN|apply Kd.R_drew));exact Kd.R_mono HO_7.out (fun _ hk=>⟨hk,(by simp[Value.ownBlock])⟩)⟩,⟨by(with_reducible repeat(first|apply Kd.S_alloc|apply Kd.S_drewN|apply Kd.S_drew));exact Kd.S_mono HO_10.out (fun _ hk=>⟨hk.1,⟨hk.2,(by simp[Value.ownBlock])⟩⟩)⟩,⟨by(with_reducible repeat(first|apply Kd.R_alloc|apply Kd.R_drewN|apply Kd.R_drew));exact Kd.R_mono HO_11.out (fun _ hk=>⟨hk,(by simp[Value.ownBlock])⟩)⟩,⟨by first|exact Kd.R_nil _ _ _ _ _|exact Kd.N_nil _ _ _ _ _|exact Kd.V_nil _ _ _ _ _|exact Kd.Q_nil _ _ _ _ _|exact Kd.S_nil _ _ _ _ _⟩,⟨by repeat(first|(with_reducible first|exact HB.out|apply below_alloc|apply pw_below_drewN|apply below_drew1)|exact HB.out)⟩⟩
      case round=>
       clear H';obtain⟨x14_3,x47_3,rfl,HA,HK3,HO_7,HO_10,HO_11,HO_14,HB⟩:=hrel;obtain _|k3:=gk
       ·exact nz HA.out
       have H:=HA.out;clear HA;simp only[spec_paOnly.l2]at H;replace H:=itb H;rcases H with⟨c21b0,H⟩|⟨c21b0,H⟩
       ·replace H:=itd H;obtain⟨c22b0,H⟩:=H;replace H:=itd H;obtain⟨c23b0,H⟩:=H;replace H:=itd H;obtain⟨c24b0,H⟩:=H;replace H:=itd H;obtain⟨c25b0,H⟩:=H;replace H:=itb H;rcases H with⟨c26b0,H⟩|⟨c26b0,H⟩
        ·replace H:=itm H;obtain⟨LMc27,H⟩:=H;obtain⟨y793,Ny793⟩:=nmx ((x14_3++[wrap64 ((rd x7_1 (rd (rd_L1 l0 (rd l2 x38_2)) x47_3))-1)]):List Int);rw[←Ny793.out]at H;have H':=Aside0.mk H;clear H;obtain⟨ad790,e790,hx790_0,p790,q790⟩:=ldi (i:=x47_3) HR789_0.out;cases e790;replace hx790_0:=hc_ HB hx790_0;obtain⟨Ao28,co28,rfl⟩:=sR HO_7;obtain⟨ad791,e791,hx791_0,p791,q791⟩:=ldi (i:=(rd (rd_L1 l0 (rd l2 x38_2)) x47_3)) (rR HO_7);cases e791;obtain⟨ad792,e792,hx792_0,p792,q792⟩:=ldi (i:=(rd (rd_L1 l0 (rd l2 x38_2)) x47_3)) (rR HO_7);obtain rfl:ad791=ad792:=(by injection e792)
         go_wp2_with(first|((with_reducible refine gate_builtin (b:= .append) (xs:= #[.tmp 56,.tmp 62]) rfl ?_);at_builtin;refine Kd.R_append (Kd.int .i64) (w0:=w) w.heap.size rfl (.tmp 56) (.tmp 62) 24 3 (.int .i64 0) 8 rfl Try.underlying24 info3 rfl (by decide) (by omega) u14 x14_3 (wrap64 ((rd x7_1 (rd (rd_L1 l0 (rd l2 x38_2)) x47_3))-1)) [.int .i64 (wrap64 ((rd x7_1 (rd (rd_L1 l0 (rd l2 x38_2)) x47_3))-1))] (fun k_=>some k_≠(.slice (some ad791) x7_1.length co28:Value).ownBlock∧some k_≠(u11:Value).ownBlock) (fun _=>False) rfl rfl ?aP (fun _ hk=>hk.elim) ?aF ?aO ?aB ?aS ?aL ?_;(case aP=>exact rfl);(case aB=>exact(cB HB));(case aF=>exact(fun k_ hk=>⟨Kd.fresh' (Kd.R_lt (cR HO_7)) k_ hk,Kd.fresh' (Kd.R_lt (cR HO_11)) k_ hk⟩));(case aO=>exact(cR HO_14));(case aS=>exact(bz HB));(case aL=>have:=LMc27.out;omega);intro v794 w29 ho hb hg hat;rw[←Ny793.out]at ho;have n0_:=Aside0.mk (Kd.R_after (ok:=(fun k_=>some k_≠(u11:Value).ownBlock)) (cR HO_7) hg hat);have n1_:=Aside0.mk (Kd.S_after (ok:=(fun k_=>some k_≠(.slice (some ad791) x7_1.length co28:Value).ownBlock∧some k_≠(u11:Value).ownBlock)) (cS ⟨Kd.S_mono HO_10.out (fun _ hk=>⟨⟨hk.1,hk.2.1⟩,hk.2.2⟩)⟩) hg hat);have n2_:=Aside0.mk (Kd.R_after (ok:=(fun k_=>some k_≠(.slice (some ad791) x7_1.length co28:Value).ownBlock)) (cR HO_11) hg hat);have n3_:=Aside0.mk hb;have n4_:=Aside0.mk ho;clear HO_7 HO_10 HO_11 HB HO_14;have HO_7:=n0_;have HO_10:=n1_;have HO_11:=n2_;have HB:=n3_;have HO795:=n4_;clear n0_ n1_ n2_ n3_ n4_ ho hb hg hat))
         go_roundg k3
         case measure=>have:=HK1.out;have:=HK2.out;have:=HK3.out;omega
         case rel=>exact⟨(y793),(wrap64 (x47_3+1)),eqx,H',⟨by have:=HK1.out;have:=HK2.out;have:=HK3.out;omega⟩,mR HO_7,mS HO_10,mR HO_11,mR HO795,⟨cB HB⟩⟩
        ·have H':=Aside0.mk H;clear H;obtain⟨ad790,e790,hx790_0,p790,q790⟩:=ldi (i:=x47_3) HR789_0.out;cases e790;replace hx790_0:=hc_ HB hx790_0;obtain⟨Ao30,co30,rfl⟩:=sR HO_7;obtain⟨ad791,e791,hx791_0,p791,q791⟩:=ldi (i:=(rd (rd_L1 l0 (rd l2 x38_2)) x47_3)) (rR HO_7);cases e791;go_wp2
         go_roundg k3
         case measure=>have:=HK1.out;have:=HK2.out;have:=HK3.out;omega
         case rel=>exact⟨(x14_3),(wrap64 (x47_3+1)),eqx,H',⟨by have:=HK1.out;have:=HK2.out;have:=HK3.out;omega⟩,mR HO_7,mS HO_10,mR HO_11,mR HO_14,⟨cB HB⟩⟩
       ·replace H:=itm H;obtain⟨LMc31,H⟩:=H;obtain⟨y796,Ny796⟩:=nmx ((x10_2++[x14_3]):List (List Int));rw[←Ny796.out]at H;replace H:=itd H;obtain⟨c32b0,H⟩:=H;replace H:=itd H;obtain⟨c33b0,H⟩:=H;replace H:=itm H;obtain⟨LMc34,H⟩:=H;obtain⟨y800,Ny800⟩:=nmx ((x11_2++[rd l1 (rd l2 x38_2)]):List Int);rw[←Ny800.out]at H;have H':=Aside0.mk H;clear H;obtain⟨Ao36,co36,rfl⟩:=sR HO_14
        go_wp2_with(first|((with_reducible refine gate_builtin (b:= .append) (xs:= #[.tmp 65,.tmp 67]) rfl ?_);at_builtin;refine Kd.S_append (Kd.slice 3 (Kd.int .i64)) (w0:=w) w.heap.size rfl (.tmp 65) (.tmp 67) 23 24 (.slice none 0 0) 24 rfl Try.underlying23 info24 rfl (by decide) (by omega) u10 x10_2 x14_3 [.slice Ao36 x14_3.length co36] (fun k_=>some k_≠(v784:Value).ownBlock∧some k_≠(u11:Value).ownBlock) (fun k_=>some k_=(.slice Ao36 x14_3.length co36:Value).ownBlock) rfl rfl ?aP (fun k_ hk_=>((Kd.R_mono (ok':=fun k_=>((fun k_=>some k_≠(v784:Value).ownBlock∧some k_≠(u11:Value).ownBlock)) k_∧some k_≠(u10:Value).ownBlock) (Kd.R_apart' (HO_14.out) (Kd.S_typed HO_10.out) (by decide)) (fun k_ hk=>⟨⟨hk.1.1,hk.1.2⟩,hk.2⟩))).1 k_ hk_.symm) ?aF ?aO ?aB ?aS ?aL ?_;(case aP=>exact Kd.M_row (Kd.R_mono (Kd.R_tight rfl (Kd.R_mono (ok':=fun k_=>((fun k_=>some k_≠(v784:Value).ownBlock∧some k_≠(u11:Value).ownBlock)) k_∧some k_≠(u10:Value).ownBlock) (Kd.R_apart' (HO_14.out) (Kd.S_typed HO_10.out) (by decide)) (fun k_ hk=>⟨⟨hk.1.1,hk.1.2⟩,hk.2⟩))) (fun _ h_=>h_)));(case aB=>exact(cB HB));(case aF=>exact(fun k_ hk=>⟨Kd.fresh' (Kd.R_lt (cR HO_7)) k_ hk,Kd.fresh' (Kd.R_lt (cR HO_11)) k_ hk⟩));(case aO=>exact(cS ⟨Kd.S_mono HO_10.out (fun k_ hk=>⟨⟨hk.1,hk.2.1⟩,fun e_=>hk.2.2 e_⟩)⟩));(case aS=>exact(bz HB));(case aL=>have:=LMc31.out;omega);intro v797 w35 ho hb hg hat;rw[←Ny796.out]at ho;have n0_:=Aside0.mk (Kd.R_over' (cR HO_7) (Kd.S_typed (cS HO_10)) (by decide) hg);have n1_:=Aside0.mk (Kd.R_over' (cR HO_11) (Kd.S_typed (cS HO_10)) (by decide) hg);have n2_:=Aside0.mk hb;have n3_:=Aside0.mk ho;clear HO_7 HO_11 HB HO_10 HO_14;have HO_7:=n0_;have HO_11:=n1_;have HB:=n2_;have HO798:=n3_;clear n0_ n1_ n2_ n3_ ho hb hg hat;have p799:0≤((rd l2 x38_2):Int):=of_decide_eq_true asx;have q799:(rd l2 x38_2)<(l1.length:Int):=of_decide_eq_true asx;obtain⟨ad799,e799,hx799_0⟩:=Kd.at_int HR1.out (rd l2 x38_2) p799 q799;cases e799;replace hx799_0:=hc_ HB hx799_0;replace p799:=eq_true p799;replace q799:=eq_true q799)|((with_reducible refine gate_builtin (b:= .append) (xs:= #[.tmp 69,.tmp 74]) rfl ?_);at_builtin;refine Kd.R_append (Kd.int .i64) (w0:=w) w.heap.size rfl (.tmp 69) (.tmp 74) 24 3 (.int .i64 0) 8 rfl Try.underlying24 info3 rfl (by decide) (by omega) u11 x11_2 (rd l1 (rd l2 x38_2)) [.int .i64 (rd l1 (rd l2 x38_2))] (fun k_=>some k_≠(v784:Value).ownBlock) (fun _=>False) rfl rfl ?aP (fun _ hk=>hk.elim) ?aF ?aO ?aB ?aS ?aL ?_;(case aP=>exact rfl);(case aB=>exact(cB HB));(case aF=>exact(fun k_ hk=>Kd.fresh' (Kd.R_lt (cR HO_7)) k_ hk));(case aO=>exact(cR ⟨Kd.R_mono HO_11.out (fun _ hk=>hk.1)⟩));(case aS=>exact(bz HB));(case aL=>have:=LMc34.out;omega);intro v801 w37 ho hb hg hat;rw[←Ny800.out]at ho;have n0_:=Aside0.mk (Kd.R_after (ok:=(fun _=>True)) (cR ⟨Kd.R_mono HO_7.out (fun _ hk=>⟨trivial,hk.1⟩)⟩) hg hat);have n1_:=Aside0.mk (Kd.S_after (ok:=(fun k_=>some k_≠(v784:Value).ownBlock)) (cS HO798) hg hat);have n2_:=Aside0.mk hb;have n3_:=Aside0.mk ho;clear HO_7 HO798 HB HO_11;have HO_7:=n0_;have HO798:=n1_;have HB:=n2_;have HO802:=n3_;clear n0_ n1_ n2_ n3_ ho hb hg hat))
        go_roundg k3
        case measure=>have:=HK1.out;have:=HK2.out;have:=HK3.out;omega
        case rel=>exact⟨(y796),(y800),(wrap64 (x38_2+1)),eqx,H',⟨by have:=HK1.out;have:=HK2.out;have:=HK3.out;omega⟩,mR HO_7,mS HO798,mR HO802,⟨cB HB⟩⟩
     ·replace H:=bnd H;obtain⟨t803,A38,H⟩:=H;have H':=Aside0.mk H;clear H;obtain⟨Ao39,co39,rfl⟩:=sS HO_10;obtain⟨Ao40,co40,rfl⟩:=sR HO_11
      go_wp2_with(first|(refine cal_ 85 (some 79) Try.func85 #[.slice Ao39 x10_2.length co39,.slice Ao40 x11_2.length co40] rfl (spec_paFind.calls _ _ x10_2 _ _ x11_2 t803 _ ?_ (lS HO_10) ?_ (lR HO_11) A38.out) ?_;exact rS HO_10;exact rR HO_11;rintro e w41 ⟨v804,rfl,ho0,hb⟩;refine⟨_,rfl,?_⟩;replace HO_10:=aS HO_10 (Kd.R_base ho0) hb;have HO805:=Aside0.mk (Kd.R_lower (nRR (nRR ho0 HO_7) HO_11) (bz HB));replace HO_7:=aR HO_7 (Kd.R_base ho0) hb;replace HO_11:=aR HO_11 (Kd.R_base ho0) hb;replace HB:=bs HB hb;clear hb ho0;obtain⟨Ao42,co42,rfl⟩:=sR HO805))
      go_loopg [17,81] k2 (fun kq v17 v81 w'=> ∃(x17_3:List Int) (x81_3:Int),v81= .int .i64 x81_3∧Aside0 (spec_paOnly.l3 kq l2 x17_3 t803 (t803.length:Int) x81_3=some r)∧Aside0 (kq≤k2)∧Aside0 (Kd.R (Kd.int .i64) 3 w' w.heap.size (fun k_=>some k_≠((.slice Ao42 t803.length co42):Value).ownBlock) v17 x17_3)∧Aside0 (Kd.R (Kd.int .i64) 3 w' w.heap.size (fun k_=>some k_≠(v17:Value).ownBlock) (.slice Ao42 t803.length co42) t803)∧Aside0 (Below w.heap.size w w'))
      case atStart=>exact⟨(([]:List Int)),(0),eqx,H',⟨Nat.le_refl _⟩,⟨nlx⟩,mR HO805,⟨cB HB⟩⟩
      case round=>
       clear H';obtain⟨x17_3,x81_3,rfl,HA,HK3,HO_17,HO_79,HB⟩:=hrel;obtain _|k3:=gk
       ·exact nz HA.out
       have H:=HA.out;clear HA;simp only[spec_paOnly.l3]at H;replace H:=itb H;rcases H with⟨c43b0,H⟩|⟨c43b0,H⟩
       ·replace H:=itd H;obtain⟨c44b0,H⟩:=H;replace H:=itd H;obtain⟨c45b0,H⟩:=H;replace H:=itd H;obtain⟨c46b0,H⟩:=H;replace H:=itd H;obtain⟨c47b0,H⟩:=H;replace H:=itm H;obtain⟨LMc48,H⟩:=H;obtain⟨y808,Ny808⟩:=nmx ((x17_3++[rd l2 (rd t803 x81_3)]):List Int);rw[←Ny808.out]at H;have H':=Aside0.mk H;clear H;obtain⟨ad806,e806,hx806_0,p806,q806⟩:=ldi (i:=x81_3) (rR HO_79);cases e806;obtain⟨ad807,e807,hx807_0,p807,q807⟩:=ldi (i:=(rd t803 x81_3)) HR2.out;cases e807;replace hx807_0:=hc_ HB hx807_0
        go_wp2_with(first|((with_reducible refine gate_builtin (b:= .append) (xs:= #[.tmp 85,.tmp 90]) rfl ?_);at_builtin;refine Kd.R_append (Kd.int .i64) (w0:=w) w.heap.size rfl (.tmp 85) (.tmp 90) 24 3 (.int .i64 0) 8 rfl Try.underlying24 info3 rfl (by decide) (by omega) u17 x17_3 (rd l2 (rd t803 x81_3)) [.int .i64 (rd l2 (rd t803 x81_3))] (fun k_=>some k_≠(.slice (some ad806) t803.length co42:Value).ownBlock) (fun _=>False) rfl rfl ?aP (fun _ hk=>hk.elim) ?aF ?aO ?aB ?aS ?aL ?_;(case aP=>exact rfl);(case aB=>exact(cB HB));(case aF=>exact(fun k_ hk=>Kd.fresh' (Kd.R_lt (cR HO_79)) k_ hk));(case aO=>exact(cR HO_17));(case aS=>exact(bz HB));(case aL=>have:=LMc48.out;omega);intro v809 w49 ho hb hg hat;rw[←Ny808.out]at ho;have n0_:=Aside0.mk (Kd.R_after (ok:=(fun _=>True)) (cR ⟨Kd.R_mono HO_79.out (fun _ hk=>⟨trivial,hk⟩)⟩) hg hat);have n1_:=Aside0.mk hb;have n2_:=Aside0.mk ho;clear HO_79 HB HO_17;have HO_79:=n0_;have HB:=n1_;have HO810:=n2_;clear n0_ n1_ n2_ ho hb hg hat))
        go_roundg k3
        case measure=>have:=HK1.out;have:=HK2.out;have:=HK3.out;omega
        case rel=>exact⟨(y808),(wrap64 (x81_3+1)),eqx,H',⟨by have:=HK1.out;have:=HK2.out;have:=HK3.out;omega⟩,mR HO810,mR HO_79,⟨cB HB⟩⟩
       ·obtain rfl:=Option.some.inj H;go_wp2
        go_ret
        exact⟨_,erx,by(with_reducible repeat(first|apply Kd.R_alloc|apply Kd.R_drewN|apply Kd.R_drew));exact Kd.R_mono HO_17.out (fun _ hk=>trivial),cB HB⟩
 ·exact absurd H (by simp)
def spec_l1Has.l0:Nat→Int→List Int→Int→Int→Option (Bool)
 |0,_,_,_,_=>none
 |k+1,x1,x7,x8,x9=>if x9<x8 then(if 0≤x9 then(if x9<(x7.length:Int)then(if(rd x7 x9)=x1 then(some true)else(spec_l1Has.l0 k x1 x7 x8 (wrap64 (x9+1))))else(none))else(none))else(some false)
def spec_l1Has.f (k:Nat) (l0:List Int) (a1:Int):Option (Bool):=spec_l1Has.l0 k a1 l0 (l0.length:Int) 0
set_option maxHeartbeats 8000000 in
set_option maxRecDepth 100000 in
theorem spec_l1Has.calls (k:Nat) (A0:Option Addr) (c0:Nat) (l0:List Int) (a1:Int) (r:Bool) (w:World) (hr0:Kd.C (Kd.int .i64) w A0 l0.length l0) (hc0:l0.length≤c0) (h:spec_l1Has.f k l0 a1=some r):
  Calls Try.prog 94 #[.slice A0 l0.length c0,.int .i64 a1] w fun e w'=>e= .returned (.bool r)∧Drawn0 w w':=by
 have HR0:=Aside0.mk hr0;have HC0:=Aside0.mk hc0;clear hr0 hc0;have H:=h;clear h
 unfold spec_l1Has.f at H
 have H':=Aside0.mk H;clear H
 go_enter Try.func94,Try.ntmps94
 go_wp2
 go_loopg [9] k (fun kq v9 w'=> ∃(x9_1:Int),v9= .int .i64 x9_1∧Aside0 (spec_l1Has.l0 kq a1 l0 (l0.length:Int) x9_1=some r)∧Aside0 (kq≤k)∧Drawn0 w w')
 case atStart=>exact⟨(0),eqx,H',⟨Nat.le_refl _⟩,d0x⟩
 case round=>
  clear H';obtain⟨x9_1,rfl,HA,HK1,⟨m1,rfl⟩⟩:=hrel;obtain _|k1:=gk
  ·exact nz HA.out
  have H:=HA.out;clear HA;simp only[spec_l1Has.l0]at H;replace H:=itb H;rcases H with⟨c3b0,H⟩|⟨c3b0,H⟩
  ·replace H:=itd H;obtain⟨c4b0,H⟩:=H;replace H:=itd H;obtain⟨c5b0,H⟩:=H;replace H:=itp H;rcases H with⟨c6,H⟩|⟨c6,H⟩
   ·have c6b0:((rd l0 x9_1)==a1)=true:=beq_iff_eq.mpr c6;have c6b1:((rd l0 x9_1) !=a1)=false:=bne_eq_false_iff_eq.mpr c6;clear c6;obtain rfl:=Option.some.inj H;obtain⟨ad811,e811,hx811_0,p811,q811⟩:=ldi (i:=x9_1) HR0.out;cases e811;go_wp2
    go_ret
    exact⟨eqx,d0x⟩
   ·have c6b0:((rd l0 x9_1)==a1)=false:=beq_eq_false_iff_ne.mpr c6;have c6b1:((rd l0 x9_1) !=a1)=true:=bne_iff_ne.mpr c6;have H':=Aside0.mk H;clear H;obtain⟨ad811,e811,hx811_0,p811,q811⟩:=ldi (i:=x9_1) HR0.out;cases e811;go_wp2
    go_roundg k1
    case measure=>have:=HK1.out;omega
    case rel=>exact⟨(wrap64 (x9_1+1)),eqx,H',⟨by have:=HK1.out;omega⟩,d0x⟩
  ·obtain rfl:=Option.some.inj H;go_wp2
   go_ret
   exact⟨eqx,d0x⟩
def spec_paList.f (k:Nat) (l0:List (List Int)) (l1:List Int) (l2:List Int):Option (Bool):=(spec_paGood.f k l0 l1).bind fun t812=>(if t812=true then((spec_l1Rising.f k l2 0 (wrap64 ((l0.length:Int)-1))).bind fun t813=>(some t813))else(some false))
set_option maxHeartbeats 8000000 in
set_option maxRecDepth 100000 in
theorem spec_paList.calls (k:Nat) (A0:Option Addr) (c0:Nat) (l0:List (List Int)) (A1:Option Addr) (c1:Nat) (l1:List Int) (A2:Option Addr) (c2:Nat) (l2:List Int) (r:Bool) (w:World) (hr0:Kd.C (Kd.slice 3 (Kd.int .i64)) w A0 l0.length l0) (hc0:l0.length≤c0) (hr1:Kd.C (Kd.int .i64) w A1 l1.length l1) (hc1:l1.length≤c1) (hr2:Kd.C (Kd.int .i64) w A2 l2.length l2) (hc2:l2.length≤c2) (h:spec_paList.f k l0 l1 l2=some r):
  Calls Try.prog 124 #[.slice A0 l0.length c0,.slice A1 l1.length c1,.slice A2 l2.length c2] w fun e w'=>e= .returned (.bool r)∧Drawn0 w w':=by
 have HR0:=Aside0.mk hr0;have HC0:=Aside0.mk hc0;clear hr0 hc0;have HR1:=Aside0.mk hr1;have HC1:=Aside0.mk hc1;clear hr1 hc1;have HR2:=Aside0.mk hr2;have HC2:=Aside0.mk hc2;clear hr2 hc2;have H:=h;clear h
 unfold spec_paList.f at H
 replace H:=bnd H;obtain⟨t812,A4,H⟩:=H;replace H:=itt H;rcases H with⟨rfl,H⟩|⟨rfl,H⟩
 ·replace H:=bnd H;obtain⟨t813,A6,H⟩:=H;obtain rfl:=Option.some.inj H
  go_enter Try.func124,Try.ntmps124
  go_wp2_with(first|(refine cal_ 75 (some 9) Try.func75 #[.slice A0 l0.length c0,.slice A1 l1.length c1] rfl (spec_paGood.calls k _ _ l0 _ _ l1 true _ ?_ HC0.out ?_ HC1.out A4.out) ?_;exact cC HR0;exact cC HR1;rintro e w' ⟨rfl,⟨nd,rfl⟩⟩;refine⟨_,rfl,?_⟩)|(go_at_call 107;(with_reducible refine(spec_l1Rising.calls k _ _ l2 0 (wrap64 ((l0.length:Int)-1)) t813 _ ?_ HC2.out A6.out).mono ?_);exact cC HR2;rintro e w' ⟨rfl,⟨nd,rfl⟩⟩))
  go_ret
  exact⟨eqx,d0x⟩
 ·obtain rfl:=Option.some.inj H
  go_enter Try.func124,Try.ntmps124
  go_wp2_with(first|(refine cal_ 75 (some 9) Try.func75 #[.slice A0 l0.length c0,.slice A1 l1.length c1] rfl (spec_paGood.calls k _ _ l0 _ _ l1 false _ ?_ HC0.out ?_ HC1.out A4.out) ?_;exact cC HR0;exact cC HR1;rintro e w' ⟨rfl,⟨nd,rfl⟩⟩;refine⟨_,rfl,?_⟩))
  go_ret
  exact⟨eqx,d0x⟩
end Go.Proofs.Ytlkppimbbbdmbaa.PFnForced
