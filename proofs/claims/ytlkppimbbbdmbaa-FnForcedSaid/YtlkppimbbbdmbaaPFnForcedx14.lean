-- Printed by a changed copy of the printer; impl.bestPit and spec.paFind by contracts walked by hand
import Derived.Test.YtlkppimbbbdmbaaPFnForcedx0
import Derived.Test.YtlkppimbbbdmbaaPFnForcedx1
import Derived.Test.YtlkppimbbbdmbaaPFnForcedx2
import Derived.Test.YtlkppimbbbdmbaaPFnForcedx5
import Derived.Test.YtlkppimbbbdmbaaPFnForcedx6
import Derived.Test.YtlkppimbbbdmbaaPFnForcedx13
namespace Go.Proofs.Ytlkppimbbbdmbaa.PFnForced
open Go.RowKit Go.Proofs.YtlkppimbbbdmbaaW.PrintWords Go.Proofs.YtlkppimbbbdmbaaW.PrintLast Go.Proofs.YtlkppimbbbdmbaaW.PrintMore
attribute [local go_sem] max2_int min2_int max_two min_two max_three min_three max_four min_four
set_option linter.unusedVariables false
set_option linter.unusedSimpArgs false
mutual
def spec_l1Cur_some.l0:Nat→Int→List Int→Int→List Int→Int→Int→Option (List Int×Int×Int)
 |0,_,_,_,_,_,_=>none
 |k+1,x1,x5,x6,x1000,x1001,x1002=>if x6<x1 then((spec_l1Cur_one.f x1000 x1001 x1002 3).bind fun bt730=>(if bt730.1=true then(if x5.length<17592186044416 then(spec_l1Cur_some.l0 k x1 (x5++[x6]) (wrap64 (x6+1)) x1000 bt730.2.1 bt730.2.2)else(none))else(spec_l1Cur_some.l0 k x1 x5 (wrap64 (x6+1)) x1000 bt730.2.1 bt730.2.2)))else((spec_l1Cur_pick.f x1000 x1001 x1002 24).bind fun bt736=>(if bt736.1=0 then((spec_l1Cur_among.f x1000 bt736.2.1 bt736.2.2 (([(-1),x1,0]:List Int))).bind fun bt742=>(if x5.length<17592186044416 then(some ((x5++[bt742.1]),bt742.2.1,bt742.2.2))else(none)))else(if bt736.1=1 then(spec_l1Cur_some.l1 k x1 ([]:List Int) 0 x1000 bt736.2.1 bt736.2.2)else(some (x5,bt736.2.1,bt736.2.2)))))
def spec_l1Cur_some.l1:Nat→Int→List Int→Int→List Int→Int→Int→Option (List Int×Int×Int)
 |0,_,_,_,_,_,_=>none
 |k+1,x1,x5,x7,x1000,x1001,x1002=>if x7<x1 then(if x5.length<17592186044416 then(spec_l1Cur_some.l1 k x1 (x5++[x7]) (wrap64 (x7+1)) x1000 x1001 x1002)else(none))else(some (x5,x1001,x1002))
end
def spec_l1Cur_some.f (k:Nat) (s0_0:List Int) (s0_1:Int) (s0_2:Int) (a1:Int):Option (List Int×Int×Int):=spec_l1Cur_some.l0 k a1 ([]:List Int) 0 s0_0 s0_1 s0_2
set_option maxHeartbeats 8000000 in
set_option maxRecDepth 100000 in
theorem spec_l1Cur_some.calls (k:Nat) (g:Nat) (s0_0:List Int) (s0_1:Int) (s0_2:Int) (a1:Int) (r1:List Int) (r2:Int) (r3:Int) (w0 w:World) (hI:IsS68 w0 w g s0_0 s0_1 s0_2) (hB:Below w0.heap.size w0 w) (h:spec_l1Cur_some.f k s0_0 s0_1 s0_2 a1=some (r1,r2,r3)):
  Calls Try.prog 122 #[.pointer (some ⟨g,0,none⟩),.int .i64 a1] w fun e w'=> ∃v0_:Value,e= .returned (v0_)∧Kd.R (Kd.int .i64) 3 w' w.heap.size (fun _=>True) v0_ r1∧IsS68 w0 w' g s0_0 r2 r3∧Below w0.heap.size w0 w'∧KeepBut w w' g none:=by
 have HI0:=Aside0.mk hI;have HK:=Aside0.mk (KeepBut.refl w g none);have HL:=Aside0.mk hB.size;clear hI;have HW0:=Aside0.mk hB.size;have HB:=Aside0.mk hB;clear hB;have H:=h;clear h
 unfold spec_l1Cur_some.f at H
 have H':=Aside0.mk H;clear H
 go_enter Try.func122,Try.ntmps122
 go_wp2
 go_loopg [5,6] k (fun kq v5 v6 w'=> ∃(x5_1:List Int) (x6_1:Int) (x1001_1:Int) (x1002_1:Int),v6= .int .i64 x6_1∧Aside0 (spec_l1Cur_some.l0 kq a1 x5_1 x6_1 s0_0 x1001_1 x1002_1=some (r1,r2,r3))∧Aside0 (kq≤k)∧Aside0 (Kd.R (Kd.int .i64) 3 w' w.heap.size (fun _=>True) v5 x5_1)∧Aside0 (IsS68 w0 w' g s0_0 x1001_1 x1002_1)∧Aside0 (KeepBut w w' g none)∧Aside0 (Below w0.heap.size w0 w'))
 case atStart=>exact⟨(([]:List Int)),(0),(s0_1),(s0_2),eqx,H',⟨Nat.le_refl _⟩,⟨nlx⟩,⟨cI68 HI0⟩,⟨cK HK⟩,⟨cB HB⟩⟩
 case round=>
  clear H';obtain⟨x5_1,x6_1,x1001_1,x1002_1,rfl,HA,HK1,HO_5,HI0,HK,HB⟩:=hrel;obtain _|k1:=gk
  ·exact nz HA.out
  have H:=HA.out;clear HA;simp only[spec_l1Cur_some.l0]at H;replace H:=itb H;rcases H with⟨c3b0,H⟩|⟨c3b0,H⟩
  ·replace H:=bnd H;obtain⟨⟨t730,t731,t732⟩,A4,H⟩:=H;(try dsimp only at H);replace H:=itt H;rcases H with⟨rfl,H⟩|⟨rfl,H⟩
   ·replace H:=itm H;obtain⟨LMc6,H⟩:=H;obtain⟨y733,Ny733⟩:=nmx ((x5_1++[x6_1]):List Int);rw[←Ny733.out]at H;have H':=Aside0.mk H;clear H
    go_wp2_with(first|(refine cal_ 68 (some 14) Try.func68 #[.pointer (some ⟨g,0,none⟩),.int .i64 3] rfl (spec_l1Cur_one.calls g s0_0 x1001_1 x1002_1 3 true t731 t732 w0 _ ?_ ?_ A4.out) ?_;exact cI68 HI0;exact cB HB;rintro e w7 ⟨rfl,hi,hb,hk⟩;refine⟨_,rfl,?_⟩;replace HO_5:=rk68R HI0 HO_5 hk;replace HK:=kt HK hk;replace HB:=Aside0.mk hb;replace HI0:=Aside0.mk hi;clear hb hk hi)|((with_reducible refine gate_builtin (b:= .append) (xs:= #[.tmp 15,.tmp 17]) rfl ?_);at_builtin;refine Kd.R_append (Kd.int .i64) w.heap.size rfl (.tmp 15) (.tmp 17) 24 3 (.int .i64 0) 8 rfl Try.underlying24 info3 rfl (by decide) (by omega) u5 x5_1 x6_1 [.int .i64 x6_1] (fun _=>True) (fun _=>False) rfl rfl ?aP (fun _ hk=>hk.elim) ?aF ?aO (Below.refl _ _) ?aS ?aL ?_;(case aP=>exact rfl);(case aF=>exact(fun _ _=>trivial));(case aO=>exact(cR HO_5));(case aS=>exact(kz HK));(case aL=>have:=LMc6.out;omega);intro v734 w8 ho hb hg hat;rw[←Ny733.out]at ho;have n0_:=Aside0.mk (IsS68.grown (cI68 HI0) hg (IsS68.own_ne HI0.out HO_5.out (by decide)));have n1_:=Aside0.mk (below_weaken (cB HB) HL.out hb);have n2_:=Aside0.mk (KeepBut.trans (cK HK) (KeepBut.of_grown hg g) (Kd.R_base2 HO_5.out));have n3_:=Aside0.mk ho;clear HI0 HB HK HO_5;have HI0:=n0_;have HB:=n1_;have HK:=n2_;have HO735:=n3_;clear n0_ n1_ n2_ n3_ ho hb hg hat))
    go_roundg k1
    case measure=>have:=HK1.out;omega
    case rel=>exact⟨(y733),(wrap64 (x6_1+1)),(t731),(t732),eqx,H',⟨by have:=HK1.out;omega⟩,mR HO735,⟨cI68 HI0⟩,⟨cK HK⟩,⟨cB HB⟩⟩
   ·have H':=Aside0.mk H;clear H
    go_wp2_with(first|(refine cal_ 68 (some 14) Try.func68 #[.pointer (some ⟨g,0,none⟩),.int .i64 3] rfl (spec_l1Cur_one.calls g s0_0 x1001_1 x1002_1 3 false t731 t732 w0 _ ?_ ?_ A4.out) ?_;exact cI68 HI0;exact cB HB;rintro e w9 ⟨rfl,hi,hb,hk⟩;refine⟨_,rfl,?_⟩;replace HO_5:=rk68R HI0 HO_5 hk;replace HK:=kt HK hk;replace HB:=Aside0.mk hb;replace HI0:=Aside0.mk hi;clear hb hk hi))
    go_roundg k1
    case measure=>have:=HK1.out;omega
    case rel=>exact⟨(x5_1),(wrap64 (x6_1+1)),(t731),(t732),eqx,H',⟨by have:=HK1.out;omega⟩,mR HO_5,⟨cI68 HI0⟩,⟨cK HK⟩,⟨cB HB⟩⟩
  ·replace H:=bnd H;obtain⟨⟨t736,t737,t738⟩,A10,H⟩:=H;(try dsimp only at H);replace H:=itp H;rcases H with⟨c11,H⟩|⟨c11,H⟩
   ·have c11b0:(t736==0)=true:=beq_iff_eq.mpr c11;have c11b1:(t736 !=0)=false:=bne_eq_false_iff_eq.mpr c11;clear c11;obtain⟨y739,Ny739⟩:=nmx ((([(-1),a1,0]:List Int)):List Int);rw[←Ny739.out]at H;replace H:=bnd H;obtain⟨⟨t742,t743,t744⟩,A12,H⟩:=H;(try dsimp only at H);replace H:=itm H;obtain⟨LMc13,H⟩:=H;obtain⟨y745,Ny745⟩:=nmx ((x5_1++[t742]):List Int);rw[←Ny745.out]at H;simp only[Option.some.injEq,Prod.mk.injEq]at H;obtain⟨rfl,rfl,rfl⟩:=H
    go_wp2_with(first|(refine cal_ 70 (some 20) Try.func70 #[.pointer (some ⟨g,0,none⟩),.int .i64 24] rfl (spec_l1Cur_pick.calls g s0_0 x1001_1 x1002_1 24 t736 t737 t738 w0 _ ?_ ?_ A10.out) ?_;exact cI68 HI0;exact cB HB;rintro e w14 ⟨rfl,hi,hb,hk⟩;refine⟨_,rfl,?_⟩;replace HO_5:=rk68R HI0 HO_5 hk;replace HK:=kt HK hk;replace HB:=Aside0.mk hb;replace HI0:=Aside0.mk hi;clear hb hk hi)|((with_reducible refine gate_dst (N:=26) rfl ?_);refine Kd.R_lit (Kd.int .i64) _ 3 ?hg (N:=26) ?hd (xs:=([(-1),a1,0]:List Int)) (inner:=[.int .i64 (-1),.int .i64 a1,.int .i64 0]) (ok:=fun _=>True) (okp:=fun _=>True) ?hr ?hp (fun _ hk=>hk) trivial (Below.refl _ _) (Nat.le_refl _) (by simp) ?_;(case hd=>rfl);(case hg=>rfl);(case hr=>first|(go_simp;done)|(go_simp;rfl));(case hp=>exact(Reps.one (show Kd.M (Kd.int .i64) _ _ _ (-1) [.int .i64 (-1)]from rfl) (Reps.one (show Kd.M (Kd.int .i64) _ _ _ a1 [.int .i64 a1]from rfl) (Reps.one (show Kd.M (Kd.int .i64) _ _ _ 0 [.int .i64 0]from rfl) (Reps.none _ _)))));intro v740 w15 ho16 hb hg_ hnew_;clear hg_ hnew_;(first|rw[←Ny739.out]at ho16|(simp only[Int.reduceToNat]at ho16;rw[←Ny739.out]at ho16));have HO741:=Aside0.mk (Kd.R_lower (nRR ho16 HO_5) (kz HK));replace HO_5:=aR HO_5 (Kd.R_base ho16) hb;replace HI0:=ib68 HI0 hb;replace HK:=kb HK hb;replace HB:=bs HB hb;clear hb ho16;obtain⟨Ao17,co17,rfl⟩:=sR HO741)|(refine cal_ 100 (some 27) Try.func100 #[.pointer (some ⟨g,0,none⟩),.slice Ao17 y739.length co17] rfl (spec_l1Cur_among.calls g s0_0 t737 t738 _ _ y739 t742 t743 t744 w0 _ ?_ ?_ ?_ (lR HO741) ?_ A12.out) ?_;exact cI68 HI0;exact cB HB;exact rR HO741;exact far_slice (IsS68.own_ne HI0.out HO741.out (by decide));rintro e w18 ⟨rfl,hi,hb,hk⟩;refine⟨_,rfl,?_⟩;replace HO_5:=rk68R HI0 HO_5 hk;replace HO741:=rk68R HI0 HO741 hk;replace HK:=kt HK hk;replace HB:=Aside0.mk hb;replace HI0:=Aside0.mk hi;clear hb hk hi)|((with_reducible refine gate_builtin (b:= .append) (xs:= #[.tmp 23,.tmp 28]) rfl ?_);at_builtin;refine Kd.R_append (Kd.int .i64) w.heap.size rfl (.tmp 23) (.tmp 28) 24 3 (.int .i64 0) 8 rfl Try.underlying24 info3 rfl (by decide) (by omega) u5 x5_1 t742 [.int .i64 t742] (fun k_=>some k_≠(.slice Ao17 y739.length co17:Value).ownBlock) (fun _=>False) rfl rfl ?aP (fun _ hk=>hk.elim) ?aF ?aO (Below.refl _ _) ?aS ?aL ?_;(case aP=>exact rfl);(case aF=>exact(fun k_ hk=>Kd.fresh' (Kd.R_lt (cR HO741)) k_ hk));(case aO=>exact(cR ⟨Kd.R_mono HO_5.out (fun _ hk=>hk.2)⟩));(case aS=>exact(kz HK));(case aL=>have:=LMc13.out;omega);intro v746 w19 ho hb hg hat;rw[←Ny745.out]at ho;have n0_:=Aside0.mk (IsS68.grown (cI68 HI0) hg (IsS68.own_ne HI0.out HO_5.out (by decide)));have n1_:=Aside0.mk (Kd.R_after (ok:=(fun _=>True)) (cR HO741) hg hat);have n2_:=Aside0.mk (below_weaken (cB HB) HL.out hb);have n3_:=Aside0.mk (KeepBut.trans (cK HK) (KeepBut.of_grown hg g) (Kd.R_base2 HO_5.out));have n4_:=Aside0.mk ho;clear HI0 HO741 HB HK HO_5;have HI0:=n0_;have HO741:=n1_;have HB:=n2_;have HK:=n3_;have HO747:=n4_;clear n0_ n1_ n2_ n3_ n4_ ho hb hg hat))
    go_ret
    exact⟨_,erx,by(with_reducible repeat(first|apply Kd.R_alloc|apply Kd.R_drewN|apply Kd.R_drew));exact Kd.R_mono HO747.out (fun _ hk=>trivial),cI68 HI0,cB HB,cK HK⟩
   ·have c11b0:(t736==0)=false:=beq_eq_false_iff_ne.mpr c11;have c11b1:(t736 !=0)=true:=bne_iff_ne.mpr c11;replace H:=itp H;rcases H with⟨c20,H⟩|⟨c20,H⟩
    ·have c20b0:(t736==1)=true:=beq_iff_eq.mpr c20;have c20b1:(t736 !=1)=false:=bne_eq_false_iff_eq.mpr c20;clear c20;have H':=Aside0.mk H;clear H
     go_wp2_with(first|(refine cal_ 70 (some 20) Try.func70 #[.pointer (some ⟨g,0,none⟩),.int .i64 24] rfl (spec_l1Cur_pick.calls g s0_0 x1001_1 x1002_1 24 t736 t737 t738 w0 _ ?_ ?_ A10.out) ?_;exact cI68 HI0;exact cB HB;rintro e w21 ⟨rfl,hi,hb,hk⟩;refine⟨_,rfl,?_⟩;replace HO_5:=rk68R HI0 HO_5 hk;replace HK:=kt HK hk;replace HB:=Aside0.mk hb;replace HI0:=Aside0.mk hi;clear hb hk hi))
     go_loopg [5,7] k1 (fun kq v5 v7 w'=> ∃(x5_2:List Int) (x7_2:Int),v7= .int .i64 x7_2∧Aside0 (spec_l1Cur_some.l1 kq a1 x5_2 x7_2 s0_0 t737 t738=some (r1,r2,r3))∧Aside0 (kq≤k1)∧Aside0 (Kd.R (Kd.int .i64) 3 w' w.heap.size (fun _=>True) v5 x5_2)∧Aside0 (IsS68 w0 w' g s0_0 t737 t738)∧Aside0 (KeepBut w w' g none)∧Aside0 (Below w0.heap.size w0 w'))
     case atStart=>exact⟨(([]:List Int)),(0),eqx,H',⟨Nat.le_refl _⟩,⟨nlx⟩,⟨cI68 HI0⟩,⟨cK HK⟩,⟨cB HB⟩⟩
     case round=>
      clear H';obtain⟨x5_2,x7_2,rfl,HA,HK2,HO_5,HI0,HK,HB⟩:=hrel;obtain _|k2:=gk
      ·exact nz HA.out
      have H:=HA.out;clear HA;simp only[spec_l1Cur_some.l1]at H;replace H:=itb H;rcases H with⟨c22b0,H⟩|⟨c22b0,H⟩
      ·replace H:=itm H;obtain⟨LMc23,H⟩:=H;obtain⟨y748,Ny748⟩:=nmx ((x5_2++[x7_2]):List Int);rw[←Ny748.out]at H;have H':=Aside0.mk H;clear H
       go_wp2_with(first|((with_reducible refine gate_builtin (b:= .append) (xs:= #[.tmp 37,.tmp 39]) rfl ?_);at_builtin;refine Kd.R_append (Kd.int .i64) w.heap.size rfl (.tmp 37) (.tmp 39) 24 3 (.int .i64 0) 8 rfl Try.underlying24 info3 rfl (by decide) (by omega) u5 x5_2 x7_2 [.int .i64 x7_2] (fun _=>True) (fun _=>False) rfl rfl ?aP (fun _ hk=>hk.elim) ?aF ?aO (Below.refl _ _) ?aS ?aL ?_;(case aP=>exact rfl);(case aF=>exact(fun _ _=>trivial));(case aO=>exact(cR HO_5));(case aS=>exact(kz HK));(case aL=>have:=LMc23.out;omega);intro v749 w24 ho hb hg hat;rw[←Ny748.out]at ho;have n0_:=Aside0.mk (IsS68.grown (cI68 HI0) hg (IsS68.own_ne HI0.out HO_5.out (by decide)));have n1_:=Aside0.mk (below_weaken (cB HB) HL.out hb);have n2_:=Aside0.mk (KeepBut.trans (cK HK) (KeepBut.of_grown hg g) (Kd.R_base2 HO_5.out));have n3_:=Aside0.mk ho;clear HI0 HB HK HO_5;have HI0:=n0_;have HB:=n1_;have HK:=n2_;have HO750:=n3_;clear n0_ n1_ n2_ n3_ ho hb hg hat))
       go_roundg k2
       case measure=>have:=HK1.out;have:=HK2.out;omega
       case rel=>exact⟨(y748),(wrap64 (x7_2+1)),eqx,H',⟨om2 HK1 HK2⟩,mR HO750,⟨cI68 HI0⟩,⟨cK HK⟩,⟨cB HB⟩⟩
      ·simp only[Option.some.injEq,Prod.mk.injEq]at H;obtain⟨rfl,rfl,rfl⟩:=H;go_wp2
       go_ret
       exact⟨_,erx,by(with_reducible repeat(first|apply Kd.R_alloc|apply Kd.R_drewN|apply Kd.R_drew));exact HO_5.out,cI68 HI0,cB HB,cK HK⟩
    ·have c20b0:(t736==1)=false:=beq_eq_false_iff_ne.mpr c20;have c20b1:(t736 !=1)=true:=bne_iff_ne.mpr c20;simp only[Option.some.injEq,Prod.mk.injEq]at H;obtain⟨rfl,rfl,rfl⟩:=H
     go_wp2_with(first|(refine cal_ 70 (some 20) Try.func70 #[.pointer (some ⟨g,0,none⟩),.int .i64 24] rfl (spec_l1Cur_pick.calls g s0_0 x1001_1 x1002_1 24 t736 t737 t738 w0 _ ?_ ?_ A10.out) ?_;exact cI68 HI0;exact cB HB;rintro e w25 ⟨rfl,hi,hb,hk⟩;refine⟨_,rfl,?_⟩;replace HO_5:=rk68R HI0 HO_5 hk;replace HK:=kt HK hk;replace HB:=Aside0.mk hb;replace HI0:=Aside0.mk hi;clear hb hk hi))
     go_ret
     exact⟨_,erx,by(with_reducible repeat(first|apply Kd.R_alloc|apply Kd.R_drewN|apply Kd.R_drew));exact HO_5.out,cI68 HI0,cB HB,cK HK⟩
def spec_DrawForcedPit.f (k:Nat) (l0:List Int):Option ((List (List Int))×List Int×List Int):=(spec_l1Cur_pitted.f k l0 0 0).bind fun bt752=>((spec_l1Cur_some.f k l0 bt752.2.2.1 bt752.2.2.2 (bt752.1.length:Int)).bind fun bt760=>(some (bt752.1,bt752.2.1,bt760.1)))
set_option maxHeartbeats 8000000 in
set_option maxRecDepth 100000 in
theorem spec_DrawForcedPit.calls (k:Nat) (A0:Option Addr) (c0:Nat) (l0:List Int) (r1:List (List Int)) (r2:List Int) (r3:List Int) (w:World) (hr0:Kd.C (Kd.int .u8) w A0 l0.length l0) (hc0:l0.length≤c0) (h:spec_DrawForcedPit.f k l0=some (r1,r2,r3)):
  Calls Try.prog 62 #[.slice A0 l0.length c0] w fun e w'=> ∃v0_ v1_ v2_:Value,e= .returned (.tuple #[v0_,v1_,v2_])∧Kd.S (Kd.slice 3 (Kd.int .i64)) 24 w' w.heap.size (fun k_=>some k_≠(v1_:Value).ownBlock∧some k_≠(v2_:Value).ownBlock) v0_ r1∧Kd.R (Kd.int .i64) 3 w' w.heap.size (fun k_=>some k_≠(v2_:Value).ownBlock) v1_ r2∧Kd.R (Kd.int .i64) 3 w' w.heap.size (fun k_=>some k_≠(v1_:Value).ownBlock) v2_ r3∧Below w.heap.size w w':=by
 have hu68:=Try.underlying68;have HR0:=Aside0.mk hr0;have HC0:=Aside0.mk hc0;clear hr0 hc0;have HB:=Aside0.mk (Below.refl w.heap.size w);have H:=h;clear h
 unfold spec_DrawForcedPit.f at H
 replace H:=bnd H;obtain⟨⟨t752,t755,t758,t759⟩,A2,H⟩:=H;(try dsimp only at H);replace H:=bnd H;obtain⟨⟨t760,t763,t764⟩,A3,H⟩:=H;(try dsimp only at H);simp only[Option.some.injEq,Prod.mk.injEq]at H;obtain⟨rfl,rfl,rfl⟩:=H
 go_enter Try.func62,Try.ntmps62
 go_wp2_with(first|((with_reducible refine gate_dst (N:=10) rfl ?_);refine box_event ?hg (N:=10) ?hd (cs:= #[.slice A0 l0.length c0,.int .i64 0,.int .u64 0]) (t:=68) ?hr ?_;(case hd=>rfl);(case hg=>rfl);(case hr=>first|(go_simp;done)|(go_simp;rfl));intro gb751 hg w4 hbox hb;have GW751:=gs hg HB;have GE751:=gs hg HB;have HI751:=Aside0.mk (show IsS68 w w4 gb751 l0 0 0 from⟨_,_,hbox,(by rw[hg];exact(bz HB):w.heap.size≤gb751),HR0.out⟩);replace HB:=bs HB hb;clear hb hbox hg)|(refine cal_ 72 (some 13) Try.func72 #[.pointer (some ⟨gb751,0,none⟩)] rfl (spec_l1Cur_pitted.calls k gb751 l0 0 0 t752 t755 t758 t759 w _ ?_ ?_ A2.out) ?_;exact cI68 HI751;exact cB HB;rintro e w5 ⟨v753,v756,rfl,ho0,ho1,hi,hb,hk⟩;refine⟨_,rfl,?_⟩;have HO754:=eSr ho0 (bz HB);have HO757:=eRr ho1 (bz HB);replace HB:=Aside0.mk hb;replace HI751:=Aside0.mk hi;clear hb hk hi ho0 ho1;obtain⟨Ao6,co6,rfl⟩:=sS HO754)|(refine cal_ 122 (some 21) Try.func122 #[.pointer (some ⟨gb751,0,none⟩),.int .i64 (t752.length:Int)] rfl (spec_l1Cur_some.calls k gb751 l0 t758 t759 (t752.length:Int) t760 t763 t764 w _ ?_ ?_ A3.out) ?_;exact cI68 HI751;exact cB HB;rintro e w7 ⟨v761,rfl,ho0,hi,hb,hk⟩;refine⟨_,rfl,?_⟩;replace HO754:=Aside0.mk (Kd.S_mono (Kd.S_told (Kd.S_oldK (IsS68.apartS (cI68 HI751) (cS HO754) (by decide)) hk) (Kd.R_base ho0)) (fun _ h_=>h_.1));have HO762:=Aside0.mk (Kd.R_lower (nRR ho0 HO757) (bz HB));replace HO757:=Aside0.mk (Kd.R_mono (Kd.R_told (Kd.R_oldK (IsS68.apart (cI68 HI751) (cR HO757) (by decide)) hk) (Kd.R_base ho0)) (fun _ h_=>h_.1));replace HB:=Aside0.mk hb;replace HI751:=Aside0.mk hi;clear hb hk hi ho0))
 go_ret3
 exact⟨_,_,_,erx,by(with_reducible repeat(first|apply Kd.S_alloc|apply Kd.S_drewN|apply Kd.S_drew));exact HO754.out,by(with_reducible repeat(first|apply Kd.R_alloc|apply Kd.R_drewN|apply Kd.R_drew));exact Kd.R_mono HO757.out (fun _ hk=>hk.2),by(with_reducible repeat(first|apply Kd.R_alloc|apply Kd.R_drewN|apply Kd.R_drew));exact Kd.R_mono HO762.out (fun _ hk=>hk.2),cB HB⟩
mutual
def impl_closureOf.l0:Nat→List (List Int)→List Bool→Int→Option (List Bool)
 |0,_,_,_=>none
 |k+1,x0,x5,x6=>if x6≥0 then(if 0≤x6 then(if x6<(x5.length:Int)then(if rdOf false x5 x6=true then(if x6<(x0.length:Int)then(impl_closureOf.l1 k x0 x5 x6 (rd_L1 x0 x6) ((rd_L1 x0 x6).length:Int) 0)else(none))else(impl_closureOf.l0 k x0 x5 (wrap64 (x6-1))))else(none))else(none))else(some x5)
def impl_closureOf.l1:Nat→List (List Int)→List Bool→Int→List Int→Int→Int→Option (List Bool)
 |0,_,_,_,_,_,_=>none
 |k+1,x0,x5,x6,x28,x29,x30=>if x30<x29 then(if 0≤x30 then(if x30<(x28.length:Int)then(if 0≤(rd x28 x30)then(if(rd x28 x30)<(x5.length:Int)then(impl_closureOf.l1 k x0 (x5.set ((rd x28 x30):Int).toNat true) x6 x28 x29 (wrap64 (x30+1)))else(none))else(none))else(none))else(none))else(impl_closureOf.l0 k x0 x5 (wrap64 (x6-1)))
end
def impl_closureOf.f (k:Nat) (l0:List (List Int)) (l1:List Int):Option (List Bool):=(impl_markOf.f k (l0.length:Int) l1).bind fun t765=>(impl_closureOf.l0 k l0 t765 (wrap64 ((l0.length:Int)-1)))
set_option maxHeartbeats 8000000 in
set_option maxRecDepth 100000 in
theorem impl_closureOf.calls (k:Nat) (A0:Option Addr) (c0:Nat) (l0:List (List Int)) (A1:Option Addr) (c1:Nat) (l1:List Int) (r:List Bool) (w:World) (hr0:Kd.C (Kd.slice 3 (Kd.int .i64)) w A0 l0.length l0) (hc0:l0.length≤c0) (hr1:Kd.C (Kd.int .i64) w A1 l1.length l1) (hc1:l1.length≤c1) (h:impl_closureOf.f k l0 l1=some r):
  Calls Try.prog 123 #[.slice A0 l0.length c0,.slice A1 l1.length c1] w fun e w'=> ∃v0_:Value,e= .returned (v0_)∧Kd.R Kd.bool 4 w' w.heap.size (fun _=>True) v0_ r∧Below w.heap.size w w':=by
 have HR0:=Aside0.mk hr0;have HC0:=Aside0.mk hc0;clear hr0 hc0;have HR1:=Aside0.mk hr1;have HC1:=Aside0.mk hc1;clear hr1 hc1;have HB:=Aside0.mk (Below.refl w.heap.size w);have H:=h;clear h
 unfold impl_closureOf.f at H
 replace H:=bnd H;obtain⟨t765,A3,H⟩:=H;have H':=Aside0.mk H;clear H
 go_enter Try.func123,Try.ntmps123
 go_wp2_with(first|(refine cal_ 106 (some 12) Try.func106 #[.int .i64 (l0.length:Int),.slice A1 l1.length c1] rfl (impl_markOf.calls k (l0.length:Int) _ _ l1 t765 _ ?_ HC1.out A3.out) ?_;exact cC HR1;rintro e w4 ⟨v766,rfl,ho0,hb⟩;refine⟨_,rfl,?_⟩;have HO767:=eRr ho0 (bz HB);replace HB:=bs HB hb;clear hb ho0))
 go_loopg [6] k (fun kq v6 w'=> ∃(x5_1:List Bool) (x6_1:Int),v6= .int .i64 x6_1∧Aside0 (impl_closureOf.l0 kq l0 x5_1 x6_1=some r)∧Aside0 (kq≤k)∧Aside0 (Kd.R Kd.bool 4 w' w.heap.size (fun _=>True) v766 x5_1)∧Aside0 (Below w.heap.size w w'))
 case atStart=>exact⟨(t765),(wrap64 ((l0.length:Int)-1)),eqx,H',⟨Nat.le_refl _⟩,mR HO767,⟨cB HB⟩⟩
 case round=>
  clear H';obtain⟨x5_1,x6_1,rfl,HA,HK1,HO_5,HB⟩:=hrel;obtain _|k1:=gk
  ·exact nz HA.out
  have H:=HA.out;clear HA;simp only[impl_closureOf.l0]at H;replace H:=itb H;rcases H with⟨c5b0,H⟩|⟨c5b0,H⟩
  ·replace H:=itd H;obtain⟨c6b0,H⟩:=H;replace H:=itd H;obtain⟨c7b0,H⟩:=H;obtain⟨bq8,hbq8⟩: ∃b_:Bool,b_=(rdOf false x5_1 x6_1):=⟨_,rfl⟩;replace H:(if bq8=true then(if x6_1<(l0.length:Int)then(impl_closureOf.l1 k1 l0 x5_1 x6_1 (rd_L1 l0 x6_1) ((rd_L1 l0 x6_1).length:Int) 0)else(none))else(impl_closureOf.l0 k1 l0 x5_1 (wrap64 (x6_1-1))))=some r:=by rw[←hbq8]at H;exact H
   have Nbq8:=Aside0.mk hbq8;clear hbq8;replace H:=itt H;rcases H with⟨rfl,H⟩|⟨rfl,H⟩
   ·replace H:=itd H;obtain⟨c10b0,H⟩:=H;have H':=Aside0.mk H;clear H;obtain⟨Ao11,co11,rfl⟩:=sR HO_5;have p768:0≤(x6_1:Int):=of_decide_eq_true asx;have q768:x6_1<(x5_1.length:Int):=of_decide_eq_true asx;obtain⟨ad768,e768,hx768_0⟩:=Kd.at_bool (rR HO_5) x6_1 p768 q768
    (try rw[←Nbq8.out]at hx768_0)
    cases e768;replace p768:=eq_true p768;replace q768:=eq_true q768;have p769:0≤(x6_1:Int):=of_decide_eq_true asx;have q769:x6_1<(l0.length:Int):=of_decide_eq_true asx;obtain⟨ad769,A769_0,c769_0,e769,hx769_0,hl769_0,hi769_0⟩:=at_L1 HR0.out x6_1 p769 q769;cases e769;replace hx769_0:=hc_ HB hx769_0;have HR769_0:=Aside0.mk hi769_0;have HC769_0:=Aside0.mk hl769_0;clear hi769_0 hl769_0;replace p769:=eq_true p769;replace q769:=eq_true q769;go_wp2
    go_loopg [30] k1 (fun kq v30 w'=> ∃(x5_2:List Bool) (x30_2:Int),v30= .int .i64 x30_2∧Aside0 (impl_closureOf.l1 kq l0 x5_2 x6_1 (rd_L1 l0 x6_1) ((rd_L1 l0 x6_1).length:Int) x30_2=some r)∧Aside0 (kq≤k1)∧Aside0 (Kd.R Kd.bool 4 w' w.heap.size (fun _=>True) (.slice (some ad768) x5_1.length co11) x5_2)∧Aside0 (Below w.heap.size w w'))
    case atStart=>exact⟨(x5_1),(0),eqx,H',⟨Nat.le_refl _⟩,mR HO_5,⟨cB HB⟩⟩
    case round=>
     clear H';obtain⟨x5_2,x30_2,rfl,HA,HK2,HO_5,HB⟩:=hrel;have hl5_2:=(Kd.R_reads' HO_5.out).1;rw[hl5_2]at HO_5
     (try simp only[hl5_2])
     obtain _|k2:=gk
     ·exact nz HA.out
     have H:=HA.out;clear HA;simp only[impl_closureOf.l1]at H;replace H:=itb H;rcases H with⟨c12b0,H⟩|⟨c12b0,H⟩
     ·replace H:=itd H;obtain⟨c13b0,H⟩:=H;replace H:=itd H;obtain⟨c14b0,H⟩:=H;replace H:=itd H;obtain⟨c15b0,H⟩:=H;replace H:=itd H;obtain⟨c16b0,H⟩:=H;obtain⟨y771,Ny771⟩:=nmx ((x5_2.set ((rd (rd_L1 l0 x6_1) x30_2):Int).toNat true):List Bool);rw[←Ny771.out]at H;have H':=Aside0.mk H;clear H;obtain⟨ad770,e770,hx770_0,p770,q770⟩:=ldi (i:=x30_2) HR769_0.out;cases e770;replace hx770_0:=hc_ HB hx770_0;have p17:0≤((rd (rd_L1 l0 x6_1) x30_2):Int):=of_decide_eq_true asx;have q17:((rd (rd_L1 l0 x6_1) x30_2):Int)<((x5_2.length:Int):Int):=of_decide_eq_true asx;obtain⟨go17,co17,eo17,gb17,gl17,cl17,HG17⟩:=Kd.R_form HO_5.out (by omega)
      (first|cases eo17|(injection eo17 with ea_ en_ ec_;(first|subst ea_|(injection ea_ with ea_;subst ea_));subst ec_;clear en_))
      have GB17:=Aside0.mk gb17;have GG17:=Aside0.mk HG17;clear gb17 gl17 HG17
      (first|simp only[add_plain]at hx768_0|skip)
      obtain⟨hx17_0,hf17_0⟩:=Kd.R_celln false HO_5.out ((rd (rd_L1 l0 x6_1) x30_2):Int) p17 q17;replace p17:=eq_true p17;replace q17:=eq_true q17;have HP18:=Kd.R_putg HO_5.out ((rd (rd_L1 l0 x6_1) x30_2):Int) true
      go_wp2_with(first|((with_reducible refine gate_store (t:=4) (p:=36) rfl ?_);refine store_event (t:=4) (p:=36) (v:=?vo_w19) (w1:=(wr.setCell ⟨go17,((rd (rd_L1 l0 x6_1) x30_2):Int).toNat,none⟩ (.bool true))) ?hg ?ho ?hn ?hr ?_;(case ho=>rfl);(case hg=>rfl);(case hn=>rfl);(case hr=>first|(go_simp;done)|(go_simp;rfl));intro w19 hw;have hg:wr.grownBy w19 (some go17):=(by rw[hw];exact HP18.2);have hp_:Kd.R Kd.bool 4 w19 w.heap.size (fun _=>True) (.slice (some ⟨go17,0,none⟩) x5_2.length co11) y771:=(by rw[hw,Ny771.out];exact HP18.1);clear HP18;replace HO_5:=Aside0.mk hp_;replace HB:=Aside0.mk (by rw[hw];exact below_set (HB.out) GB17.out:Below w.heap.size w w19);clear hg hw hp_))
      (try simp only[←hl5_2])
      go_roundg k2
      case measure=>have:=HK1.out;have:=HK2.out;omega
      case rel=>exact⟨(y771),(wrap64 (x30_2+1)),eqx,H',⟨om2 HK1 HK2⟩,⟨by(try simp only[hl5_2]);(with_reducible repeat(first|apply Kd.R_alloc|apply Kd.R_drewN|apply Kd.R_drew));exact HO_5.out⟩,⟨cB HB⟩⟩
     ·have H':=Aside0.mk H;clear H;go_wp2
      (try simp only[←hl5_2])
      go_roundg k2
      case measure=>have:=HK1.out;have:=HK2.out;omega
      case rel=>exact⟨(x5_2),(wrap64 (x6_1-1)),eqx,H',⟨om2 HK1 HK2⟩,⟨by(try simp only[hl5_2]);(with_reducible repeat(first|apply Kd.R_alloc|apply Kd.R_drewN|apply Kd.R_drew));exact HO_5.out⟩,⟨cB HB⟩⟩
   ·have H':=Aside0.mk H;clear H;obtain⟨Ao20,co20,rfl⟩:=sR HO_5;have p768:0≤(x6_1:Int):=of_decide_eq_true asx;have q768:x6_1<(x5_1.length:Int):=of_decide_eq_true asx;obtain⟨ad768,e768,hx768_0⟩:=Kd.at_bool (rR HO_5) x6_1 p768 q768
    (try rw[←Nbq8.out]at hx768_0)
    cases e768;replace p768:=eq_true p768;replace q768:=eq_true q768;go_wp2
    go_roundg k1
    case measure=>have:=HK1.out;omega
    case rel=>exact⟨(x5_1),(wrap64 (x6_1-1)),eqx,H',⟨by have:=HK1.out;omega⟩,mR HO_5,⟨cB HB⟩⟩
  ·obtain rfl:=Option.some.inj H;go_wp2
   go_ret
   exact⟨_,erx,by(with_reducible repeat(first|apply Kd.R_alloc|apply Kd.R_drewN|apply Kd.R_drew));exact HO_5.out,cB HB⟩
def impl_ForcedPit.j0:Nat→List (List Int)→List Int→List Int→Bool→Option (List Int×Bool)
 |0,_,_,_,_=>none
 |k+1,x0,x1,x2,x18=>if x18=true then(some (([]:List Int),false))else((impl_closureOf.f k x0 x2).bind fun t774=>((impl_bestPit.fi x0 x1 t774).bind fun t777=>((impl_listOf.f k t777).bind fun t780=>(some (t780,true)))))
def impl_ForcedPit.f (k:Nat) (l0:List (List Int)) (l1:List Int) (l2:List Int):Option (List Int×Bool):=(impl_areValued.f k l0 l1).bind fun t772=>(if t772=true then((impl_areBlocks.f k l2 (l0.length:Int)).bind fun t773=>(impl_ForcedPit.j0 k l0 l1 l2 (!t773)))else(impl_ForcedPit.j0 k l0 l1 l2 true))
set_option maxHeartbeats 8000000 in
set_option maxRecDepth 100000 in
theorem impl_ForcedPit.calls (k:Nat) (A0:Option Addr) (c0:Nat) (l0:List (List Int)) (A1:Option Addr) (c1:Nat) (l1:List Int) (A2:Option Addr) (c2:Nat) (l2:List Int) (r1:List Int) (r2:Bool) (w:World) (hr0:Kd.C (Kd.slice 3 (Kd.int .i64)) w A0 l0.length l0) (hc0:l0.length≤c0) (hr1:Kd.C (Kd.int .i64) w A1 l1.length l1) (hc1:l1.length≤c1) (hr2:Kd.C (Kd.int .i64) w A2 l2.length l2) (hc2:l2.length≤c2) (h:impl_ForcedPit.f k l0 l1 l2=some (r1,r2)):
  Calls Try.prog 63 #[.slice A0 l0.length c0,.slice A1 l1.length c1,.slice A2 l2.length c2] w fun e w'=> ∃v0_:Value,e= .returned (.tuple #[v0_,.bool r2])∧Kd.R (Kd.int .i64) 3 w' w.heap.size (fun _=>True) v0_ r1∧Below w.heap.size w w':=by
 have HR0:=Aside0.mk hr0;have HC0:=Aside0.mk hc0;clear hr0 hc0;have HR1:=Aside0.mk hr1;have HC1:=Aside0.mk hc1;clear hr1 hc1;have HR2:=Aside0.mk hr2;have HC2:=Aside0.mk hc2;clear hr2 hc2;have HB:=Aside0.mk (Below.refl w.heap.size w);have H:=h;clear h
 unfold impl_ForcedPit.f at H
 have HC4:=Aside0.mk H;clear H
 go_enter Try.func63,Try.ntmps63
 go_upto_region 1 with(fail)
 go_cut [18] (fun v18 wc=> ∃(kq:Nat) (x18_3:Bool),v18= .bool x18_3∧Aside0 (impl_ForcedPit.j0 kq l0 l1 l2 x18_3=some (r1,r2))∧Aside0 (kq≤k)∧Aside0 (Below w.heap.size w wc))
 case first=>
  have H:=HC4.out;clear HC4;replace H:=bnd H;obtain⟨t772,A5,H⟩:=H;replace H:=itt H;rcases H with⟨rfl,H⟩|⟨rfl,H⟩
  ·replace H:=bnd H;obtain⟨t773,A7,H⟩:=H;have H':=Aside0.mk H;clear H
   go_wp2_with(first|(refine cal_ 73 (some 10) Try.func73 #[.slice A0 l0.length c0,.slice A1 l1.length c1] rfl (impl_areValued.calls k _ _ l0 _ _ l1 true _ ?_ HC0.out ?_ HC1.out A5.out) ?_;exact cb_ HR0 HB;exact cb_ HR1 HB;rintro e w' ⟨rfl,⟨nd,rfl⟩⟩;refine⟨_,rfl,?_⟩)|(go_at_call 104;(with_reducible refine(impl_areBlocks.calls k _ _ l2 (l0.length:Int) t773 _ ?_ HC2.out A7.out).mono ?_);exact cb_ HR2 HB;rintro e w' ⟨rfl,⟨nd,rfl⟩⟩))
   go_meet
   case rel=>exact⟨_,(!t773),eqx,H',⟨omx⟩,⟨cB HB⟩⟩
  ·have H':=Aside0.mk H;clear H
   go_wp2_with(first|(refine cal_ 73 (some 10) Try.func73 #[.slice A0 l0.length c0,.slice A1 l1.length c1] rfl (impl_areValued.calls k _ _ l0 _ _ l1 false _ ?_ HC0.out ?_ HC1.out A5.out) ?_;exact cb_ HR0 HB;exact cb_ HR1 HB;rintro e w' ⟨rfl,⟨nd,rfl⟩⟩;refine⟨_,rfl,?_⟩))
   go_meet
   case rel=>exact⟨_,(true),eqx,H',⟨omx⟩,⟨cB HB⟩⟩
 case rest=>
  clear HC4;obtain⟨kq,x18_3,rfl,HA,HJ3,HB⟩:=hcut;obtain _|kj3:=kq
  ·exact nz HA.out
  have H:=HA.out;clear HA;simp only[impl_ForcedPit.j0]at H;replace H:=itt H;rcases H with⟨rfl,H⟩|⟨rfl,H⟩
  ·simp only[Option.some.injEq,Prod.mk.injEq]at H;obtain⟨rfl,rfl⟩:=H;go_wp2
   go_ret2
   exact⟨_,erx,nlx,cB HB⟩
  ·replace H:=bnd H;obtain⟨t774,A9,H⟩:=H;replace H:=bnd H;obtain⟨t777,A10,H⟩:=H;replace H:=bnd H;obtain⟨t780,A11,H⟩:=H;simp only[Option.some.injEq,Prod.mk.injEq]at H;obtain⟨rfl,rfl⟩:=H
   go_wp2_with(first|(refine cal_ 123 (some 23) Try.func123 #[.slice A0 l0.length c0,.slice A2 l2.length c2] rfl (impl_closureOf.calls kj3 _ _ l0 _ _ l2 t774 _ ?_ HC0.out ?_ HC2.out A9.out) ?_;exact cb_ HR0 HB;exact cb_ HR2 HB;rintro e w12 ⟨v775,rfl,ho0,hb⟩;refine⟨_,rfl,?_⟩;have HO776:=eRr ho0 (bz HB);replace HB:=bs HB hb;clear hb ho0;obtain⟨Ao13,co13,rfl⟩:=sR HO776)|((with_reducible refine gate_callee (f:=79) rfl ?_);refine goesL_ (some 24) rfl rfl Try.func79 (by kernel_rfl) rfl #[.slice A0 l0.length c0,.slice A1 l1.length c1,.slice Ao13 t774.length co13,.slice none 0 0,.bool false] rfl (by(try simp only[List.map_toArray,List.map_cons,List.map_nil]);first|done|rfl|(simp only[List.length_drop,List.length_take];rfl)) ?_;(refine(impl_bestPit.calls_i _ _ l0 _ _ l1 _ _ t774 none 0 ([]:List Bool) false t777 _ ?side1 ?side2 ?side3 ?side4 ?side5 ?side6 ?side7 ?side8 A10.out).mono ?_);(case side1=>exact cb_ HR0 HB);(case side2=>exact HC0.out);(case side3=>exact cb_ HR1 HB);(case side4=>exact HC1.out);(case side5=>exact rR HO776);(case side6=>exact(lR HO776));(case side7=>exact Kd.C_nil _ _);(case side8=>exact Nat.le_refl _);rintro e w14 ⟨v778,rfl,ho0,hb⟩;refine⟨_,rfl,?_⟩;have HO779:=Aside0.mk (Kd.V_lower (Kd.V_mono (ok':=fun k_=>some k_≠(.slice Ao13 t774.length co13:Value).ownBlock) ho0 (fun k_ hk_=>(Kd.fresh' (Kd.R_lt (cR HO776)) k_ hk_))) (bz HB));replace HO776:=bR HO776 hb;replace HB:=bs HB hb;clear hb ho0;obtain⟨Ao15,co15,rfl⟩:=sV HO779)|(refine cal_ 78 (some 25) Try.func78 #[.slice Ao15 t777.length co15] rfl (impl_listOf.calls kj3 _ _ t777 t780 _ ?_ (lV HO779) A11.out) ?_;exact rV HO779;rintro e w16 ⟨v781,rfl,ho0,hb⟩;refine⟨_,rfl,?_⟩;replace HO776:=bR HO776 hb;replace HO779:=Aside0.mk (Kd.V_elder' (cV HO779) (Kd.R_base ho0) hb);have HO782:=eRr ho0 (bz HB);replace HB:=bs HB hb;clear hb ho0))
   go_ret2
   exact⟨_,erx,by(with_reducible repeat(first|apply Kd.R_alloc|apply Kd.R_drewN|apply Kd.R_drew));exact HO782.out,cB HB⟩
end Go.Proofs.Ytlkppimbbbdmbaa.PFnForced
