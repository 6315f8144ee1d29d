-- Printed by a changed copy of the printer; impl.bestPit and spec.paFind by contracts walked by hand
import Derived.Test.YtlkppimbbbdmbaaPFnFactorsx0
import Derived.Test.YtlkppimbbbdmbaaPFnFactorsx1
import Derived.Test.YtlkppimbbbdmbaaPFnFactorsx2
import Derived.Test.YtlkppimbbbdmbaaPFnFactorsx3
namespace Go.Proofs.Ytlkppimbbbdmbaa.PFnFactors
open Go.RowKit Go.Proofs.YtlkppimbbbdmbaaW.PrintWords Go.Proofs.YtlkppimbbbdmbaaW.PrintLast Go.Proofs.YtlkppimbbbdmbaaW.PrintMore
attribute [local go_sem] max2_int min2_int max_two min_two max_three min_three max_four min_four
set_option linter.unusedVariables false
set_option linter.unusedSimpArgs false
mutual
def impl_IsChain.l0:Nat→List (List Int)→List (List Int)→Int→Int→Option (Bool×Bool)
 |0,_,_,_,_=>none
 |k+1,x0,x10,x11,x12=>if x12<x11 then(if 0≤x12 then(if x12<(x10.length:Int)then((impl_areBlocks.f k (rd_L1 x10 x12) 120).bind fun t219=>(if t219=true then(impl_IsChain.l0 k x0 x10 x11 (wrap64 (x12+1)))else(some (false,false))))else(none))else(none))else(impl_IsChain.l1 k x0 1)
def impl_IsChain.l1:Nat→List (List Int)→Int→Option (Bool×Bool)
 |0,_,_=>none
 |k+1,x0,x6=>if x6<(x0.length:Int)then(if 0≤x6 then((impl_markOf.f k 120 (rd_L1 x0 x6)).bind fun t221=>(if 0≤(wrap64 (x6-1))then(if(wrap64 (x6-1))<(x0.length:Int)then((impl_allIn.f k t221 (rd_L1 x0 (wrap64 (x6-1)))).bind fun t225=>(if t225=true then(impl_IsChain.l1 k x0 (wrap64 (x6+1)))else(some (false,true))))else(none))else(none)))else(none))else(some (true,true))
end
def impl_IsChain.f (k:Nat) (l0:List (List Int)):Option (Bool×Bool):=if(l0.length:Int)>61 then(some (false,false))else(impl_IsChain.l0 k l0 l0 (l0.length:Int) 0)
def impl_IsChain.T12:Bool×List (List Nat×List Nat):=(true,[([],[]),([],[]),([0,1],[0,1]),([2],[2]),([3],[3]),([],[]),([],[]),([6],[6]),([5,7],[5,7]),([8],[8]),([4,9,4],[4,9]),([10],[10])])
def impl_IsChain.B12:List Nat:=[0,0,3,7,15,0,0,64,224,480,1023,2047]
theorem impl_IsChain.tab12:rtab .any (opsOf Try.f32 12)=impl_IsChain.T12:=by kernel_rfl
theorem impl_IsChain.bits12:waitsOk impl_IsChain.T12.2 impl_IsChain.B12=true:=by kernel_rfl
set_option maxHeartbeats 8000000 in
set_option maxRecDepth 100000 in
theorem impl_IsChain.calls (k:Nat) (A0:Option Addr) (c0:Nat) (l0:List (List Int)) (r1:Bool) (r2:Bool) (w:World) (hr0:Kd.C (Kd.slice 3 (Kd.int .i64)) w A0 l0.length l0) (hc0:l0.length≤c0) (h:impl_IsChain.f k l0=some (r1,r2)):
  Calls Try.prog 32 #[.slice A0 l0.length c0] w fun e w'=>e= .returned (.tuple #[.bool r1,.bool r2])∧Below w.heap.size w w':=by
 have HR0:=Aside0.mk hr0;have HC0:=Aside0.mk hc0;clear hr0 hc0;have HB:=Aside0.mk (Below.refl w.heap.size w);have H:=h;clear h
 unfold impl_IsChain.f at H
 replace H:=itp H;rcases H with⟨c2,H⟩|⟨c2,H⟩
 ·have c2b0:decide (61<(l0.length:Int))=true:=decide_eq_true c2;have c2b1:decide (61<l0.length)=true:=decide_eq_true (by omega);clear c2;simp only[Option.some.injEq,Prod.mk.injEq]at H;obtain⟨rfl,rfl⟩:=H
  go_enter Try.func32,Try.ntmps32
  go_wp2
  go_ret2
  exact⟨erx,cB HB⟩
 ·have c2b0:decide (61<(l0.length:Int))=false:=decide_eq_false c2;have c2b1:decide (61<l0.length)=false:=decide_eq_false (by omega);clear c2;have H':=Aside0.mk H;clear H
  go_enter Try.func32,Try.ntmps32
  go_wp2
  go_loopg [12] k (fun kq v12 w'=> ∃(x12_1:Int),v12= .int .i64 x12_1∧Aside0 (impl_IsChain.l0 kq l0 l0 (l0.length:Int) x12_1=some (r1,r2))∧Aside0 (kq≤k)∧Aside0 (Below w.heap.size w w'))
  case atStart=>exact⟨(0),eqx,H',⟨Nat.le_refl _⟩,⟨cB HB⟩⟩
  case round=>
   clear H';obtain⟨x12_1,rfl,HA,HK1,HB⟩:=hrel;obtain _|k1:=gk
   ·exact nz HA.out
   have H:=HA.out;clear HA;simp only[impl_IsChain.l0]at H;replace H:=itb H;rcases H with⟨c3b0,H⟩|⟨c3b0,H⟩
   ·replace H:=itd H;obtain⟨c4b0,H⟩:=H;replace H:=itd H;obtain⟨c5b0,H⟩:=H;replace H:=bnd H;obtain⟨t219,A6,H⟩:=H;replace H:=itt H;rcases H with⟨rfl,H⟩|⟨rfl,H⟩
    ·have H':=Aside0.mk H;clear H;have p218:0≤(x12_1:Int):=of_decide_eq_true asx;have q218:x12_1<(l0.length:Int):=of_decide_eq_true asx;obtain⟨ad218,A218_0,c218_0,e218,hx218_0,hl218_0,hi218_0⟩:=at_L1 HR0.out x12_1 p218 q218;cases e218;replace hx218_0:=hc_ HB hx218_0;have HR218_0:=Aside0.mk hi218_0;have HC218_0:=Aside0.mk hl218_0;clear hi218_0 hl218_0;replace p218:=eq_true p218;replace q218:=eq_true q218
     go_wp2_with(first|(refine cal_ 104 (some 17) Try.func104 #[.slice A218_0 (rd_L1 l0 x12_1).length c218_0,.int .i64 120] rfl (impl_areBlocks.calls k1 _ _ (rd_L1 l0 x12_1) 120 true _ ?_ HC218_0.out A6.out) ?_;exact cb_ HR218_0 HB;rintro e w' ⟨rfl,⟨nd,rfl⟩⟩;refine⟨_,rfl,?_⟩))
     go_roundg k1
     case measure=>have:=HK1.out;omega
     case rel=>exact⟨(wrap64 (x12_1+1)),eqx,H',⟨by have:=HK1.out;omega⟩,⟨cB HB⟩⟩
    ·simp only[Option.some.injEq,Prod.mk.injEq]at H;obtain⟨rfl,rfl⟩:=H;have p218:0≤(x12_1:Int):=of_decide_eq_true asx;have q218:x12_1<(l0.length:Int):=of_decide_eq_true asx;obtain⟨ad218,A218_0,c218_0,e218,hx218_0,hl218_0,hi218_0⟩:=at_L1 HR0.out x12_1 p218 q218;cases e218;replace hx218_0:=hc_ HB hx218_0;have HR218_0:=Aside0.mk hi218_0;have HC218_0:=Aside0.mk hl218_0;clear hi218_0 hl218_0;replace p218:=eq_true p218;replace q218:=eq_true q218
     go_wp2_with(first|(refine cal_ 104 (some 17) Try.func104 #[.slice A218_0 (rd_L1 l0 x12_1).length c218_0,.int .i64 120] rfl (impl_areBlocks.calls k1 _ _ (rd_L1 l0 x12_1) 120 false _ ?_ HC218_0.out A6.out) ?_;exact cb_ HR218_0 HB;rintro e w' ⟨rfl,⟨nd,rfl⟩⟩;refine⟨_,rfl,?_⟩))
     go_ret2
     exact⟨erx,cB HB⟩
   ·have H':=Aside0.mk H;clear H;go_wp2
    go_loopg [6] k1 (fun kq v6 w'=> ∃(x6_2:Int),v6= .int .i64 x6_2∧Aside0 (impl_IsChain.l1 kq l0 x6_2=some (r1,r2))∧Aside0 (kq≤k1)∧Aside0 (Below w.heap.size w w'))
    case atStart=>exact⟨(1),eqx,H',⟨Nat.le_refl _⟩,⟨cB HB⟩⟩
    case round=>
     clear H';obtain⟨x6_2,rfl,HA,HK2,HB⟩:=hrel;obtain _|k2:=gk
     ·exact nz HA.out
     have H:=HA.out;clear HA;simp only[impl_IsChain.l1]at H;replace H:=itb H;rcases H with⟨c8b0,H⟩|⟨c8b0,H⟩
     ·replace H:=itd H;obtain⟨c9b0,H⟩:=H;replace H:=bnd H;obtain⟨t221,A10,H⟩:=H;obtain⟨ji11,hji11⟩:=jix (wrap64 (x6_2-1));simp only[hji11]at H
      (try rw[hji11]at A10)
      have hji11w:(IntKind.i64.wrap (x6_2-1))=ji11:=(i64_w _).trans hji11;replace H:=itd H;obtain⟨c12b0,H⟩:=H;replace H:=itd H;obtain⟨c13b0,H⟩:=H;replace H:=bnd H;obtain⟨t225,A14,H⟩:=H;replace H:=itt H;rcases H with⟨rfl,H⟩|⟨rfl,H⟩
      ·have H':=Aside0.mk H;clear H
       try go_wp2
       replace HB:=Aside0.mk (below_drew1 HB.out);have p220:0≤(x6_2:Int):=of_decide_eq_true asx;have q220:x6_2<(l0.length:Int):=of_decide_eq_true asx;obtain⟨ad220,A220_0,c220_0,e220,hx220_0,hl220_0,hi220_0⟩:=at_L1 HR0.out x6_2 p220 q220;have hw220_0:=hx220_0;cases e220;replace hx220_0:=hc_ HB hx220_0;have HR220_0:=Aside0.mk hi220_0;have HC220_0:=Aside0.mk hl220_0;clear hi220_0 hl220_0;replace p220:=eq_true p220;replace q220:=eq_true q220;have p224:0≤((ji11):Int):=of_decide_eq_true asx;have q224:(ji11)<(l0.length:Int):=of_decide_eq_true asx;obtain⟨ad224,A224_0,c224_0,e224,hx224_0,hl224_0,hi224_0⟩:=at_L1 HR0.out (ji11) p224 q224;have hw224_0:=hx224_0;obtain rfl:ad220=ad224:=(by injection e224);replace hx224_0:=hc_ HB hx224_0;have HR224_0:=Aside0.mk hi224_0;have HC224_0:=Aside0.mk hl224_0;clear hi224_0 hl224_0;replace p224:=eq_true p224;replace q224:=eq_true q224;refine start_ (n:=12) (S:=fun w'=>w'.cell? (ad220.add (x6_2).toNat)=some (.slice A220_0 (rd_L1 l0 x6_2).length c220_0)∧w'.cell? (ad220.add ((ji11)).toNat)=some (.slice A224_0 (rd_L1 l0 (ji11)).length c224_0)) (ds:=[]) #[false,false,false,false,false,false,false,false,false,false,false,false] (by kernel_rfl) rfl rfl ⟨(hc_ HB hw220_0),(hc_ HB hw224_0)⟩ (fun hHeld=>?_);refine with_tabW impl_IsChain.tab12 impl_IsChain.bits12 (fun HT_ HW_=>?_);generalize wr.drew=w16 at HB HR220_0 HR224_0 hx220_0 hx224_0 hHeld⊢;refine pu_ HT_ 0 (some 26) ?_;refine pu_ HT_ 1 (some 27) ?_;refine pu_ HT_ 2 (some 28) ?_;refine pu_ HT_ 5 (some 31) ?_;refine pu_ HT_ 6 (some 32) ?_;refine pu_ HT_ 7 (some 33) ?_;refine pu_ HT_ 8 (some 34) ?_;refine tk2_ HT_ HW_ hHeld 3 (some 29) ?_;refine tk2_ HT_ HW_ hHeld 9 (some 35) ?_;refine on_ HT_ 4 (some 30) (fun K hK=>?_);refine ral_ Try.func106 #[.int .i64 120,.slice A220_0 (rd_L1 l0 x6_2).length c220_0] (impl_markOf.calls k2 120 _ _ (rd_L1 l0 x6_2) t221 _ ?_ HC220_0.out A10.out) ?_;exact cb_ HR220_0 HB;rintro e w17 ⟨v222,rfl,ho0,hb⟩;refine⟨_,rfl,?_⟩;have HO223:=eRr ho0 (bz HB);replace HB:=bs HB hb;(try clear hb ho0);obtain⟨Ao18,co18,eo18⟩:=sR HO223
       (first|subst eo18|(injection eo18 with f1_ f2_ f3_;have f4_:=f1_.symm;have f5_:=f3_.symm;clear f1_ f2_ f3_;subst f4_;subst f5_))
       refine hK.out _ _ ⟨(hc_ HB hw220_0),(hc_ HB hw224_0)⟩ (fun hHeld=>?_);clear hK K;refine nr_ (some 30) ?_;refine on_ HT_ 10 (some 36) (fun K hK=>?_);refine goes_ Try.func105 (by kernel_rfl) rfl #[.slice Ao18 t221.length co18,.slice A224_0 (rd_L1 l0 (ji11)).length c224_0] (by rfl) rfl rfl (by(try simp only[List.map_toArray,List.map_cons,List.map_nil]);first|done|(simp only[hji11];rfl)|rfl|(simp only[List.length_drop,List.length_take];rfl)) ?_
       with_reducible refine(impl_allIn.calls k2 _ _ t221 _ _ (rd_L1 l0 (ji11)) true _ ?side1 ?side2 ?side3 ?side4 A14.out).mono ?_
       (case side1=>exact rR HO223)
       (case side2=>exact(lR HO223))
       (case side3=>exact cb_ HR224_0 HB)
       (case side4=>exact HC224_0.out)
       rintro e w' ⟨rfl,⟨nd,rfl⟩⟩;refine⟨_,rfl,?_⟩;refine hK.out _ _ ⟨(hc_ HB hw220_0),(hc_ HB hw224_0)⟩ (fun hHeld=>?_);clear hK K;refine nr_ (some 36) ?_;refine pu_ HT_ 11 (some 37) ?_;refine done_ (done_of HT_.out (by kernel_rfl)) ?_
       try go_wp2
       go_roundg k2
       case measure=>have:=HK1.out;have:=HK2.out;omega
       case rel=>exact⟨(wrap64 (x6_2+1)),eqx,H',⟨om2 HK1 HK2⟩,⟨cB HB⟩⟩
      ·simp only[Option.some.injEq,Prod.mk.injEq]at H;obtain⟨rfl,rfl⟩:=H
       try go_wp2
       replace HB:=Aside0.mk (below_drew1 HB.out);have p220:0≤(x6_2:Int):=of_decide_eq_true asx;have q220:x6_2<(l0.length:Int):=of_decide_eq_true asx;obtain⟨ad220,A220_0,c220_0,e220,hx220_0,hl220_0,hi220_0⟩:=at_L1 HR0.out x6_2 p220 q220;have hw220_0:=hx220_0;cases e220;replace hx220_0:=hc_ HB hx220_0;have HR220_0:=Aside0.mk hi220_0;have HC220_0:=Aside0.mk hl220_0;clear hi220_0 hl220_0;replace p220:=eq_true p220;replace q220:=eq_true q220;have p224:0≤((ji11):Int):=of_decide_eq_true asx;have q224:(ji11)<(l0.length:Int):=of_decide_eq_true asx;obtain⟨ad224,A224_0,c224_0,e224,hx224_0,hl224_0,hi224_0⟩:=at_L1 HR0.out (ji11) p224 q224;have hw224_0:=hx224_0;obtain rfl:ad220=ad224:=(by injection e224);replace hx224_0:=hc_ HB hx224_0;have HR224_0:=Aside0.mk hi224_0;have HC224_0:=Aside0.mk hl224_0;clear hi224_0 hl224_0;replace p224:=eq_true p224;replace q224:=eq_true q224;refine start_ (n:=12) (S:=fun w'=>w'.cell? (ad220.add (x6_2).toNat)=some (.slice A220_0 (rd_L1 l0 x6_2).length c220_0)∧w'.cell? (ad220.add ((ji11)).toNat)=some (.slice A224_0 (rd_L1 l0 (ji11)).length c224_0)) (ds:=[]) #[false,false,false,false,false,false,false,false,false,false,false,false] (by kernel_rfl) rfl rfl ⟨(hc_ HB hw220_0),(hc_ HB hw224_0)⟩ (fun hHeld=>?_);refine with_tabW impl_IsChain.tab12 impl_IsChain.bits12 (fun HT_ HW_=>?_);generalize wr.drew=w19 at HB HR220_0 HR224_0 hx220_0 hx224_0 hHeld⊢;refine pu_ HT_ 0 (some 26) ?_;refine pu_ HT_ 1 (some 27) ?_;refine pu_ HT_ 2 (some 28) ?_;refine pu_ HT_ 5 (some 31) ?_;refine pu_ HT_ 6 (some 32) ?_;refine pu_ HT_ 7 (some 33) ?_;refine pu_ HT_ 8 (some 34) ?_;refine tk2_ HT_ HW_ hHeld 3 (some 29) ?_;refine tk2_ HT_ HW_ hHeld 9 (some 35) ?_;refine on_ HT_ 4 (some 30) (fun K hK=>?_);refine ral_ Try.func106 #[.int .i64 120,.slice A220_0 (rd_L1 l0 x6_2).length c220_0] (impl_markOf.calls k2 120 _ _ (rd_L1 l0 x6_2) t221 _ ?_ HC220_0.out A10.out) ?_;exact cb_ HR220_0 HB;rintro e w20 ⟨v222,rfl,ho0,hb⟩;refine⟨_,rfl,?_⟩;have HO223:=eRr ho0 (bz HB);replace HB:=bs HB hb;(try clear hb ho0);obtain⟨Ao21,co21,eo21⟩:=sR HO223
       (first|subst eo21|(injection eo21 with f1_ f2_ f3_;have f4_:=f1_.symm;have f5_:=f3_.symm;clear f1_ f2_ f3_;subst f4_;subst f5_))
       refine hK.out _ _ ⟨(hc_ HB hw220_0),(hc_ HB hw224_0)⟩ (fun hHeld=>?_);clear hK K;refine nr_ (some 30) ?_;refine on_ HT_ 10 (some 36) (fun K hK=>?_);refine goes_ Try.func105 (by kernel_rfl) rfl #[.slice Ao21 t221.length co21,.slice A224_0 (rd_L1 l0 (ji11)).length c224_0] (by rfl) rfl rfl (by(try simp only[List.map_toArray,List.map_cons,List.map_nil]);first|done|(simp only[hji11];rfl)|rfl|(simp only[List.length_drop,List.length_take];rfl)) ?_
       with_reducible refine(impl_allIn.calls k2 _ _ t221 _ _ (rd_L1 l0 (ji11)) false _ ?side1 ?side2 ?side3 ?side4 A14.out).mono ?_
       (case side1=>exact rR HO223)
       (case side2=>exact(lR HO223))
       (case side3=>exact cb_ HR224_0 HB)
       (case side4=>exact HC224_0.out)
       rintro e w' ⟨rfl,⟨nd,rfl⟩⟩;refine⟨_,rfl,?_⟩;refine hK.out _ _ ⟨(hc_ HB hw220_0),(hc_ HB hw224_0)⟩ (fun hHeld=>?_);clear hK K;refine nr_ (some 36) ?_;refine pu_ HT_ 11 (some 37) ?_;refine done_ (done_of HT_.out (by kernel_rfl)) ?_
       try go_wp2
       go_ret2
       exact⟨by first|rfl|(simp[errW_none,errW_some]<;>rfl)|(simp only[←hji11];first|rfl|(simp[errW_none,errW_some]<;>rfl))|(simp[*,errW_none,errW_some]<;>rfl),cB HB⟩
     ·simp only[Option.some.injEq,Prod.mk.injEq]at H;obtain⟨rfl,rfl⟩:=H;go_wp2
      go_ret2
      exact⟨erx,cB HB⟩
def laws_qLists.l0:Nat→List (List Int)→List (List Int)→Int→Int→Option (Bool)
 |0,_,_,_,_=>none
 |k+1,x0,x1,x12,x13=>if x13<x12 then(if 0≤x13 then(if x13<(x0.length:Int)then(if x13<(x1.length:Int)then((laws_qInts.f k (rd_L1 x0 x13) (rd_L1 x1 x13)).bind fun t228=>(if t228=true then(laws_qLists.l0 k x0 x1 x12 (wrap64 (x13+1)))else(some false)))else(none))else(none))else(none))else(some true)
def laws_qLists.f (k:Nat) (l0:List (List Int)) (l1:List (List Int)):Option (Bool):=if(l0.length:Int)=(l1.length:Int)then(laws_qLists.l0 k l0 l1 (l0.length:Int) 0)else(some false)
set_option maxHeartbeats 8000000 in
set_option maxRecDepth 100000 in
theorem laws_qLists.calls (k:Nat) (A0:Option Addr) (c0:Nat) (l0:List (List Int)) (A1:Option Addr) (c1:Nat) (l1:List (List Int)) (r:Bool) (w:World) (hr0:Kd.C (Kd.slice 3 (Kd.int .i64)) w A0 l0.length l0) (hc0:l0.length≤c0) (hr1:Kd.C (Kd.slice 3 (Kd.int .i64)) w A1 l1.length l1) (hc1:l1.length≤c1) (h:laws_qLists.f k l0 l1=some r):
  Calls Try.prog 34 #[.slice A0 l0.length c0,.slice A1 l1.length c1] w fun e w'=>e= .returned (.bool r)∧Drawn0 w w':=by
 have HR0:=Aside0.mk hr0;have HC0:=Aside0.mk hc0;clear hr0 hc0;have HR1:=Aside0.mk hr1;have HC1:=Aside0.mk hc1;clear hr1 hc1;have H:=h;clear h
 unfold laws_qLists.f at H
 replace H:=itp H;rcases H with⟨c3,H⟩|⟨c3,H⟩
 ·have c3b0:((l0.length:Int)==(l1.length:Int))=true:=beq_iff_eq.mpr c3;have c3b1:((l0.length:Int) !=(l1.length:Int))=false:=bne_eq_false_iff_eq.mpr c3;have c3b2:(l0.length==l1.length)=true:=by first|simpa using c3|(simp at c3⊢;omega)
  clear c3;have H':=Aside0.mk H;clear H
  go_enter Try.func34,Try.ntmps34
  go_wp2
  repeat(go_quiet(fail);try go_wp2)
  go_loopg [13] k (fun kq v13 w'=> ∃(x13_1:Int),v13= .int .i64 x13_1∧Aside0 (laws_qLists.l0 kq l0 l1 (l0.length:Int) x13_1=some r)∧Aside0 (kq≤k)∧Drawn0 w w')
  case atStart=>exact⟨(0),eqx,H',⟨Nat.le_refl _⟩,d0x⟩
  case round=>
   clear H';obtain⟨x13_1,rfl,HA,HK1,⟨m1,rfl⟩⟩:=hrel;obtain _|k1:=gk
   ·exact nz HA.out
   have H:=HA.out;clear HA;simp only[laws_qLists.l0]at H;replace H:=itb H;rcases H with⟨c4b0,H⟩|⟨c4b0,H⟩
   ·replace H:=itd H;obtain⟨c5b0,H⟩:=H;replace H:=itd H;obtain⟨c6b0,H⟩:=H;replace H:=itd H;obtain⟨c7b0,H⟩:=H;replace H:=bnd H;obtain⟨t228,A8,H⟩:=H;replace H:=itt H;rcases H with⟨rfl,H⟩|⟨rfl,H⟩
    ·have H':=Aside0.mk H;clear H;have p226:0≤(x13_1:Int):=of_decide_eq_true asx;have q226:x13_1<(l0.length:Int):=of_decide_eq_true asx;obtain⟨ad226,A226_0,c226_0,e226,hx226_0,hl226_0,hi226_0⟩:=at_L1 HR0.out x13_1 p226 q226;cases e226;have HR226_0:=Aside0.mk hi226_0;have HC226_0:=Aside0.mk hl226_0;clear hi226_0 hl226_0;replace p226:=eq_true p226;replace q226:=eq_true q226;have p227:0≤(x13_1:Int):=of_decide_eq_true asx;have q227:x13_1<(l1.length:Int):=of_decide_eq_true asx;obtain⟨ad227,A227_0,c227_0,e227,hx227_0,hl227_0,hi227_0⟩:=at_L1 HR1.out x13_1 p227 q227;cases e227;have HR227_0:=Aside0.mk hi227_0;have HC227_0:=Aside0.mk hl227_0;clear hi227_0 hl227_0;replace p227:=eq_true p227;replace q227:=eq_true q227
     go_wp2_with(first|(go_at_call 17;(with_reducible refine(laws_qInts.calls k1 _ _ (rd_L1 l0 x13_1) _ _ (rd_L1 l1 x13_1) true _ ?_ HC226_0.out ?_ HC227_0.out A8.out).mono ?_);exact cC HR226_0;exact cC HR227_0;rintro e w' ⟨rfl,⟨nd,rfl⟩⟩;(try exact drx)))
     repeat(go_quiet(first|(go_at_call 17;(with_reducible refine(laws_qInts.calls k1 _ _ (rd_L1 l0 x13_1) _ _ (rd_L1 l1 x13_1) true _ ?side1 ?side2 ?side3 ?side4 A8.out).mono ?_);(case side1=>repeat(first|exact HR226_0.out|(with_reducible refine Kd.C_alloc ?_ _)|(with_reducible refine Kd.C_drewN ?_ _)|(with_reducible refine Kd.C_drew ?_)));(case side2=>exact HC226_0.out);(case side3=>repeat(first|exact HR227_0.out|(with_reducible refine Kd.C_alloc ?_ _)|(with_reducible refine Kd.C_drewN ?_ _)|(with_reducible refine Kd.C_drew ?_)));(case side4=>exact HC227_0.out);rintro e w' ⟨rfl,⟨nd,rfl⟩⟩;(try first|exact⟨rfl,_,World.drewN_drewN _ _ _⟩|exact⟨rfl,_,Eq.trans (World.drewN_drewN _ _ _) (congrArg (World.drewN _) (Nat.add_assoc _ _ _))⟩)));try go_wp2_with(first|(go_at_call 17;(with_reducible refine(laws_qInts.calls k1 _ _ (rd_L1 l0 x13_1) _ _ (rd_L1 l1 x13_1) true _ ?side1 ?side2 ?side3 ?side4 A8.out).mono ?_);(case side1=>repeat(first|exact HR226_0.out|(with_reducible refine Kd.C_alloc ?_ _)|(with_reducible refine Kd.C_drewN ?_ _)|(with_reducible refine Kd.C_drew ?_)));(case side2=>exact HC226_0.out);(case side3=>repeat(first|exact HR227_0.out|(with_reducible refine Kd.C_alloc ?_ _)|(with_reducible refine Kd.C_drewN ?_ _)|(with_reducible refine Kd.C_drew ?_)));(case side4=>exact HC227_0.out);rintro e w' ⟨rfl,⟨nd,rfl⟩⟩;(try first|exact⟨rfl,_,World.drewN_drewN _ _ _⟩|exact⟨rfl,_,Eq.trans (World.drewN_drewN _ _ _) (congrArg (World.drewN _) (Nat.add_assoc _ _ _))⟩))))
     go_roundg k1
     case measure=>have:=HK1.out;omega
     case rel=>exact⟨(wrap64 (x13_1+1)),eqx,H',⟨by have:=HK1.out;omega⟩,d0x⟩
    ·obtain rfl:=Option.some.inj H;have p226:0≤(x13_1:Int):=of_decide_eq_true asx;have q226:x13_1<(l0.length:Int):=of_decide_eq_true asx;obtain⟨ad226,A226_0,c226_0,e226,hx226_0,hl226_0,hi226_0⟩:=at_L1 HR0.out x13_1 p226 q226;cases e226;have HR226_0:=Aside0.mk hi226_0;have HC226_0:=Aside0.mk hl226_0;clear hi226_0 hl226_0;replace p226:=eq_true p226;replace q226:=eq_true q226;have p227:0≤(x13_1:Int):=of_decide_eq_true asx;have q227:x13_1<(l1.length:Int):=of_decide_eq_true asx;obtain⟨ad227,A227_0,c227_0,e227,hx227_0,hl227_0,hi227_0⟩:=at_L1 HR1.out x13_1 p227 q227;cases e227;have HR227_0:=Aside0.mk hi227_0;have HC227_0:=Aside0.mk hl227_0;clear hi227_0 hl227_0;replace p227:=eq_true p227;replace q227:=eq_true q227
     go_wp2_with(first|(go_at_call 17;(with_reducible refine(laws_qInts.calls k1 _ _ (rd_L1 l0 x13_1) _ _ (rd_L1 l1 x13_1) false _ ?_ HC226_0.out ?_ HC227_0.out A8.out).mono ?_);exact cC HR226_0;exact cC HR227_0;rintro e w' ⟨rfl,⟨nd,rfl⟩⟩;(try exact drx)))
     repeat(go_quiet(first|(go_at_call 17;(with_reducible refine(laws_qInts.calls k1 _ _ (rd_L1 l0 x13_1) _ _ (rd_L1 l1 x13_1) false _ ?side1 ?side2 ?side3 ?side4 A8.out).mono ?_);(case side1=>repeat(first|exact HR226_0.out|(with_reducible refine Kd.C_alloc ?_ _)|(with_reducible refine Kd.C_drewN ?_ _)|(with_reducible refine Kd.C_drew ?_)));(case side2=>exact HC226_0.out);(case side3=>repeat(first|exact HR227_0.out|(with_reducible refine Kd.C_alloc ?_ _)|(with_reducible refine Kd.C_drewN ?_ _)|(with_reducible refine Kd.C_drew ?_)));(case side4=>exact HC227_0.out);rintro e w' ⟨rfl,⟨nd,rfl⟩⟩;(try first|exact⟨rfl,_,World.drewN_drewN _ _ _⟩|exact⟨rfl,_,Eq.trans (World.drewN_drewN _ _ _) (congrArg (World.drewN _) (Nat.add_assoc _ _ _))⟩)));try go_wp2_with(first|(go_at_call 17;(with_reducible refine(laws_qInts.calls k1 _ _ (rd_L1 l0 x13_1) _ _ (rd_L1 l1 x13_1) false _ ?side1 ?side2 ?side3 ?side4 A8.out).mono ?_);(case side1=>repeat(first|exact HR226_0.out|(with_reducible refine Kd.C_alloc ?_ _)|(with_reducible refine Kd.C_drewN ?_ _)|(with_reducible refine Kd.C_drew ?_)));(case side2=>exact HC226_0.out);(case side3=>repeat(first|exact HR227_0.out|(with_reducible refine Kd.C_alloc ?_ _)|(with_reducible refine Kd.C_drewN ?_ _)|(with_reducible refine Kd.C_drew ?_)));(case side4=>exact HC227_0.out);rintro e w' ⟨rfl,⟨nd,rfl⟩⟩;(try first|exact⟨rfl,_,World.drewN_drewN _ _ _⟩|exact⟨rfl,_,Eq.trans (World.drewN_drewN _ _ _) (congrArg (World.drewN _) (Nat.add_assoc _ _ _))⟩))))
     go_ret
     exact⟨eqx,d0x⟩
   ·obtain rfl:=Option.some.inj H;go_wp2
    repeat(go_quiet(fail);try go_wp2)
    go_ret
    exact⟨eqx,d0x⟩
 ·have c3b0:((l0.length:Int)==(l1.length:Int))=false:=beq_eq_false_iff_ne.mpr c3;have c3b1:((l0.length:Int) !=(l1.length:Int))=true:=bne_iff_ne.mpr c3;have c3b2:(l0.length==l1.length)=false:=by first|simpa using c3|(simp at c3⊢;omega)
  obtain rfl:=Option.some.inj H
  go_enter Try.func34,Try.ntmps34
  go_wp2
  repeat(go_quiet(fail);try go_wp2)
  go_ret
  exact⟨eqx,d0x⟩
end Go.Proofs.Ytlkppimbbbdmbaa.PFnFactors
