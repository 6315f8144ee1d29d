-- Printed by a changed copy of the printer; impl.bestPit and spec.paFind by contracts walked by hand
import Derived.Test.YtlkppimbbbdmbaaPFnForcedx0
import Derived.Test.YtlkppimbbbdmbaaPFnForcedx2
import Derived.Test.YtlkppimbbbdmbaaPFnForcedx4
import Derived.Test.YtlkppimbbbdmbaaPFnForcedx5
import Derived.Test.YtlkppimbbbdmbaaPFnForcedx6
import Derived.Test.YtlkppimbbbdmbaaPFnForcedx14
import Derived.Test.YtlkppimbbbdmbaaPFnForcedx16
import Derived.Test.YtlkppimbbbdmbaaPFnForcedx17
namespace Go.Proofs.Ytlkppimbbbdmbaa.PFnForced
open Go.RowKit Go.Proofs.YtlkppimbbbdmbaaW.PrintWords Go.Proofs.YtlkppimbbbdmbaaW.PrintLast Go.Proofs.YtlkppimbbbdmbaaW.PrintMore
attribute [local go_sem] max2_int min2_int max_two min_two max_three min_three max_four min_four
set_option linter.unusedVariables false
set_option linter.unusedSimpArgs false
mutual
def laws_FnForced.j0:Nat→List (List Int)→List Int→List Int→List Int→Bool→List Int→List Int→List Int→Bool→Option (Bool)
 |0,_,_,_,_,_,_,_,_,_=>none
 |k+1,x5,x6,x7,x8,x9,x10,x12,x14,x98=>if x98=true then(some false)else(if x9=true then((impl_LeastClosure.f k x5 x7).bind fun bt924=>((impl_BestValue.f k x5 x6).bind fun bt928=>((impl_SumOfValues.f k x6 x8).bind fun bt930=>((impl_SumOfValues.f k x6 x12).bind fun bt932=>((impl_SumOfValues.f k x6 bt924.1).bind fun bt934=>((impl_IsClosure.f k x5 x8).bind fun bt936=>((impl_IsClosure.f k x5 x12).bind fun bt938=>(if bt924.2=true then(if bt928.2=true then(if bt930.2=true then(if bt932.2=true then(if bt934.2=true then(if bt936.2=true then(if bt936.1=true then(if bt938.2=true then(laws_FnForced.j1 k x5 x6 x7 x10 x14 bt928.1 bt930.1 bt932.1 bt934.1 (!bt938.1))else(laws_FnForced.j1 k x5 x6 x7 x10 x14 bt928.1 bt930.1 bt932.1 bt934.1 true))else(laws_FnForced.j1 k x5 x6 x7 x10 x14 bt928.1 bt930.1 bt932.1 bt934.1 true))else(laws_FnForced.j1 k x5 x6 x7 x10 x14 bt928.1 bt930.1 bt932.1 bt934.1 true))else(laws_FnForced.j1 k x5 x6 x7 x10 x14 bt928.1 bt930.1 bt932.1 bt934.1 true))else(laws_FnForced.j1 k x5 x6 x7 x10 x14 bt928.1 bt930.1 bt932.1 bt934.1 true))else(laws_FnForced.j1 k x5 x6 x7 x10 x14 bt928.1 bt930.1 bt932.1 bt934.1 true))else(laws_FnForced.j1 k x5 x6 x7 x10 x14 bt928.1 bt930.1 bt932.1 bt934.1 true))else(laws_FnForced.j1 k x5 x6 x7 x10 x14 bt928.1 bt930.1 bt932.1 bt934.1 true)))))))))else(some true))
def laws_FnForced.j1:Nat→List (List Int)→List Int→List Int→List Int→List Int→Int→Int→Int→Int→Bool→Option (Bool)
 |0,_,_,_,_,_,_,_,_,_,_=>none
 |k+1,x5,x6,x7,x10,x14,x18,x20,x22,x24,x176=>if x176=true then(some false)else((impl_BestPit.f k x5 x6).bind fun bt940=>((spec_BestPit.f k x5 x6).bind fun bt944=>(if bt940.2=true then(if bt944.2=true then((laws_qInts.f k bt940.1 bt944.1).bind fun t948=>(laws_FnForced.j2 k x7 x10 x14 x18 x20 x22 x24 bt944.1 (!t948)))else(laws_FnForced.j2 k x7 x10 x14 x18 x20 x22 x24 bt944.1 true))else(laws_FnForced.j2 k x7 x10 x14 x18 x20 x22 x24 bt944.1 true))))
def laws_FnForced.j2:Nat→List Int→List Int→List Int→Int→Int→Int→Int→List Int→Bool→Option (Bool)
 |0,_,_,_,_,_,_,_,_,_=>none
 |k+1,x7,x10,x14,x18,x20,x22,x24,x32,x200=>if x200=true then(some false)else((laws_qIn.f k x7 x32).bind fun t949=>(if t949=true then(if x20=x18 then((laws_qIn.f k x32 x7).bind fun t950=>(if t950=true then((laws_qInts.f k x14 x32).bind fun t951=>(laws_FnForced.j3 k x7 x10 x14 x18 x20 x22 x24 (!t951)))else(laws_FnForced.j3 k x7 x10 x14 x18 x20 x22 x24 false)))else(laws_FnForced.j3 k x7 x10 x14 x18 x20 x22 x24 true))else((laws_qIn.f k x32 x7).bind fun t952=>(if t952=true then((laws_qInts.f k x14 x32).bind fun t953=>(laws_FnForced.j3 k x7 x10 x14 x18 x20 x22 x24 (!t953)))else(laws_FnForced.j3 k x7 x10 x14 x18 x20 x22 x24 false)))))
def laws_FnForced.j3:Nat→List Int→List Int→List Int→Int→Int→Int→Int→Bool→Option (Bool)
 |0,_,_,_,_,_,_,_,_=>none
 |k+1,x7,x10,x14,x18,x20,x22,x24,x219=>if x219=true then(some false)else((laws_qIn.f k x7 x10).bind fun t954=>(if t954=true then((laws_qIn.f k x14 x7).bind fun t955=>(if t955=true then(if x20≤x18 then(if x22≤x18 then(if x20≥x24 then(some (decide (x22≥0)))else(some false))else(some false))else(some false))else(some false)))else(some false)))
end
def laws_FnForced.f (k:Nat) (l0:List Int) (l1:List Int):Option (Bool):=if(wrap64 ((l0.length:Int)+(l1.length:Int)))>1048576 then(some true)else((spec_DrawForcedPit.f k l0).bind fun bt897=>((impl_ForcedPit.f k bt897.1 bt897.2.1 bt897.2.2).bind fun bt906=>((spec_ForcedPit.f k bt897.1 bt897.2.1 bt897.2.2).bind fun bt910=>((impl_PitInside.f k bt897.1 bt897.2.1 bt897.2.2).bind fun bt914=>((spec_PitInside.f k bt897.1 bt897.2.1 bt897.2.2).bind fun bt918=>(if(bt906.2 !=bt910.2)=true then(laws_FnForced.j0 k bt897.1 bt897.2.1 bt897.2.2 bt906.1 bt906.2 bt910.1 bt914.1 bt918.1 true)else((laws_qInts.f k bt906.1 bt910.1).bind fun t922=>(if t922=true then(if(bt914.2 !=bt918.2)=true then(laws_FnForced.j0 k bt897.1 bt897.2.1 bt897.2.2 bt906.1 bt906.2 bt910.1 bt914.1 bt918.1 true)else((laws_qInts.f k bt914.1 bt918.1).bind fun t923=>(if t923=true then(laws_FnForced.j0 k bt897.1 bt897.2.1 bt897.2.2 bt906.1 bt906.2 bt910.1 bt914.1 bt918.1 (bt914.2 !=bt906.2))else(laws_FnForced.j0 k bt897.1 bt897.2.1 bt897.2.2 bt906.1 bt906.2 bt910.1 bt914.1 bt918.1 true))))else(laws_FnForced.j0 k bt897.1 bt897.2.1 bt897.2.2 bt906.1 bt906.2 bt910.1 bt914.1 bt918.1 true)))))))))
set_option maxHeartbeats 8000000 in
set_option maxRecDepth 100000 in
theorem laws_FnForced.calls (k:Nat) (A0:Option Addr) (c0:Nat) (l0:List Int) (A1:Option Addr) (c1:Nat) (l1:List Int) (r:Bool) (w:World) (hr0:Kd.C (Kd.int .u8) w A0 l0.length l0) (hc0:l0.length≤c0) (hr1:Kd.C (Kd.int .u8) w A1 l1.length l1) (hc1:l1.length≤c1) (h:laws_FnForced.f k l0 l1=some r):
  Calls Try.prog 7 #[.slice A0 l0.length c0,.slice A1 l1.length c1] w fun e w'=>e= .returned (.bool r)∧Below w.heap.size w w':=by
 have HR0:=Aside0.mk hr0;have HC0:=Aside0.mk hc0;clear hr0 hc0;have HR1:=Aside0.mk hr1;have HC1:=Aside0.mk hc1;clear hr1 hc1;have HB:=Aside0.mk (Below.refl w.heap.size w);have H:=h;clear h
 unfold laws_FnForced.f at H
 replace H:=itb H;rcases H with⟨c3b0,H⟩|⟨c3b0,H⟩
 ·obtain rfl:=Option.some.inj H
  go_enter Try.func7,Try.ntmps7
  go_wp2
  go_ret
  exact⟨erx,cB HB⟩
 ·replace H:=bnd H;obtain⟨⟨t897,t898,t899⟩,A4,H⟩:=H;(try dsimp only at H);replace H:=bnd H;obtain⟨⟨t906,t907⟩,A5,H⟩:=H;(try dsimp only at H);replace H:=bnd H;obtain⟨⟨t910,t911⟩,A6,H⟩:=H;(try dsimp only at H);replace H:=bnd H;obtain⟨⟨t914,t915⟩,A7,H⟩:=H;(try dsimp only at H);replace H:=bnd H;obtain⟨⟨t918,t919⟩,A8,H⟩:=H;(try dsimp only at H);have HC9:=Aside0.mk H;clear H
  go_enter Try.func7,Try.ntmps7
  go_upto_region 8 with(first|(refine cal_ 62 (some 42) Try.func62 #[.slice A0 l0.length c0] rfl (spec_DrawForcedPit.calls k _ _ l0 t897 t898 t899 _ ?_ HC0.out A4.out) ?_;exact cC HR0;rintro e w10 ⟨v900,v902,v904,rfl,ho0,ho1,ho2,hb⟩;refine⟨_,rfl,?_⟩;have HO901:=eSr ho0 (bz HB);have HO903:=eRr ho1 (bz HB);have HO905:=eRr ho2 (bz HB);replace HB:=bs HB hb;clear hb ho0 ho1 ho2;obtain⟨Ao11,co11,rfl⟩:=sS HO901;obtain⟨Ao12,co12,rfl⟩:=sR HO903;obtain⟨Ao13,co13,rfl⟩:=sR HO905)|(refine cal_ 63 (some 50) Try.func63 #[.slice Ao11 t897.length co11,.slice Ao12 t898.length co12,.slice Ao13 t899.length co13] rfl (impl_ForcedPit.calls k _ _ t897 _ _ t898 _ _ t899 t906 t907 _ ?_ (lS HO901) ?_ (lR HO903) ?_ (lR HO905) A5.out) ?_;exact rS HO901;exact rR HO903;exact rR HO905;rintro e w14 ⟨v908,rfl,ho0,hb⟩;refine⟨_,rfl,?_⟩;replace HO901:=aS HO901 (Kd.R_base ho0) hb;have HO909:=Aside0.mk (Kd.R_lower (nRR (nRR ho0 HO903) HO905) (bz HB));replace HO903:=aR HO903 (Kd.R_base ho0) hb;replace HO905:=aR HO905 (Kd.R_base ho0) hb;replace HB:=bs HB hb;clear hb ho0)|(refine cal_ 64 (some 57) Try.func64 #[.slice Ao11 t897.length co11,.slice Ao12 t898.length co12,.slice Ao13 t899.length co13] rfl (spec_ForcedPit.calls k _ _ t897 _ _ t898 _ _ t899 t910 t911 _ ?_ (lS HO901) ?_ (lR HO903) ?_ (lR HO905) A6.out) ?_;exact rS HO901;exact rR HO903;exact rR HO905;rintro e w15 ⟨v912,rfl,ho0,hb⟩;refine⟨_,rfl,?_⟩;replace HO901:=aS HO901 (Kd.R_base ho0) hb;have HO913:=Aside0.mk (Kd.R_lower (nRR (nRR (nRR ho0 HO903) HO905) HO909) (bz HB));replace HO903:=aR HO903 (Kd.R_base ho0) hb;replace HO905:=aR HO905 (Kd.R_base ho0) hb;replace HO909:=aR HO909 (Kd.R_base ho0) hb;replace HB:=bs HB hb;clear hb ho0)|(refine cal_ 65 (some 64) Try.func65 #[.slice Ao11 t897.length co11,.slice Ao12 t898.length co12,.slice Ao13 t899.length co13] rfl (impl_PitInside.calls k _ _ t897 _ _ t898 _ _ t899 t914 t915 _ ?_ (lS HO901) ?_ (lR HO903) ?_ (lR HO905) A7.out) ?_;exact rS HO901;exact rR HO903;exact rR HO905;rintro e w16 ⟨v916,rfl,ho0,hb⟩;refine⟨_,rfl,?_⟩;replace HO901:=aS HO901 (Kd.R_base ho0) hb;have HO917:=Aside0.mk (Kd.R_lower (nRR (nRR (nRR (nRR ho0 HO903) HO905) HO909) HO913) (bz HB));replace HO903:=aR HO903 (Kd.R_base ho0) hb;replace HO905:=aR HO905 (Kd.R_base ho0) hb;replace HO909:=aR HO909 (Kd.R_base ho0) hb;replace HO913:=aR HO913 (Kd.R_base ho0) hb;replace HB:=bs HB hb;clear hb ho0)|(refine cal_ 66 (some 71) Try.func66 #[.slice Ao11 t897.length co11,.slice Ao12 t898.length co12,.slice Ao13 t899.length co13] rfl (spec_PitInside.calls k _ _ t897 _ _ t898 _ _ t899 t918 t919 _ ?_ (lS HO901) ?_ (lR HO903) ?_ (lR HO905) A8.out) ?_;exact rS HO901;exact rR HO903;exact rR HO905;rintro e w17 ⟨v920,rfl,ho0,hb⟩;refine⟨_,rfl,?_⟩;replace HO901:=aS HO901 (Kd.R_base ho0) hb;have HO921:=Aside0.mk (Kd.R_lower (Kd.R_new' (nRR (nRR (nRR (nRR ho0 HO903) HO905) HO909) HO913) (Kd.R_lt (cR HO917))) (bz HB));replace HO903:=aR HO903 (Kd.R_base ho0) hb;replace HO905:=aR HO905 (Kd.R_base ho0) hb;replace HO909:=aR HO909 (Kd.R_base ho0) hb;replace HO913:=aR HO913 (Kd.R_base ho0) hb;replace HO917:=aR HO917 (Kd.R_base ho0) hb;replace HB:=bs HB hb;clear hb ho0))
  (try simp only[Act.put,List.setIfInBounds_toArray,List.set_cons_zero,List.set_cons_succ])
  go_cut [98] (fun v98 wc=> ∃(kq:Nat) (x98_8:Bool),v98= .bool x98_8∧Aside0 (laws_FnForced.j0 kq t897 t898 t899 t906 t907 t910 t914 t918 x98_8=some r)∧Aside0 (kq≤k)∧Aside0 (Kd.S (Kd.slice 3 (Kd.int .i64)) 24 wc w.heap.size (fun k_=>some k_≠((.slice Ao12 t898.length co12):Value).ownBlock∧some k_≠((.slice Ao13 t899.length co13):Value).ownBlock∧some k_≠(v908:Value).ownBlock∧some k_≠(v912:Value).ownBlock∧some k_≠(v916:Value).ownBlock∧some k_≠(v920:Value).ownBlock) (.slice Ao11 t897.length co11) t897)∧Aside0 (Kd.R (Kd.int .i64) 3 wc w.heap.size (fun k_=>some k_≠((.slice Ao13 t899.length co13):Value).ownBlock∧some k_≠(v908:Value).ownBlock∧some k_≠(v912:Value).ownBlock∧some k_≠(v916:Value).ownBlock∧some k_≠(v920:Value).ownBlock) (.slice Ao12 t898.length co12) t898)∧Aside0 (Kd.R (Kd.int .i64) 3 wc w.heap.size (fun k_=>some k_≠((.slice Ao12 t898.length co12):Value).ownBlock∧some k_≠(v908:Value).ownBlock∧some k_≠(v912:Value).ownBlock∧some k_≠(v916:Value).ownBlock∧some k_≠(v920:Value).ownBlock) (.slice Ao13 t899.length co13) t899)∧Aside0 (Kd.R (Kd.int .i64) 3 wc w.heap.size (fun k_=>some k_≠((.slice Ao12 t898.length co12):Value).ownBlock∧some k_≠((.slice Ao13 t899.length co13):Value).ownBlock∧some k_≠(v912:Value).ownBlock∧some k_≠(v916:Value).ownBlock∧some k_≠(v920:Value).ownBlock) v908 t906)∧Aside0 (Kd.R (Kd.int .i64) 3 wc w.heap.size (fun k_=>some k_≠((.slice Ao12 t898.length co12):Value).ownBlock∧some k_≠((.slice Ao13 t899.length co13):Value).ownBlock∧some k_≠(v908:Value).ownBlock∧some k_≠(v916:Value).ownBlock∧some k_≠(v920:Value).ownBlock) v912 t910)∧Aside0 (Kd.R (Kd.int .i64) 3 wc w.heap.size (fun k_=>some k_≠((.slice Ao12 t898.length co12):Value).ownBlock∧some k_≠((.slice Ao13 t899.length co13):Value).ownBlock∧some k_≠(v908:Value).ownBlock∧some k_≠(v912:Value).ownBlock∧some k_≠(v920:Value).ownBlock) v916 t914)∧Aside0 (Kd.R (Kd.int .i64) 3 wc w.heap.size (fun k_=>some k_≠((.slice Ao12 t898.length co12):Value).ownBlock∧some k_≠((.slice Ao13 t899.length co13):Value).ownBlock∧some k_≠(v908:Value).ownBlock∧some k_≠(v912:Value).ownBlock∧some k_≠(v916:Value).ownBlock) v920 t918)∧Aside0 (Below w.heap.size w wc))
  case first=>as_aux_lemma=>
   have H:=HC9.out;clear HC9;replace H:=itp H;rcases H with⟨c18,H⟩|⟨c18,H⟩
   ·have c18b0:(t907 !=t911)=true:=c18
    (try(have c18b1:decide (t907=t911)=false:=by simpa using c18))
    (try(have c18b2:(t907==t911)=false:=by simpa using c18))
    (try(have c18b3: ¬(t907=t911):=by simpa using c18))
    clear c18
    (first|rw[c18b0]|(simp only[i64_w,i32_w];rw[c18b0])|skip)
    as_aux_lemma=>
     have H':=Aside0.mk H;clear H;go_wp2
     go_meet
     case rel=>exact⟨_,(true),eqx,H',⟨omx⟩,mS HO901,mR HO903,mR HO905,mR HO909,mR HO913,mR HO917,mR HO921,⟨cB HB⟩⟩
   ·have c18b0:(t907 !=t911)=false:=by simpa using c18
    (try(have c18b1:decide (t907=t911)=true:=by simpa using c18))
    (try(have c18b2:(t907==t911)=true:=by simpa using c18))
    clear c18
    (first|rw[c18b0]|(simp only[i64_w,i32_w];rw[c18b0])|skip)
    replace H:=bnd H;obtain⟨t922,A19,H⟩:=H;replace H:=itt H;rcases H with⟨rfl,H⟩|⟨rfl,H⟩
    ·replace H:=itp H;rcases H with⟨c21,H⟩|⟨c21,H⟩
     ·have c21b0:(t915 !=t919)=true:=c21
      (try(have c21b1:decide (t915=t919)=false:=by simpa using c21))
      (try(have c21b2:(t915==t919)=false:=by simpa using c21))
      (try(have c21b3: ¬(t915=t919):=by simpa using c21))
      clear c21
      as_aux_lemma=>
       have H':=Aside0.mk H;clear H;obtain⟨Ao22,co22,rfl⟩:=sR HO909;obtain⟨Ao23,co23,rfl⟩:=sR HO913
       go_wp2_with(first|(go_at_call 17;(with_reducible refine(laws_qInts.calls k _ _ t906 _ _ t910 true _ ?_ (lR HO909) ?_ (lR HO913) A19.out).mono ?_);exact rR HO909;exact rR HO913;rintro e w' ⟨rfl,⟨nd,rfl⟩⟩))
       go_meet
       case rel=>exact⟨_,(true),eqx,H',⟨omx⟩,mS HO901,mR HO903,mR HO905,mR HO909,mR HO913,mR HO917,mR HO921,⟨cB HB⟩⟩
     ·have c21b0:(t915 !=t919)=false:=by simpa using c21
      (try(have c21b1:decide (t915=t919)=true:=by simpa using c21))
      (try(have c21b2:(t915==t919)=true:=by simpa using c21))
      clear c21;replace H:=bnd H;obtain⟨t923,A24,H⟩:=H;replace H:=itt H;rcases H with⟨rfl,H⟩|⟨rfl,H⟩
      ·have H':=Aside0.mk H;clear H;obtain⟨Ao26,co26,rfl⟩:=sR HO909;obtain⟨Ao27,co27,rfl⟩:=sR HO913
       go_wp2_with(first|(go_at_call 17;(with_reducible refine(laws_qInts.calls k _ _ t906 _ _ t910 true _ ?_ (lR HO909) ?_ (lR HO913) A19.out).mono ?_);exact rR HO909;exact rR HO913;rintro e w' ⟨rfl,⟨nd,rfl⟩⟩;obtain⟨Ao28,co28,rfl⟩:=sR HO917;obtain⟨Ao29,co29,rfl⟩:=sR HO921)|(go_at_call 17;(with_reducible refine(laws_qInts.calls k _ _ t914 _ _ t918 true _ ?_ (lR HO917) ?_ (lR HO921) A24.out).mono ?_);exact rR HO917;exact rR HO921;rintro e w' ⟨rfl,⟨nd,rfl⟩⟩))
       go_meet
       case rel=>exact⟨_,((t915 !=t907)),eqx,H',⟨omx⟩,mS HO901,mR HO903,mR HO905,mR HO909,mR HO913,mR HO917,mR HO921,⟨cB HB⟩⟩
      ·have H':=Aside0.mk H;clear H;obtain⟨Ao30,co30,rfl⟩:=sR HO909;obtain⟨Ao31,co31,rfl⟩:=sR HO913
       go_wp2_with(first|(go_at_call 17;(with_reducible refine(laws_qInts.calls k _ _ t906 _ _ t910 true _ ?_ (lR HO909) ?_ (lR HO913) A19.out).mono ?_);exact rR HO909;exact rR HO913;rintro e w' ⟨rfl,⟨nd,rfl⟩⟩;obtain⟨Ao32,co32,rfl⟩:=sR HO917;obtain⟨Ao33,co33,rfl⟩:=sR HO921)|(go_at_call 17;(with_reducible refine(laws_qInts.calls k _ _ t914 _ _ t918 false _ ?_ (lR HO917) ?_ (lR HO921) A24.out).mono ?_);exact rR HO917;exact rR HO921;rintro e w' ⟨rfl,⟨nd,rfl⟩⟩))
       go_meet
       case rel=>exact⟨_,(true),eqx,H',⟨omx⟩,mS HO901,mR HO903,mR HO905,mR HO909,mR HO913,mR HO917,mR HO921,⟨cB HB⟩⟩
    ·have H':=Aside0.mk H;clear H;obtain⟨Ao34,co34,rfl⟩:=sR HO909;obtain⟨Ao35,co35,rfl⟩:=sR HO913
     go_wp2_with(first|(go_at_call 17;(with_reducible refine(laws_qInts.calls k _ _ t906 _ _ t910 false _ ?_ (lR HO909) ?_ (lR HO913) A19.out).mono ?_);exact rR HO909;exact rR HO913;rintro e w' ⟨rfl,⟨nd,rfl⟩⟩))
     go_meet
     case rel=>exact⟨_,(true),eqx,H',⟨omx⟩,mS HO901,mR HO903,mR HO905,mR HO909,mR HO913,mR HO917,mR HO921,⟨cB HB⟩⟩
  case rest=>as_aux_lemma=>
   clear HC9;obtain⟨kq,x98_8,rfl,HA,HJ8,HO_5,HO_6,HO_7,HO_8,HO_10,HO_12,HO_14,HB⟩:=hcut;obtain _|kj8:=kq
   ·exact nz HA.out
   have H:=HA.out;clear HA;simp only[laws_FnForced.j0]at H;replace H:=itt H;rcases H with⟨rfl,H⟩|⟨rfl,H⟩
   ·obtain rfl:=Option.some.inj H;go_wp2
    go_ret
    exact⟨erx,cB HB⟩
   ·replace H:=itt H;rcases H with⟨rfl,H⟩|⟨rfl,H⟩
    ·replace H:=bnd H;obtain⟨⟨t924,t925⟩,A38,H⟩:=H;(try dsimp only at H);replace H:=bnd H;obtain⟨⟨t928,t929⟩,A39,H⟩:=H;(try dsimp only at H);replace H:=bnd H;obtain⟨⟨t930,t931⟩,A40,H⟩:=H;(try dsimp only at H);replace H:=bnd H;obtain⟨⟨t932,t933⟩,A41,H⟩:=H;(try dsimp only at H);replace H:=bnd H;obtain⟨⟨t934,t935⟩,A42,H⟩:=H;(try dsimp only at H);replace H:=bnd H;obtain⟨⟨t936,t937⟩,A43,H⟩:=H;(try dsimp only at H);replace H:=bnd H;obtain⟨⟨t938,t939⟩,A44,H⟩:=H;(try dsimp only at H);have HC45:=Aside0.mk H;clear H
     go_upto_region 19 with(first|(refine cal_ 67 (some 104) Try.func67 #[.slice Ao11 t897.length co11,.slice Ao13 t899.length co13] rfl (impl_LeastClosure.calls kj8 _ _ t897 _ _ t899 t924 t925 _ ?_ (lS HO_5) ?_ (lR HO_7) A38.out) ?_;exact rS HO_5;exact rR HO_7;rintro e w46 ⟨v926,rfl,ho0,hb⟩;refine⟨_,rfl,?_⟩;replace HO_5:=aS HO_5 (Kd.R_base ho0) hb;have HO927:=Aside0.mk (Kd.R_lower (Kd.R_new' (Kd.R_new' (nRR (nRR (nRR (nRR ho0 HO_6) HO_7) HO_8) HO_10) (Kd.R_lt (cR HO_12))) (Kd.R_lt (cR HO_14))) (bz HB));replace HO_6:=aR HO_6 (Kd.R_base ho0) hb;replace HO_7:=aR HO_7 (Kd.R_base ho0) hb;replace HO_8:=aR HO_8 (Kd.R_base ho0) hb;replace HO_10:=aR HO_10 (Kd.R_base ho0) hb;replace HO_12:=aR HO_12 (Kd.R_base ho0) hb;replace HO_14:=aR HO_14 (Kd.R_base ho0) hb;replace HB:=bs HB hb;clear hb ho0)|(refine cal_ 43 (some 110) Try.func43 #[.slice Ao11 t897.length co11,.slice Ao12 t898.length co12] rfl (impl_BestValue.calls kj8 _ _ t897 _ _ t898 t928 t929 _ ?_ (lS HO_5) ?_ (lR HO_6) A39.out) ?_;exact rS HO_5;exact rR HO_6;rintro e w47 ⟨rfl,hb⟩;refine⟨_,rfl,?_⟩;replace HO_5:=bS HO_5 hb;replace HO_6:=bR HO_6 hb;replace HO_7:=bR HO_7 hb;replace HO_8:=bR HO_8 hb;replace HO_10:=bR HO_10 hb;replace HO_12:=bR HO_12 hb;replace HO_14:=bR HO_14 hb;replace HO927:=bR HO927 hb;replace HB:=bs HB hb;clear hb;obtain⟨Ao48,co48,rfl⟩:=sR HO_8)|(refine cal_ 51 (some 116) Try.func51 #[.slice Ao12 t898.length co12,.slice Ao48 t906.length co48] rfl (impl_SumOfValues.calls kj8 _ _ t898 _ _ t906 t930 t931 _ ?_ (lR HO_6) ?_ (lR HO_8) A40.out) ?_;exact rR HO_6;exact rR HO_8;rintro e w' ⟨rfl,⟨nd,rfl⟩⟩;refine⟨_,rfl,?_⟩;obtain⟨Ao49,co49,rfl⟩:=sR HO_12)|(refine cal_ 51 (some 122) Try.func51 #[.slice Ao12 t898.length co12,.slice Ao49 t914.length co49] rfl (impl_SumOfValues.calls kj8 _ _ t898 _ _ t914 t932 t933 _ ?_ (lR HO_6) ?_ (lR HO_12) A41.out) ?_;exact rR HO_6;exact rR HO_12;rintro e w' ⟨rfl,⟨nd,rfl⟩⟩;refine⟨_,rfl,?_⟩;obtain⟨Ao50,co50,rfl⟩:=sR HO927)|(refine cal_ 51 (some 128) Try.func51 #[.slice Ao12 t898.length co12,.slice Ao50 t924.length co50] rfl (impl_SumOfValues.calls kj8 _ _ t898 _ _ t924 t934 t935 _ ?_ (lR HO_6) ?_ (lR HO927) A42.out) ?_;exact rR HO_6;exact rR HO927;rintro e w' ⟨rfl,⟨nd,rfl⟩⟩;refine⟨_,rfl,?_⟩)|(refine cal_ 52 (some 134) Try.func52 #[.slice Ao11 t897.length co11,.slice Ao48 t906.length co48] rfl (impl_IsClosure.calls kj8 _ _ t897 _ _ t906 t936 t937 _ ?_ (lS HO_5) ?_ (lR HO_8) A43.out) ?_;exact rS HO_5;exact rR HO_8;rintro e w51 ⟨rfl,hb⟩;refine⟨_,rfl,?_⟩;replace HO_5:=bS HO_5 hb;replace HO_6:=bR HO_6 hb;replace HO_7:=bR HO_7 hb;replace HO_8:=bR HO_8 hb;replace HO_10:=bR HO_10 hb;replace HO_12:=bR HO_12 hb;replace HO_14:=bR HO_14 hb;replace HO927:=bR HO927 hb;replace HB:=bs HB hb;clear hb)|(refine cal_ 52 (some 140) Try.func52 #[.slice Ao11 t897.length co11,.slice Ao49 t914.length co49] rfl (impl_IsClosure.calls kj8 _ _ t897 _ _ t914 t938 t939 _ ?_ (lS HO_5) ?_ (lR HO_12) A44.out) ?_;exact rS HO_5;exact rR HO_12;rintro e w52 ⟨rfl,hb⟩;refine⟨_,rfl,?_⟩;replace HO_5:=bS HO_5 hb;replace HO_6:=bR HO_6 hb;replace HO_7:=bR HO_7 hb;replace HO_8:=bR HO_8 hb;replace HO_10:=bR HO_10 hb;replace HO_12:=bR HO_12 hb;replace HO_14:=bR HO_14 hb;replace HO927:=bR HO927 hb;replace HB:=bs HB hb;clear hb))
     (try simp only[Act.put,List.setIfInBounds_toArray,List.set_cons_zero,List.set_cons_succ])
     go_cut [176] (fun v176 wc=> ∃(kq:Nat) (x176_44:Bool),v176= .bool x176_44∧Aside0 (laws_FnForced.j1 kq t897 t898 t899 t910 t918 t928 t930 t932 t934 x176_44=some r)∧Aside0 (kq≤kj8)∧Aside0 (Kd.S (Kd.slice 3 (Kd.int .i64)) 24 wc w.heap.size (fun k_=>some k_≠((.slice Ao12 t898.length co12):Value).ownBlock∧some k_≠((.slice Ao13 t899.length co13):Value).ownBlock∧some k_≠(v912:Value).ownBlock∧some k_≠(v920:Value).ownBlock) (.slice Ao11 t897.length co11) t897)∧Aside0 (Kd.R (Kd.int .i64) 3 wc w.heap.size (fun k_=>some k_≠((.slice Ao13 t899.length co13):Value).ownBlock∧some k_≠(v912:Value).ownBlock∧some k_≠(v920:Value).ownBlock) (.slice Ao12 t898.length co12) t898)∧Aside0 (Kd.R (Kd.int .i64) 3 wc w.heap.size (fun k_=>some k_≠((.slice Ao12 t898.length co12):Value).ownBlock∧some k_≠(v912:Value).ownBlock∧some k_≠(v920:Value).ownBlock) (.slice Ao13 t899.length co13) t899)∧Aside0 (Kd.R (Kd.int .i64) 3 wc w.heap.size (fun k_=>some k_≠((.slice Ao12 t898.length co12):Value).ownBlock∧some k_≠((.slice Ao13 t899.length co13):Value).ownBlock∧some k_≠(v920:Value).ownBlock) v912 t910)∧Aside0 (Kd.R (Kd.int .i64) 3 wc w.heap.size (fun k_=>some k_≠((.slice Ao12 t898.length co12):Value).ownBlock∧some k_≠((.slice Ao13 t899.length co13):Value).ownBlock∧some k_≠(v912:Value).ownBlock) v920 t918)∧Aside0 (Below w.heap.size w wc))
     case first=>as_aux_lemma=>
      have H:=HC45.out;clear HC45;replace H:=itt H;rcases H with⟨rfl,H⟩|⟨rfl,H⟩
      ·replace H:=itt H;rcases H with⟨rfl,H⟩|⟨rfl,H⟩
       ·replace H:=itt H;rcases H with⟨rfl,H⟩|⟨rfl,H⟩
        ·replace H:=itt H;rcases H with⟨rfl,H⟩|⟨rfl,H⟩
         ·replace H:=itt H;rcases H with⟨rfl,H⟩|⟨rfl,H⟩
          ·replace H:=itt H;rcases H with⟨rfl,H⟩|⟨rfl,H⟩
           ·replace H:=itt H;rcases H with⟨rfl,H⟩|⟨rfl,H⟩
            ·replace H:=itt H;rcases H with⟨rfl,H⟩|⟨rfl,H⟩
             ·have H':=Aside0.mk H;clear H;go_wp2
              go_meet
              case rel=>exact⟨_,(!t938),eqx,H',⟨by have:=HJ8.out;first|omega|exact Nat.le_refl _⟩,mS HO_5,mR HO_6,mR HO_7,mR HO_10,mR HO_14,⟨cB HB⟩⟩
             ·have H':=Aside0.mk H;clear H;go_wp2
              go_meet
              case rel=>exact⟨_,(true),eqx,H',⟨by have:=HJ8.out;first|omega|exact Nat.le_refl _⟩,mS HO_5,mR HO_6,mR HO_7,mR HO_10,mR HO_14,⟨cB HB⟩⟩
            ·have H':=Aside0.mk H;clear H;go_wp2
             go_meet
             case rel=>exact⟨_,(true),eqx,H',⟨by have:=HJ8.out;first|omega|exact Nat.le_refl _⟩,mS HO_5,mR HO_6,mR HO_7,mR HO_10,mR HO_14,⟨cB HB⟩⟩
           ·have H':=Aside0.mk H;clear H;go_wp2
            go_meet
            case rel=>exact⟨_,(true),eqx,H',⟨by have:=HJ8.out;first|omega|exact Nat.le_refl _⟩,mS HO_5,mR HO_6,mR HO_7,mR HO_10,mR HO_14,⟨cB HB⟩⟩
          ·have H':=Aside0.mk H;clear H;go_wp2
           go_meet
           case rel=>exact⟨_,(true),eqx,H',⟨by have:=HJ8.out;first|omega|exact Nat.le_refl _⟩,mS HO_5,mR HO_6,mR HO_7,mR HO_10,mR HO_14,⟨cB HB⟩⟩
         ·have H':=Aside0.mk H;clear H;go_wp2
          go_meet
          case rel=>exact⟨_,(true),eqx,H',⟨by have:=HJ8.out;first|omega|exact Nat.le_refl _⟩,mS HO_5,mR HO_6,mR HO_7,mR HO_10,mR HO_14,⟨cB HB⟩⟩
        ·have H':=Aside0.mk H;clear H;go_wp2
         go_meet
         case rel=>exact⟨_,(true),eqx,H',⟨by have:=HJ8.out;first|omega|exact Nat.le_refl _⟩,mS HO_5,mR HO_6,mR HO_7,mR HO_10,mR HO_14,⟨cB HB⟩⟩
       ·have H':=Aside0.mk H;clear H;go_wp2
        go_meet
        case rel=>exact⟨_,(true),eqx,H',⟨by have:=HJ8.out;first|omega|exact Nat.le_refl _⟩,mS HO_5,mR HO_6,mR HO_7,mR HO_10,mR HO_14,⟨cB HB⟩⟩
      ·have H':=Aside0.mk H;clear H;go_wp2
       go_meet
       case rel=>exact⟨_,(true),eqx,H',⟨by have:=HJ8.out;first|omega|exact Nat.le_refl _⟩,mS HO_5,mR HO_6,mR HO_7,mR HO_10,mR HO_14,⟨cB HB⟩⟩
     case rest=>as_aux_lemma=>
      clear HC45;obtain⟨kq,x176_44,rfl,HA,HJ44,HO_5,HO_6,HO_7,HO_10,HO_14,HB⟩:=hcut;obtain _|kj44:=kq
      ·exact nz HA.out
      have H:=HA.out;clear HA;simp only[laws_FnForced.j1]at H;replace H:=itt H;rcases H with⟨rfl,H⟩|⟨rfl,H⟩
      ·obtain rfl:=Option.some.inj H;go_wp2
       go_ret
       exact⟨erx,cB HB⟩
      ·replace H:=bnd H;obtain⟨⟨t940,t941⟩,A62,H⟩:=H;(try dsimp only at H);replace H:=bnd H;obtain⟨⟨t944,t945⟩,A63,H⟩:=H;(try dsimp only at H);have HC64:=Aside0.mk H;clear H
       go_upto_region 23 with(first|(refine cal_ 15 (some 180) Try.func15 #[.slice Ao11 t897.length co11,.slice Ao12 t898.length co12] rfl (impl_BestPit.calls kj44 _ _ t897 _ _ t898 t940 t941 _ ?_ (lS HO_5) ?_ (lR HO_6) A62.out) ?_;exact rS HO_5;exact rR HO_6;rintro e w65 ⟨v942,rfl,ho0,hb⟩;refine⟨_,rfl,?_⟩;replace HO_5:=aS HO_5 (Kd.R_base ho0) hb;have HO943:=Aside0.mk (Kd.R_lower (nRR (nRR (nRR (nRR ho0 HO_6) HO_7) HO_10) HO_14) (bz HB));replace HO_6:=aR HO_6 (Kd.R_base ho0) hb;replace HO_7:=aR HO_7 (Kd.R_base ho0) hb;replace HO_10:=aR HO_10 (Kd.R_base ho0) hb;replace HO_14:=aR HO_14 (Kd.R_base ho0) hb;replace HB:=bs HB hb;clear hb ho0)|(refine cal_ 16 (some 186) Try.func16 #[.slice Ao11 t897.length co11,.slice Ao12 t898.length co12] rfl (spec_BestPit.calls kj44 _ _ t897 _ _ t898 t944 t945 _ ?_ (lS HO_5) ?_ (lR HO_6) A63.out) ?_;exact rS HO_5;exact rR HO_6;rintro e w66 ⟨v946,rfl,ho0,hb⟩;refine⟨_,rfl,?_⟩;replace HO_5:=aS HO_5 (Kd.R_base ho0) hb;have HO947:=Aside0.mk (Kd.R_lower (Kd.R_new' (nRR (nRR (nRR (nRR ho0 HO_6) HO_7) HO_10) HO_14) (Kd.R_lt (cR HO943))) (bz HB));replace HO_6:=aR HO_6 (Kd.R_base ho0) hb;replace HO_7:=aR HO_7 (Kd.R_base ho0) hb;replace HO_10:=aR HO_10 (Kd.R_base ho0) hb;replace HO_14:=aR HO_14 (Kd.R_base ho0) hb;replace HO943:=aR HO943 (Kd.R_base ho0) hb;replace HB:=bs HB hb;clear hb ho0))
       (try simp only[Act.put,List.setIfInBounds_toArray,List.set_cons_zero,List.set_cons_succ])
       go_cut [200] (fun v200 wc=> ∃(kq:Nat) (x200_63:Bool),v200= .bool x200_63∧Aside0 (laws_FnForced.j2 kq t899 t910 t918 t928 t930 t932 t934 t944 x200_63=some r)∧Aside0 (kq≤kj44)∧Aside0 (Kd.R (Kd.int .i64) 3 wc w.heap.size (fun k_=>some k_≠(v912:Value).ownBlock∧some k_≠(v920:Value).ownBlock∧some k_≠(v946:Value).ownBlock) (.slice Ao13 t899.length co13) t899)∧Aside0 (Kd.R (Kd.int .i64) 3 wc w.heap.size (fun k_=>some k_≠((.slice Ao13 t899.length co13):Value).ownBlock∧some k_≠(v920:Value).ownBlock∧some k_≠(v946:Value).ownBlock) v912 t910)∧Aside0 (Kd.R (Kd.int .i64) 3 wc w.heap.size (fun k_=>some k_≠((.slice Ao13 t899.length co13):Value).ownBlock∧some k_≠(v912:Value).ownBlock∧some k_≠(v946:Value).ownBlock) v920 t918)∧Aside0 (Kd.R (Kd.int .i64) 3 wc w.heap.size (fun k_=>some k_≠((.slice Ao13 t899.length co13):Value).ownBlock∧some k_≠(v912:Value).ownBlock∧some k_≠(v920:Value).ownBlock) v946 t944)∧Aside0 (Below w.heap.size w wc))
       case first=>as_aux_lemma=>
        have H:=HC64.out;clear HC64;replace H:=itt H;rcases H with⟨rfl,H⟩|⟨rfl,H⟩
        ·replace H:=itt H;rcases H with⟨rfl,H⟩|⟨rfl,H⟩
         ·replace H:=bnd H;obtain⟨t948,A69,H⟩:=H
          as_aux_lemma=>
           have H':=Aside0.mk H;clear H;obtain⟨Ao70,co70,rfl⟩:=sR HO943;obtain⟨Ao71,co71,rfl⟩:=sR HO947
           go_wp2_with(first|(go_at_call 17;(with_reducible refine(laws_qInts.calls kj44 _ _ t940 _ _ t944 t948 _ ?_ (lR HO943) ?_ (lR HO947) A69.out).mono ?_);exact rR HO943;exact rR HO947;rintro e w' ⟨rfl,⟨nd,rfl⟩⟩))
           go_meet
           case rel=>exact⟨_,(!t948),eqx,H',⟨by have:=HJ8.out;have:=HJ44.out;first|omega|exact Nat.le_refl _⟩,mR HO_7,mR HO_10,mR HO_14,mR HO947,⟨cB HB⟩⟩
         ·have H':=Aside0.mk H;clear H;go_wp2
          go_meet
          case rel=>exact⟨_,(true),eqx,H',⟨by have:=HJ8.out;have:=HJ44.out;first|omega|exact Nat.le_refl _⟩,mR HO_7,mR HO_10,mR HO_14,mR HO947,⟨cB HB⟩⟩
        ·have H':=Aside0.mk H;clear H;go_wp2
         go_meet
         case rel=>exact⟨_,(true),eqx,H',⟨by have:=HJ8.out;have:=HJ44.out;first|omega|exact Nat.le_refl _⟩,mR HO_7,mR HO_10,mR HO_14,mR HO947,⟨cB HB⟩⟩
       case rest=>as_aux_lemma=>
        clear HC64;obtain⟨kq,x200_63,rfl,HA,HJ63,HO_7,HO_10,HO_14,HO_32,HB⟩:=hcut;obtain _|kj63:=kq
        ·exact nz HA.out
        have H:=HA.out;clear HA;simp only[laws_FnForced.j2]at H;replace H:=itt H;rcases H with⟨rfl,H⟩|⟨rfl,H⟩
        ·obtain rfl:=Option.some.inj H;go_wp2
         go_ret
         exact⟨erx,cB HB⟩
        ·have HC73:=Aside0.mk H;clear H
         go_upto_region 25 with(fail)
         go_cut [219] (fun v219 wc=> ∃(kq:Nat) (x219_72:Bool),v219= .bool x219_72∧Aside0 (laws_FnForced.j3 kq t899 t910 t918 t928 t930 t932 t934 x219_72=some r)∧Aside0 (kq≤kj63)∧Aside0 (Kd.R (Kd.int .i64) 3 wc w.heap.size (fun k_=>some k_≠(v912:Value).ownBlock∧some k_≠(v920:Value).ownBlock) (.slice Ao13 t899.length co13) t899)∧Aside0 (Kd.R (Kd.int .i64) 3 wc w.heap.size (fun k_=>some k_≠((.slice Ao13 t899.length co13):Value).ownBlock∧some k_≠(v920:Value).ownBlock) v912 t910)∧Aside0 (Kd.R (Kd.int .i64) 3 wc w.heap.size (fun k_=>some k_≠((.slice Ao13 t899.length co13):Value).ownBlock∧some k_≠(v912:Value).ownBlock) v920 t918)∧Aside0 (Below w.heap.size w wc))
         case first=>as_aux_lemma=>
          have H:=HC73.out;clear HC73;replace H:=bnd H;obtain⟨t949,A74,H⟩:=H;replace H:=itt H;rcases H with⟨rfl,H⟩|⟨rfl,H⟩
          ·replace H:=itp H;rcases H with⟨c76,H⟩|⟨c76,H⟩
           ·have c76b0:(t930==t928)=true:=beq_iff_eq.mpr c76;have c76b1:(t930 !=t928)=false:=bne_eq_false_iff_eq.mpr c76;clear c76
            (first|rw[c76b0]|(simp only[i64_w,i32_w];rw[c76b0])|skip)
            replace H:=bnd H;obtain⟨t950,A77,H⟩:=H;replace H:=itt H;rcases H with⟨rfl,H⟩|⟨rfl,H⟩
            ·replace H:=bnd H;obtain⟨t951,A79,H⟩:=H
             as_aux_lemma=>
              have H':=Aside0.mk H;clear H;obtain⟨Ao80,co80,rfl⟩:=sR HO_32
              go_wp2_with(first|(refine cal_ 39 (some 203) Try.func39 #[.slice Ao13 t899.length co13,.slice Ao80 t944.length co80] rfl (laws_qIn.calls kj63 _ _ t899 _ _ t944 true _ ?_ (lR HO_7) ?_ (lR HO_32) A74.out) ?_;exact rR HO_7;exact rR HO_32;rintro e w' ⟨rfl,⟨nd,rfl⟩⟩;refine⟨_,rfl,?_⟩)|(go_at_call 39;(with_reducible refine(laws_qIn.calls kj63 _ _ t944 _ _ t899 true _ ?_ (lR HO_32) ?_ (lR HO_7) A77.out).mono ?_);exact rR HO_32;exact rR HO_7;rintro e w' ⟨rfl,⟨nd,rfl⟩⟩;obtain⟨Ao81,co81,rfl⟩:=sR HO_14)|(go_at_call 17;(with_reducible refine(laws_qInts.calls kj63 _ _ t918 _ _ t944 t951 _ ?_ (lR HO_14) ?_ (lR HO_32) A79.out).mono ?_);exact rR HO_14;exact rR HO_32;rintro e w' ⟨rfl,⟨nd,rfl⟩⟩))
              go_meet
              case rel=>exact⟨_,(!t951),eqx,H',⟨by have:=HJ8.out;have:=HJ44.out;have:=HJ63.out;first|omega|exact Nat.le_refl _⟩,mR HO_7,mR HO_10,mR HO_14,⟨cB HB⟩⟩
            ·have H':=Aside0.mk H;clear H;obtain⟨Ao82,co82,rfl⟩:=sR HO_32
             go_wp2_with(first|(refine cal_ 39 (some 203) Try.func39 #[.slice Ao13 t899.length co13,.slice Ao82 t944.length co82] rfl (laws_qIn.calls kj63 _ _ t899 _ _ t944 true _ ?_ (lR HO_7) ?_ (lR HO_32) A74.out) ?_;exact rR HO_7;exact rR HO_32;rintro e w' ⟨rfl,⟨nd,rfl⟩⟩;refine⟨_,rfl,?_⟩)|(go_at_call 39;(with_reducible refine(laws_qIn.calls kj63 _ _ t944 _ _ t899 false _ ?_ (lR HO_32) ?_ (lR HO_7) A77.out).mono ?_);exact rR HO_32;exact rR HO_7;rintro e w' ⟨rfl,⟨nd,rfl⟩⟩))
             go_meet
             case rel=>exact⟨_,(false),eqx,H',⟨by have:=HJ8.out;have:=HJ44.out;have:=HJ63.out;first|omega|exact Nat.le_refl _⟩,mR HO_7,mR HO_10,mR HO_14,⟨cB HB⟩⟩
           ·have c76b0:(t930==t928)=false:=beq_eq_false_iff_ne.mpr c76;have c76b1:(t930 !=t928)=true:=bne_iff_ne.mpr c76
            (first|rw[c76b0]|(simp only[i64_w,i32_w];rw[c76b0])|skip)
            as_aux_lemma=>
             have H':=Aside0.mk H;clear H;obtain⟨Ao83,co83,rfl⟩:=sR HO_32
             go_wp2_with(first|(refine cal_ 39 (some 203) Try.func39 #[.slice Ao13 t899.length co13,.slice Ao83 t944.length co83] rfl (laws_qIn.calls kj63 _ _ t899 _ _ t944 true _ ?_ (lR HO_7) ?_ (lR HO_32) A74.out) ?_;exact rR HO_7;exact rR HO_32;rintro e w' ⟨rfl,⟨nd,rfl⟩⟩;refine⟨_,rfl,?_⟩))
             go_meet
             case rel=>exact⟨_,(true),eqx,H',⟨by have:=HJ8.out;have:=HJ44.out;have:=HJ63.out;first|omega|exact Nat.le_refl _⟩,mR HO_7,mR HO_10,mR HO_14,⟨cB HB⟩⟩
          ·replace H:=bnd H;obtain⟨t952,A84,H⟩:=H;replace H:=itt H;rcases H with⟨rfl,H⟩|⟨rfl,H⟩
           ·replace H:=bnd H;obtain⟨t953,A86,H⟩:=H
            as_aux_lemma=>
             have H':=Aside0.mk H;clear H;obtain⟨Ao87,co87,rfl⟩:=sR HO_32
             go_wp2_with(first|(refine cal_ 39 (some 203) Try.func39 #[.slice Ao13 t899.length co13,.slice Ao87 t944.length co87] rfl (laws_qIn.calls kj63 _ _ t899 _ _ t944 false _ ?_ (lR HO_7) ?_ (lR HO_32) A74.out) ?_;exact rR HO_7;exact rR HO_32;rintro e w' ⟨rfl,⟨nd,rfl⟩⟩;refine⟨_,rfl,?_⟩)|(go_at_call 39;(with_reducible refine(laws_qIn.calls kj63 _ _ t944 _ _ t899 true _ ?_ (lR HO_32) ?_ (lR HO_7) A84.out).mono ?_);exact rR HO_32;exact rR HO_7;rintro e w' ⟨rfl,⟨nd,rfl⟩⟩;obtain⟨Ao88,co88,rfl⟩:=sR HO_14)|(go_at_call 17;(with_reducible refine(laws_qInts.calls kj63 _ _ t918 _ _ t944 t953 _ ?_ (lR HO_14) ?_ (lR HO_32) A86.out).mono ?_);exact rR HO_14;exact rR HO_32;rintro e w' ⟨rfl,⟨nd,rfl⟩⟩))
             go_meet
             case rel=>exact⟨_,(!t953),eqx,H',⟨by have:=HJ8.out;have:=HJ44.out;have:=HJ63.out;first|omega|exact Nat.le_refl _⟩,mR HO_7,mR HO_10,mR HO_14,⟨cB HB⟩⟩
           ·have H':=Aside0.mk H;clear H;obtain⟨Ao89,co89,rfl⟩:=sR HO_32
            go_wp2_with(first|(refine cal_ 39 (some 203) Try.func39 #[.slice Ao13 t899.length co13,.slice Ao89 t944.length co89] rfl (laws_qIn.calls kj63 _ _ t899 _ _ t944 false _ ?_ (lR HO_7) ?_ (lR HO_32) A74.out) ?_;exact rR HO_7;exact rR HO_32;rintro e w' ⟨rfl,⟨nd,rfl⟩⟩;refine⟨_,rfl,?_⟩)|(go_at_call 39;(with_reducible refine(laws_qIn.calls kj63 _ _ t944 _ _ t899 false _ ?_ (lR HO_32) ?_ (lR HO_7) A84.out).mono ?_);exact rR HO_32;exact rR HO_7;rintro e w' ⟨rfl,⟨nd,rfl⟩⟩))
            go_meet
            case rel=>exact⟨_,(false),eqx,H',⟨by have:=HJ8.out;have:=HJ44.out;have:=HJ63.out;first|omega|exact Nat.le_refl _⟩,mR HO_7,mR HO_10,mR HO_14,⟨cB HB⟩⟩
         case rest=>as_aux_lemma=>
          clear HC73;obtain⟨kq,x219_72,rfl,HA,HJ72,HO_7,HO_10,HO_14,HB⟩:=hcut;obtain _|kj72:=kq
          ·exact nz HA.out
          have H:=HA.out;clear HA;simp only[laws_FnForced.j3]at H;replace H:=itt H;rcases H with⟨rfl,H⟩|⟨rfl,H⟩
          ·obtain rfl:=Option.some.inj H;go_wp2
           go_ret
           exact⟨erx,cB HB⟩
          ·replace H:=bnd H;obtain⟨t954,A91,H⟩:=H;replace H:=itt H;rcases H with⟨rfl,H⟩|⟨rfl,H⟩
           ·replace H:=bnd H;obtain⟨t955,A93,H⟩:=H;replace H:=itt H;rcases H with⟨rfl,H⟩|⟨rfl,H⟩
            ·replace H:=itb H;rcases H with⟨c95b0,H⟩|⟨c95b0,H⟩
             ·replace H:=itb H;rcases H with⟨c96b0,H⟩|⟨c96b0,H⟩
              ·replace H:=itb H;rcases H with⟨c97b0,H⟩|⟨c97b0,H⟩
               ·obtain rfl:=Option.some.inj H;obtain⟨Ao98,co98,rfl⟩:=sR HO_10
                go_wp2_with(first|(refine cal_ 39 (some 222) Try.func39 #[.slice Ao13 t899.length co13,.slice Ao98 t910.length co98] rfl (laws_qIn.calls kj72 _ _ t899 _ _ t910 true _ ?_ (lR HO_7) ?_ (lR HO_10) A91.out) ?_;exact rR HO_7;exact rR HO_10;rintro e w' ⟨rfl,⟨nd,rfl⟩⟩;refine⟨_,rfl,?_⟩;obtain⟨Ao99,co99,rfl⟩:=sR HO_14)|(go_at_call 39;(with_reducible refine(laws_qIn.calls kj72 _ _ t918 _ _ t899 true _ ?_ (lR HO_14) ?_ (lR HO_7) A93.out).mono ?_);exact rR HO_14;exact rR HO_7;rintro e w' ⟨rfl,⟨nd,rfl⟩⟩))
                go_ret
                exact⟨erx,cB HB⟩
               ·obtain rfl:=Option.some.inj H;obtain⟨Ao100,co100,rfl⟩:=sR HO_10
                go_wp2_with(first|(refine cal_ 39 (some 222) Try.func39 #[.slice Ao13 t899.length co13,.slice Ao100 t910.length co100] rfl (laws_qIn.calls kj72 _ _ t899 _ _ t910 true _ ?_ (lR HO_7) ?_ (lR HO_10) A91.out) ?_;exact rR HO_7;exact rR HO_10;rintro e w' ⟨rfl,⟨nd,rfl⟩⟩;refine⟨_,rfl,?_⟩;obtain⟨Ao101,co101,rfl⟩:=sR HO_14)|(go_at_call 39;(with_reducible refine(laws_qIn.calls kj72 _ _ t918 _ _ t899 true _ ?_ (lR HO_14) ?_ (lR HO_7) A93.out).mono ?_);exact rR HO_14;exact rR HO_7;rintro e w' ⟨rfl,⟨nd,rfl⟩⟩))
                go_ret
                exact⟨erx,cB HB⟩
              ·obtain rfl:=Option.some.inj H;obtain⟨Ao102,co102,rfl⟩:=sR HO_10
               go_wp2_with(first|(refine cal_ 39 (some 222) Try.func39 #[.slice Ao13 t899.length co13,.slice Ao102 t910.length co102] rfl (laws_qIn.calls kj72 _ _ t899 _ _ t910 true _ ?_ (lR HO_7) ?_ (lR HO_10) A91.out) ?_;exact rR HO_7;exact rR HO_10;rintro e w' ⟨rfl,⟨nd,rfl⟩⟩;refine⟨_,rfl,?_⟩;obtain⟨Ao103,co103,rfl⟩:=sR HO_14)|(go_at_call 39;(with_reducible refine(laws_qIn.calls kj72 _ _ t918 _ _ t899 true _ ?_ (lR HO_14) ?_ (lR HO_7) A93.out).mono ?_);exact rR HO_14;exact rR HO_7;rintro e w' ⟨rfl,⟨nd,rfl⟩⟩))
               go_ret
               exact⟨erx,cB HB⟩
             ·obtain rfl:=Option.some.inj H;obtain⟨Ao104,co104,rfl⟩:=sR HO_10
              go_wp2_with(first|(refine cal_ 39 (some 222) Try.func39 #[.slice Ao13 t899.length co13,.slice Ao104 t910.length co104] rfl (laws_qIn.calls kj72 _ _ t899 _ _ t910 true _ ?_ (lR HO_7) ?_ (lR HO_10) A91.out) ?_;exact rR HO_7;exact rR HO_10;rintro e w' ⟨rfl,⟨nd,rfl⟩⟩;refine⟨_,rfl,?_⟩;obtain⟨Ao105,co105,rfl⟩:=sR HO_14)|(go_at_call 39;(with_reducible refine(laws_qIn.calls kj72 _ _ t918 _ _ t899 true _ ?_ (lR HO_14) ?_ (lR HO_7) A93.out).mono ?_);exact rR HO_14;exact rR HO_7;rintro e w' ⟨rfl,⟨nd,rfl⟩⟩))
              go_ret
              exact⟨erx,cB HB⟩
            ·obtain rfl:=Option.some.inj H;obtain⟨Ao106,co106,rfl⟩:=sR HO_10
             go_wp2_with(first|(refine cal_ 39 (some 222) Try.func39 #[.slice Ao13 t899.length co13,.slice Ao106 t910.length co106] rfl (laws_qIn.calls kj72 _ _ t899 _ _ t910 true _ ?_ (lR HO_7) ?_ (lR HO_10) A91.out) ?_;exact rR HO_7;exact rR HO_10;rintro e w' ⟨rfl,⟨nd,rfl⟩⟩;refine⟨_,rfl,?_⟩;obtain⟨Ao107,co107,rfl⟩:=sR HO_14)|(go_at_call 39;(with_reducible refine(laws_qIn.calls kj72 _ _ t918 _ _ t899 false _ ?_ (lR HO_14) ?_ (lR HO_7) A93.out).mono ?_);exact rR HO_14;exact rR HO_7;rintro e w' ⟨rfl,⟨nd,rfl⟩⟩))
             go_ret
             exact⟨erx,cB HB⟩
           ·obtain rfl:=Option.some.inj H;obtain⟨Ao108,co108,rfl⟩:=sR HO_10
            go_wp2_with(first|(refine cal_ 39 (some 222) Try.func39 #[.slice Ao13 t899.length co13,.slice Ao108 t910.length co108] rfl (laws_qIn.calls kj72 _ _ t899 _ _ t910 false _ ?_ (lR HO_7) ?_ (lR HO_10) A91.out) ?_;exact rR HO_7;exact rR HO_10;rintro e w' ⟨rfl,⟨nd,rfl⟩⟩;refine⟨_,rfl,?_⟩))
            go_ret
            exact⟨erx,cB HB⟩
    ·obtain rfl:=Option.some.inj H;go_wp2
     go_ret
     exact⟨erx,cB HB⟩
end Go.Proofs.Ytlkppimbbbdmbaa.PFnForced
