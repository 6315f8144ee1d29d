-- Printed by a changed copy of the printer; impl.bestPit and spec.paFind by contracts walked by hand
import Derived.Test.YtlkppimbbbdmbaaPFnFactorsx0
import Derived.Test.YtlkppimbbbdmbaaPFnFactorsx1
namespace Go.Proofs.Ytlkppimbbbdmbaa.PFnFactors
open Go.RowKit Go.Proofs.YtlkppimbbbdmbaaW.PrintWords Go.Proofs.YtlkppimbbbdmbaaW.PrintLast Go.Proofs.YtlkppimbbbdmbaaW.PrintMore
attribute [local go_sem] max2_int min2_int max_two min_two max_three min_three max_four min_four
set_option linter.unusedVariables false
set_option linter.unusedSimpArgs false
def impl_bestPit.f0 (l0:List (List Int)) (l1:List Int):Option (List Bool):=if 1≤l0.length∧l1.length=l0.length∧Go.Proofs.Ytlkppimbbbdmbaa.Flow.fitB l0 (Go.Proofs.Ytlkppimbbbdmbaa.Res.freeV l1 [] [] l0.length)=true then some (Go.Proofs.Ytlkppimbbbdmbaa.Res.resB l0 l1 [] [])else none
theorem impl_bestPit.calls_0 (A0:Option Addr) (c0:Nat) (l0:List (List Int)) (A1:Option Addr) (c1:Nat) (l1:List Int) (A2:Option Addr) (c2:Nat) (l2:List Bool) (A3:Option Addr) (c3:Nat) (l3:List Bool) (a4:Bool) (r:List Bool) (w:World) (hr0:Kd.C (Kd.slice 3 (Kd.int .i64)) w A0 l0.length l0) (hc0:l0.length≤c0) (hr1:Kd.C (Kd.int .i64) w A1 l1.length l1) (hc1:l1.length≤c1) (hr2:Kd.C Kd.bool w A2 l2.length l2) (hc2:l2.length≤c2) (hr3:Kd.C Kd.bool w A3 l3.length l3) (hc3:l3.length≤c3) (h:impl_bestPit.f0 l0 l1=some r):
  Calls Try.prog 79 #[.slice A0 l0.length c0,.slice A1 l1.length c1,.slice none 0 0,.slice none 0 0,.bool false] w fun e w'=> ∃v0_:Value,e= .returned (v0_)∧Kd.V Kd.bool 4 w' w.heap.size (fun k_=>(w.heap.size≤k_)) v0_ r∧Below w.heap.size w w':=by
 unfold impl_bestPit.f0 at h
 split at h
 ·rename_i hf
  injection h with h
  subst h;exact Go.Proofs.Ytlkppimbbbdmbaa.Res.bestPit_calls A0 c0 l0 A1 c1 l1 _ _ [] [] w hr0 hc0 hr1 hc1 (.inl ⟨rfl,rfl⟩) (.inl ⟨rfl,rfl⟩) hf.1 hf.2.1 (Go.Proofs.Ytlkppimbbbdmbaa.Flow.fitB_iff.1 hf.2.2)
 ·cases h
def impl_BestPit.f (k:Nat) (l0:List (List Int)) (l1:List Int):Option (List Int×Bool):=(impl_areValued.f k l0 l1).bind fun t201=>(if t201=true then((impl_bestPit.f0 l0 l1).bind fun t202=>((impl_listOf.f k t202).bind fun t205=>(some (t205,true))))else(some (([]:List Int),false)))
set_option maxHeartbeats 8000000 in
set_option maxRecDepth 100000 in
theorem impl_BestPit.calls (k:Nat) (A0:Option Addr) (c0:Nat) (l0:List (List Int)) (A1:Option Addr) (c1:Nat) (l1:List Int) (r1:List Int) (r2:Bool) (w:World) (hr0:Kd.C (Kd.slice 3 (Kd.int .i64)) w A0 l0.length l0) (hc0:l0.length≤c0) (hr1:Kd.C (Kd.int .i64) w A1 l1.length l1) (hc1:l1.length≤c1) (h:impl_BestPit.f k l0 l1=some (r1,r2)):
  Calls Try.prog 15 #[.slice A0 l0.length c0,.slice A1 l1.length c1] w fun e w'=> ∃v0_:Value,e= .returned (.tuple #[v0_,.bool r2])∧Kd.R (Kd.int .i64) 3 w' w.heap.size (fun _=>True) v0_ r1∧Below w.heap.size w w':=by
 have HR0:=Aside0.mk hr0;have HC0:=Aside0.mk hc0;clear hr0 hc0;have HR1:=Aside0.mk hr1;have HC1:=Aside0.mk hc1;clear hr1 hc1;have HB:=Aside0.mk (Below.refl w.heap.size w);have H:=h;clear h
 unfold impl_BestPit.f at H
 replace H:=bnd H;obtain⟨t201,A3,H⟩:=H;replace H:=itt H;rcases H with⟨rfl,H⟩|⟨rfl,H⟩
 ·replace H:=bnd H;obtain⟨t202,A5,H⟩:=H;replace H:=bnd H;obtain⟨t205,A6,H⟩:=H;simp only[Option.some.injEq,Prod.mk.injEq]at H;obtain⟨rfl,rfl⟩:=H
  go_enter Try.func15,Try.ntmps15
  go_wp2_with(first|(refine cal_ 73 (some 8) Try.func73 #[.slice A0 l0.length c0,.slice A1 l1.length c1] rfl (impl_areValued.calls k _ _ l0 _ _ l1 true _ ?_ HC0.out ?_ HC1.out A3.out) ?_;exact cC HR0;exact cC HR1;rintro e w' ⟨rfl,⟨nd,rfl⟩⟩;refine⟨_,rfl,?_⟩)|((with_reducible refine gate_callee (f:=79) rfl ?_);refine goesL_ (some 12) rfl rfl Try.func79 (by kernel_rfl) rfl #[.slice A0 l0.length c0,.slice A1 l1.length c1,.slice none 0 0,.slice none 0 0,.bool false] rfl (by(try simp only[List.map_toArray,List.map_cons,List.map_nil]);first|done|rfl|(simp only[List.length_drop,List.length_take];rfl)) ?_;(refine(impl_bestPit.calls_0 _ _ l0 _ _ l1 none 0 ([]:List Bool) none 0 ([]:List Bool) false t202 _ ?side1 ?side2 ?side3 ?side4 ?side5 ?side6 ?side7 ?side8 A5.out).mono ?_);(case side1=>exact cC HR0);(case side2=>exact HC0.out);(case side3=>exact cC HR1);(case side4=>exact HC1.out);(case side5=>exact Kd.C_nil _ _);(case side6=>exact Nat.le_refl _);(case side7=>exact Kd.C_nil _ _);(case side8=>exact Nat.le_refl _);rintro e w7 ⟨v203,rfl,ho0,hb⟩;refine⟨_,rfl,?_⟩;have HO204:=Aside0.mk (Kd.V_lower (Kd.V_mono (ok':=fun k_=>True) ho0 (fun k_ hk_=>trivial)) (bz HB));replace HB:=bs HB hb;clear hb ho0;obtain⟨Ao8,co8,rfl⟩:=sV HO204)|(refine cal_ 78 (some 13) Try.func78 #[.slice Ao8 t202.length co8] rfl (impl_listOf.calls k _ _ t202 t205 _ ?_ (lV HO204) A6.out) ?_;exact rV HO204;rintro e w9 ⟨v206,rfl,ho0,hb⟩;refine⟨_,rfl,?_⟩;replace HO204:=Aside0.mk (Kd.V_elder' (cV HO204) (Kd.R_base ho0) hb);have HO207:=eRr ho0 (bz HB);replace HB:=bs HB hb;clear hb ho0))
  go_ret2
  exact⟨_,erx,by(with_reducible repeat(first|apply Kd.R_alloc|apply Kd.R_drewN|apply Kd.R_drew));exact HO207.out,cB HB⟩
 ·simp only[Option.some.injEq,Prod.mk.injEq]at H;obtain⟨rfl,rfl⟩:=H
  go_enter Try.func15,Try.ntmps15
  go_wp2_with(first|(refine cal_ 73 (some 8) Try.func73 #[.slice A0 l0.length c0,.slice A1 l1.length c1] rfl (impl_areValued.calls k _ _ l0 _ _ l1 false _ ?_ HC0.out ?_ HC1.out A3.out) ?_;exact cC HR0;exact cC HR1;rintro e w' ⟨rfl,⟨nd,rfl⟩⟩;refine⟨_,rfl,?_⟩))
  go_ret2
  exact⟨_,erx,nlx,cB HB⟩
def laws_qInts.l0:Nat→List Int→List Int→Int→Int→Option (Bool)
 |0,_,_,_,_=>none
 |k+1,x0,x1,x12,x13=>if x13<x12 then(if 0≤x13 then(if x13<(x0.length:Int)then(if x13<(x1.length:Int)then(if(rd x0 x13)=(rd x1 x13)then(laws_qInts.l0 k x0 x1 x12 (wrap64 (x13+1)))else(some false))else(none))else(none))else(none))else(some true)
def laws_qInts.f (k:Nat) (l0:List Int) (l1:List Int):Option (Bool):=if(l0.length:Int)=(l1.length:Int)then(laws_qInts.l0 k l0 l1 (l0.length:Int) 0)else(some false)
set_option maxHeartbeats 8000000 in
set_option maxRecDepth 100000 in
theorem laws_qInts.calls (k:Nat) (A0:Option Addr) (c0:Nat) (l0:List Int) (A1:Option Addr) (c1:Nat) (l1:List Int) (r:Bool) (w:World) (hr0:Kd.C (Kd.int .i64) w A0 l0.length l0) (hc0:l0.length≤c0) (hr1:Kd.C (Kd.int .i64) w A1 l1.length l1) (hc1:l1.length≤c1) (h:laws_qInts.f k l0 l1=some r):
  Calls Try.prog 17 #[.slice A0 l0.length c0,.slice A1 l1.length c1] w fun e w'=>e= .returned (.bool r)∧Drawn0 w w':=by
 have HR0:=Aside0.mk hr0;have HC0:=Aside0.mk hc0;clear hr0 hc0;have HR1:=Aside0.mk hr1;have HC1:=Aside0.mk hc1;clear hr1 hc1;have H:=h;clear h
 unfold laws_qInts.f at H
 replace H:=itp H;rcases H with⟨c3,H⟩|⟨c3,H⟩
 ·have c3b0:((l0.length:Int)==(l1.length:Int))=true:=beq_iff_eq.mpr c3;have c3b1:((l0.length:Int) !=(l1.length:Int))=false:=bne_eq_false_iff_eq.mpr c3;have c3b2:(l0.length==l1.length)=true:=by first|simpa using c3|(simp at c3⊢;omega)
  clear c3;have H':=Aside0.mk H;clear H
  go_enter Try.func17,Try.ntmps17
  go_wp2
  repeat(go_quiet(fail);try go_wp2)
  go_loopg [13] k (fun kq v13 w'=> ∃(x13_1:Int),v13= .int .i64 x13_1∧Aside0 (laws_qInts.l0 kq l0 l1 (l0.length:Int) x13_1=some r)∧Aside0 (kq≤k)∧Drawn0 w w')
  case atStart=>exact⟨(0),eqx,H',⟨Nat.le_refl _⟩,d0x⟩
  case round=>
   clear H';obtain⟨x13_1,rfl,HA,HK1,⟨m1,rfl⟩⟩:=hrel;obtain _|k1:=gk
   ·exact nz HA.out
   have H:=HA.out;clear HA;simp only[laws_qInts.l0]at H;replace H:=itb H;rcases H with⟨c4b0,H⟩|⟨c4b0,H⟩
   ·replace H:=itd H;obtain⟨c5b0,H⟩:=H;replace H:=itd H;obtain⟨c6b0,H⟩:=H;replace H:=itd H;obtain⟨c7b0,H⟩:=H;replace H:=itp H;rcases H with⟨c8,H⟩|⟨c8,H⟩
    ·have c8b0:((rd l0 x13_1)==(rd l1 x13_1))=true:=beq_iff_eq.mpr c8;have c8b1:((rd l0 x13_1) !=(rd l1 x13_1))=false:=bne_eq_false_iff_eq.mpr c8;clear c8;have H':=Aside0.mk H;clear H;obtain⟨ad208,e208,hx208_0,p208,q208⟩:=ldi (i:=x13_1) HR0.out;cases e208;obtain⟨ad209,e209,hx209_0,p209,q209⟩:=ldi (i:=x13_1) HR1.out;cases e209;go_wp2
     repeat(go_quiet(fail);try go_wp2)
     go_roundg k1
     case measure=>have:=HK1.out;omega
     case rel=>exact⟨(wrap64 (x13_1+1)),eqx,H',⟨by have:=HK1.out;omega⟩,d0x⟩
    ·have c8b0:((rd l0 x13_1)==(rd l1 x13_1))=false:=beq_eq_false_iff_ne.mpr c8;have c8b1:((rd l0 x13_1) !=(rd l1 x13_1))=true:=bne_iff_ne.mpr c8;obtain rfl:=Option.some.inj H;obtain⟨ad208,e208,hx208_0,p208,q208⟩:=ldi (i:=x13_1) HR0.out;cases e208;obtain⟨ad209,e209,hx209_0,p209,q209⟩:=ldi (i:=x13_1) HR1.out;cases e209;go_wp2
     repeat(go_quiet(fail);try go_wp2)
     go_ret
     exact⟨eqx,d0x⟩
   ·obtain rfl:=Option.some.inj H;go_wp2
    repeat(go_quiet(fail);try go_wp2)
    go_ret
    exact⟨eqx,d0x⟩
 ·have c3b0:((l0.length:Int)==(l1.length:Int))=false:=beq_eq_false_iff_ne.mpr c3;have c3b1:((l0.length:Int) !=(l1.length:Int))=true:=bne_iff_ne.mpr c3;have c3b2:(l0.length==l1.length)=false:=by first|simpa using c3|(simp at c3⊢;omega)
  obtain rfl:=Option.some.inj H
  go_enter Try.func17,Try.ntmps17
  go_wp2
  repeat(go_quiet(fail);try go_wp2)
  go_ret
  exact⟨eqx,d0x⟩
end Go.Proofs.Ytlkppimbbbdmbaa.PFnFactors
