-- Printed by a changed copy of the printer; impl.bestPit and spec.paFind by contracts walked by hand
import Derived.Test.YtlkppimbbbdmbaaPFnForcedx0
import Derived.Test.YtlkppimbbbdmbaaPFnForcedx3
namespace Go.Proofs.Ytlkppimbbbdmbaa.PFnForced
open Go.RowKit Go.Proofs.YtlkppimbbbdmbaaW.PrintWords Go.Proofs.YtlkppimbbbdmbaaW.PrintLast Go.Proofs.YtlkppimbbbdmbaaW.PrintMore
attribute [local go_sem] max2_int min2_int max_two min_two max_three min_three max_four min_four
set_option linter.unusedVariables false
set_option linter.unusedSimpArgs false
def spec_paFind.f (l0:List (List Int)) (l1:List Int):Option (List Int):=if Go.Proofs.Ytlkppimbbbdmbaa.Flow.fitB l0 l1=true then some (Go.Proofs.Ytlkppimbbbdmbaa.NetQ.idxB (Go.Proofs.Ytlkppimbbbdmbaa.Flow.bestB l0 l1) l0.length)else none
theorem spec_paFind.calls (A0:Option Addr) (c0:Nat) (l0:List (List Int)) (A1:Option Addr) (c1:Nat) (l1:List Int) (r:List Int) (w:World) (hr0:Kd.C (Kd.slice 3 (Kd.int .i64)) w A0 l0.length l0) (hc0:l0.length≤c0) (hr1:Kd.C (Kd.int .i64) w A1 l1.length l1) (hc1:l1.length≤c1) (h:spec_paFind.f l0 l1=some r):
  Calls Try.prog 85 #[.slice A0 l0.length c0,.slice A1 l1.length c1] w fun e w'=> ∃v0_:Value,e= .returned (v0_)∧Kd.R (Kd.int .i64) 3 w' w.heap.size (fun _=>True) v0_ r∧Below w.heap.size w w':=by
 unfold spec_paFind.f at h
 split at h
 ·rename_i hf
  injection h with h
  subst h;exact Go.Proofs.Ytlkppimbbbdmbaa.SRes.find_calls A0 c0 l0 A1 c1 l1 w hr0 hc0 hr1 hc1 (Go.Proofs.Ytlkppimbbbdmbaa.Flow.fitB_iff.1 hf)
 ·cases h
def spec_BestPit.f (k:Nat) (l0:List (List Int)) (l1:List Int):Option (List Int×Bool):=(spec_paGood.f k l0 l1).bind fun t308=>(if t308=true then((spec_paFind.f l0 l1).bind fun t309=>(some (t309,true)))else(some (([]:List Int),false)))
set_option maxHeartbeats 8000000 in
set_option maxRecDepth 100000 in
theorem spec_BestPit.calls (k:Nat) (A0:Option Addr) (c0:Nat) (l0:List (List Int)) (A1:Option Addr) (c1:Nat) (l1:List Int) (r1:List Int) (r2:Bool) (w:World) (hr0:Kd.C (Kd.slice 3 (Kd.int .i64)) w A0 l0.length l0) (hc0:l0.length≤c0) (hr1:Kd.C (Kd.int .i64) w A1 l1.length l1) (hc1:l1.length≤c1) (h:spec_BestPit.f k l0 l1=some (r1,r2)):
  Calls Try.prog 16 #[.slice A0 l0.length c0,.slice A1 l1.length c1] w fun e w'=> ∃v0_:Value,e= .returned (.tuple #[v0_,.bool r2])∧Kd.R (Kd.int .i64) 3 w' w.heap.size (fun _=>True) v0_ r1∧Below w.heap.size w w':=by
 have HR0:=Aside0.mk hr0;have HC0:=Aside0.mk hc0;clear hr0 hc0;have HR1:=Aside0.mk hr1;have HC1:=Aside0.mk hc1;clear hr1 hc1;have HB:=Aside0.mk (Below.refl w.heap.size w);have H:=h;clear h
 unfold spec_BestPit.f at H
 replace H:=bnd H;obtain⟨t308,A3,H⟩:=H;replace H:=itt H;rcases H with⟨rfl,H⟩|⟨rfl,H⟩
 ·replace H:=bnd H;obtain⟨t309,A5,H⟩:=H;simp only[Option.some.injEq,Prod.mk.injEq]at H;obtain⟨rfl,rfl⟩:=H
  go_enter Try.func16,Try.ntmps16
  go_wp2_with(first|(refine cal_ 75 (some 8) Try.func75 #[.slice A0 l0.length c0,.slice A1 l1.length c1] rfl (spec_paGood.calls k _ _ l0 _ _ l1 true _ ?_ HC0.out ?_ HC1.out A3.out) ?_;exact cC HR0;exact cC HR1;rintro e w' ⟨rfl,⟨nd,rfl⟩⟩;refine⟨_,rfl,?_⟩)|(refine cal_ 85 (some 12) Try.func85 #[.slice A0 l0.length c0,.slice A1 l1.length c1] rfl (spec_paFind.calls _ _ l0 _ _ l1 t309 _ ?_ HC0.out ?_ HC1.out A5.out) ?_;exact cC HR0;exact cC HR1;rintro e w6 ⟨v310,rfl,ho0,hb⟩;refine⟨_,rfl,?_⟩;have HO311:=eRr ho0 (bz HB);replace HB:=bs HB hb;clear hb ho0))
  go_ret2
  exact⟨_,erx,by(with_reducible repeat(first|apply Kd.R_alloc|apply Kd.R_drewN|apply Kd.R_drew));exact HO311.out,cB HB⟩
 ·simp only[Option.some.injEq,Prod.mk.injEq]at H;obtain⟨rfl,rfl⟩:=H
  go_enter Try.func16,Try.ntmps16
  go_wp2_with(first|(refine cal_ 75 (some 8) Try.func75 #[.slice A0 l0.length c0,.slice A1 l1.length c1] rfl (spec_paGood.calls k _ _ l0 _ _ l1 false _ ?_ HC0.out ?_ HC1.out A3.out) ?_;exact cC HR0;exact cC HR1;rintro e w' ⟨rfl,⟨nd,rfl⟩⟩;refine⟨_,rfl,?_⟩))
  go_ret2
  exact⟨_,erx,nlx,cB HB⟩
def laws_qInts.l0:Nat→List Int→List Int→Int→Int→Option (Bool)
 |0,_,_,_,_=>none
 |k+1,x0,x1,x12,x13=>if x13<x12 then(if 0≤x13 then(if x13<(x0.length:Int)then(if x13<(x1.length:Int)then(if(rd x0 x13)=(rd x1 x13)then(laws_qInts.l0 k x0 x1 x12 (wrap64 (x13+1)))else(some false))else(none))else(none))else(none))else(some true)
def laws_qInts.f (k:Nat) (l0:List Int) (l1:List Int):Option (Bool):=if(l0.length:Int)=(l1.length:Int)then(laws_qInts.l0 k l0 l1 (l0.length:Int) 0)else(some false)
set_option maxHeartbeats 8000000 in
set_option maxRecDepth 100000 in
theorem laws_qInts.calls (k:Nat) (A0:Option Addr) (c0:Nat) (l0:List Int) (A1:Option Addr) (c1:Nat) (l1:List Int) (r:Bool) (w:World) (hr0:Kd.C (Kd.int .i64) w A0 l0.length l0) (hc0:l0.length≤c0) (hr1:Kd.C (Kd.int .i64) w A1 l1.length l1) (hc1:l1.length≤c1) (h:laws_qInts.f k l0 l1=some r):
  Calls Try.prog 17 #[.slice A0 l0.length c0,.slice A1 l1.length c1] w fun e w'=>e= .returned (.bool r)∧Drawn0 w w':=by
 have HR0:=Aside0.mk hr0;have HC0:=Aside0.mk hc0;clear hr0 hc0;have HR1:=Aside0.mk hr1;have HC1:=Aside0.mk hc1;clear hr1 hc1;have H:=h;clear h
 unfold laws_qInts.f at H
 replace H:=itp H;rcases H with⟨c3,H⟩|⟨c3,H⟩
 ·have c3b0:((l0.length:Int)==(l1.length:Int))=true:=beq_iff_eq.mpr c3;have c3b1:((l0.length:Int) !=(l1.length:Int))=false:=bne_eq_false_iff_eq.mpr c3;have c3b2:(l0.length==l1.length)=true:=by first|simpa using c3|(simp at c3⊢;omega)
  clear c3;have H':=Aside0.mk H;clear H
  go_enter Try.func17,Try.ntmps17
  go_wp2
  repeat(go_quiet(fail);try go_wp2)
  go_loopg [13] k (fun kq v13 w'=> ∃(x13_1:Int),v13= .int .i64 x13_1∧Aside0 (laws_qInts.l0 kq l0 l1 (l0.length:Int) x13_1=some r)∧Aside0 (kq≤k)∧Drawn0 w w')
  case atStart=>exact⟨(0),eqx,H',⟨Nat.le_refl _⟩,d0x⟩
  case round=>
   clear H';obtain⟨x13_1,rfl,HA,HK1,⟨m1,rfl⟩⟩:=hrel;obtain _|k1:=gk
   ·exact nz HA.out
   have H:=HA.out;clear HA;simp only[laws_qInts.l0]at H;replace H:=itb H;rcases H with⟨c4b0,H⟩|⟨c4b0,H⟩
   ·replace H:=itd H;obtain⟨c5b0,H⟩:=H;replace H:=itd H;obtain⟨c6b0,H⟩:=H;replace H:=itd H;obtain⟨c7b0,H⟩:=H;replace H:=itp H;rcases H with⟨c8,H⟩|⟨c8,H⟩
    ·have c8b0:((rd l0 x13_1)==(rd l1 x13_1))=true:=beq_iff_eq.mpr c8;have c8b1:((rd l0 x13_1) !=(rd l1 x13_1))=false:=bne_eq_false_iff_eq.mpr c8;clear c8;have H':=Aside0.mk H;clear H;obtain⟨ad312,e312,hx312_0,p312,q312⟩:=ldi (i:=x13_1) HR0.out;cases e312;obtain⟨ad313,e313,hx313_0,p313,q313⟩:=ldi (i:=x13_1) HR1.out;cases e313;go_wp2
     repeat(go_quiet(fail);try go_wp2)
     go_roundg k1
     case measure=>have:=HK1.out;omega
     case rel=>exact⟨(wrap64 (x13_1+1)),eqx,H',⟨by have:=HK1.out;omega⟩,d0x⟩
    ·have c8b0:((rd l0 x13_1)==(rd l1 x13_1))=false:=beq_eq_false_iff_ne.mpr c8;have c8b1:((rd l0 x13_1) !=(rd l1 x13_1))=true:=bne_iff_ne.mpr c8;obtain rfl:=Option.some.inj H;obtain⟨ad312,e312,hx312_0,p312,q312⟩:=ldi (i:=x13_1) HR0.out;cases e312;obtain⟨ad313,e313,hx313_0,p313,q313⟩:=ldi (i:=x13_1) HR1.out;cases e313;go_wp2
     repeat(go_quiet(fail);try go_wp2)
     go_ret
     exact⟨eqx,d0x⟩
   ·obtain rfl:=Option.some.inj H;go_wp2
    repeat(go_quiet(fail);try go_wp2)
    go_ret
    exact⟨eqx,d0x⟩
 ·have c3b0:((l0.length:Int)==(l1.length:Int))=false:=beq_eq_false_iff_ne.mpr c3;have c3b1:((l0.length:Int) !=(l1.length:Int))=true:=bne_iff_ne.mpr c3;have c3b2:(l0.length==l1.length)=false:=by first|simpa using c3|(simp at c3⊢;omega)
  obtain rfl:=Option.some.inj H
  go_enter Try.func17,Try.ntmps17
  go_wp2
  repeat(go_quiet(fail);try go_wp2)
  go_ret
  exact⟨eqx,d0x⟩
def laws_qHas.l0:Nat→Int→List Int→Int→Int→Option (Bool)
 |0,_,_,_,_=>none
 |k+1,x1,x7,x8,x9=>if x9<x8 then(if 0≤x9 then(if x9<(x7.length:Int)then(if(rd x7 x9)=x1 then(some true)else(laws_qHas.l0 k x1 x7 x8 (wrap64 (x9+1))))else(none))else(none))else(some false)
def laws_qHas.f (k:Nat) (l0:List Int) (a1:Int):Option (Bool):=laws_qHas.l0 k a1 l0 (l0.length:Int) 0
set_option maxHeartbeats 8000000 in
set_option maxRecDepth 100000 in
theorem laws_qHas.calls (k:Nat) (A0:Option Addr) (c0:Nat) (l0:List Int) (a1:Int) (r:Bool) (w:World) (hr0:Kd.C (Kd.int .i64) w A0 l0.length l0) (hc0:l0.length≤c0) (h:laws_qHas.f k l0 a1=some r):
  Calls Try.prog 18 #[.slice A0 l0.length c0,.int .i64 a1] w fun e w'=>e= .returned (.bool r)∧Drawn0 w w':=by
 have HR0:=Aside0.mk hr0;have HC0:=Aside0.mk hc0;clear hr0 hc0;have H:=h;clear h
 unfold laws_qHas.f at H
 have H':=Aside0.mk H;clear H
 go_enter Try.func18,Try.ntmps18
 go_wp2
 go_loopg [9] k (fun kq v9 w'=> ∃(x9_1:Int),v9= .int .i64 x9_1∧Aside0 (laws_qHas.l0 kq a1 l0 (l0.length:Int) x9_1=some r)∧Aside0 (kq≤k)∧Drawn0 w w')
 case atStart=>exact⟨(0),eqx,H',⟨Nat.le_refl _⟩,d0x⟩
 case round=>
  clear H';obtain⟨x9_1,rfl,HA,HK1,⟨m1,rfl⟩⟩:=hrel;obtain _|k1:=gk
  ·exact nz HA.out
  have H:=HA.out;clear HA;simp only[laws_qHas.l0]at H;replace H:=itb H;rcases H with⟨c3b0,H⟩|⟨c3b0,H⟩
  ·replace H:=itd H;obtain⟨c4b0,H⟩:=H;replace H:=itd H;obtain⟨c5b0,H⟩:=H;replace H:=itp H;rcases H with⟨c6,H⟩|⟨c6,H⟩
   ·have c6b0:((rd l0 x9_1)==a1)=true:=beq_iff_eq.mpr c6;have c6b1:((rd l0 x9_1) !=a1)=false:=bne_eq_false_iff_eq.mpr c6;clear c6;obtain rfl:=Option.some.inj H;obtain⟨ad314,e314,hx314_0,p314,q314⟩:=ldi (i:=x9_1) HR0.out;cases e314;go_wp2
    go_ret
    exact⟨eqx,d0x⟩
   ·have c6b0:((rd l0 x9_1)==a1)=false:=beq_eq_false_iff_ne.mpr c6;have c6b1:((rd l0 x9_1) !=a1)=true:=bne_iff_ne.mpr c6;have H':=Aside0.mk H;clear H;obtain⟨ad314,e314,hx314_0,p314,q314⟩:=ldi (i:=x9_1) HR0.out;cases e314;go_wp2
    go_roundg k1
    case measure=>have:=HK1.out;omega
    case rel=>exact⟨(wrap64 (x9_1+1)),eqx,H',⟨by have:=HK1.out;omega⟩,d0x⟩
  ·obtain rfl:=Option.some.inj H;go_wp2
   go_ret
   exact⟨eqx,d0x⟩
end Go.Proofs.Ytlkppimbbbdmbaa.PFnForced
