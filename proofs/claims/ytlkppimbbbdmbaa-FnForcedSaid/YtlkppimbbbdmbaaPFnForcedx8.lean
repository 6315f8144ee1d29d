-- Printed by a changed copy of the printer; impl.bestPit and spec.paFind by contracts walked by hand
import Derived.Test.YtlkppimbbbdmbaaPFnForcedx0
import Derived.Test.YtlkppimbbbdmbaaPFnForcedx7
namespace Go.Proofs.Ytlkppimbbbdmbaa.PFnForced
open Go.RowKit Go.Proofs.YtlkppimbbbdmbaaW.PrintWords Go.Proofs.YtlkppimbbbdmbaaW.PrintLast Go.Proofs.YtlkppimbbbdmbaaW.PrintMore
attribute [local go_sem] max2_int min2_int max_two min_two max_three min_three max_four min_four
set_option linter.unusedVariables false
set_option linter.unusedSimpArgs false
def spec_slHas.f (a0:Int) (a1:Int) (a2:Int) (a3:Int):Option (Bool):=(spec_l1Abs.f a1).bind fun t448=>((spec_l1Abs.f a2).bind fun t449=>(if a0=1 then(if a3=1 then(some ((wrap64 (t448+t449))==0))else(some false))else(if a0=2 then(if a3=1 then(some (decide ((wrap64 (t448+t449))≤1)))else(some false))else(if a0=3 then(if a3=1 then((spec_l1Abs.f a1).bind fun t450=>(if t450≤1 then((spec_l1Abs.f a2).bind fun t451=>(some (decide (t451≤1))))else(some false)))else(some false))else(if a3=1 then(if(wrap64 (t448+t449))≤1 then(some true)else(if a3=2 then(if(wrap64 (t448+t449))=2 then(some ((wrap64 (a1*a2))==0))else(some false))else(some false)))else(if a3=2 then(if(wrap64 (t448+t449))=2 then(some ((wrap64 (a1*a2))==0))else(some false))else(some false)))))))
set_option maxHeartbeats 8000000 in
set_option maxRecDepth 100000 in
theorem spec_slHas.calls (a0:Int) (a1:Int) (a2:Int) (a3:Int) (r:Bool) (w:World) (h:spec_slHas.f a0 a1 a2 a3=some r):
  Calls Try.prog 166 #[.int .i64 a0,.int .i64 a1,.int .i64 a2,.int .i64 a3] w fun e w'=>e= .returned (.bool r)∧Drawn0 w w':=by
 have H:=h;clear h
 unfold spec_slHas.f at H
 replace H:=bnd H;obtain⟨t448,A5,H⟩:=H;replace H:=bnd H;obtain⟨t449,A6,H⟩:=H;replace H:=itp H;rcases H with⟨c7,H⟩|⟨c7,H⟩
 ·have c7b0:(a0==1)=true:=beq_iff_eq.mpr c7;have c7b1:(a0 !=1)=false:=bne_eq_false_iff_eq.mpr c7;clear c7;replace H:=itp H;rcases H with⟨c8,H⟩|⟨c8,H⟩
  ·have c8b0:(a3==1)=true:=beq_iff_eq.mpr c8;have c8b1:(a3 !=1)=false:=bne_eq_false_iff_eq.mpr c8;clear c8;obtain rfl:=Option.some.inj H
   go_enter Try.func166,Try.ntmps166
   go_wp2_with(first|(refine cal_ 102 (some 11) Try.func102 #[.int .i64 a1] rfl (spec_l1Abs.calls a1 t448 _ A5.out) ?_;rintro e w' ⟨rfl,⟨nd,rfl⟩⟩;refine⟨_,rfl,?_⟩)|(refine cal_ 102 (some 13) Try.func102 #[.int .i64 a2] rfl (spec_l1Abs.calls a2 t449 _ A6.out) ?_;rintro e w' ⟨rfl,⟨nd,rfl⟩⟩;refine⟨_,rfl,?_⟩))
   go_ret
   exact⟨eqx,d0x⟩
  ·have c8b0:(a3==1)=false:=beq_eq_false_iff_ne.mpr c8;have c8b1:(a3 !=1)=true:=bne_iff_ne.mpr c8;obtain rfl:=Option.some.inj H
   go_enter Try.func166,Try.ntmps166
   go_wp2_with(first|(refine cal_ 102 (some 11) Try.func102 #[.int .i64 a1] rfl (spec_l1Abs.calls a1 t448 _ A5.out) ?_;rintro e w' ⟨rfl,⟨nd,rfl⟩⟩;refine⟨_,rfl,?_⟩)|(refine cal_ 102 (some 13) Try.func102 #[.int .i64 a2] rfl (spec_l1Abs.calls a2 t449 _ A6.out) ?_;rintro e w' ⟨rfl,⟨nd,rfl⟩⟩;refine⟨_,rfl,?_⟩))
   go_ret
   exact⟨eqx,d0x⟩
 ·have c7b0:(a0==1)=false:=beq_eq_false_iff_ne.mpr c7;have c7b1:(a0 !=1)=true:=bne_iff_ne.mpr c7;replace H:=itp H;rcases H with⟨c9,H⟩|⟨c9,H⟩
  ·have c9b0:(a0==2)=true:=beq_iff_eq.mpr c9;have c9b1:(a0 !=2)=false:=bne_eq_false_iff_eq.mpr c9;clear c9;replace H:=itp H;rcases H with⟨c10,H⟩|⟨c10,H⟩
   ·have c10b0:(a3==1)=true:=beq_iff_eq.mpr c10;have c10b1:(a3 !=1)=false:=bne_eq_false_iff_eq.mpr c10;clear c10;obtain rfl:=Option.some.inj H
    go_enter Try.func166,Try.ntmps166
    go_wp2_with(first|(refine cal_ 102 (some 11) Try.func102 #[.int .i64 a1] rfl (spec_l1Abs.calls a1 t448 _ A5.out) ?_;rintro e w' ⟨rfl,⟨nd,rfl⟩⟩;refine⟨_,rfl,?_⟩)|(refine cal_ 102 (some 13) Try.func102 #[.int .i64 a2] rfl (spec_l1Abs.calls a2 t449 _ A6.out) ?_;rintro e w' ⟨rfl,⟨nd,rfl⟩⟩;refine⟨_,rfl,?_⟩))
    go_ret
    exact⟨eqx,d0x⟩
   ·have c10b0:(a3==1)=false:=beq_eq_false_iff_ne.mpr c10;have c10b1:(a3 !=1)=true:=bne_iff_ne.mpr c10;obtain rfl:=Option.some.inj H
    go_enter Try.func166,Try.ntmps166
    go_wp2_with(first|(refine cal_ 102 (some 11) Try.func102 #[.int .i64 a1] rfl (spec_l1Abs.calls a1 t448 _ A5.out) ?_;rintro e w' ⟨rfl,⟨nd,rfl⟩⟩;refine⟨_,rfl,?_⟩)|(refine cal_ 102 (some 13) Try.func102 #[.int .i64 a2] rfl (spec_l1Abs.calls a2 t449 _ A6.out) ?_;rintro e w' ⟨rfl,⟨nd,rfl⟩⟩;refine⟨_,rfl,?_⟩))
    go_ret
    exact⟨eqx,d0x⟩
  ·have c9b0:(a0==2)=false:=beq_eq_false_iff_ne.mpr c9;have c9b1:(a0 !=2)=true:=bne_iff_ne.mpr c9;replace H:=itp H;rcases H with⟨c11,H⟩|⟨c11,H⟩
   ·have c11b0:(a0==3)=true:=beq_iff_eq.mpr c11;have c11b1:(a0 !=3)=false:=bne_eq_false_iff_eq.mpr c11;clear c11;replace H:=itp H;rcases H with⟨c12,H⟩|⟨c12,H⟩
    ·have c12b0:(a3==1)=true:=beq_iff_eq.mpr c12;have c12b1:(a3 !=1)=false:=bne_eq_false_iff_eq.mpr c12;clear c12;replace H:=bnd H;obtain⟨t450,A13,H⟩:=H;replace H:=itb H;rcases H with⟨c14b0,H⟩|⟨c14b0,H⟩
     ·replace H:=bnd H;obtain⟨t451,A15,H⟩:=H;obtain rfl:=Option.some.inj H
      go_enter Try.func166,Try.ntmps166
      go_wp2_with(first|(refine cal_ 102 (some 11) Try.func102 #[.int .i64 a1] rfl (spec_l1Abs.calls a1 t448 _ A5.out) ?_;rintro e w' ⟨rfl,⟨nd,rfl⟩⟩;refine⟨_,rfl,?_⟩)|(refine cal_ 102 (some 13) Try.func102 #[.int .i64 a2] rfl (spec_l1Abs.calls a2 t449 _ A6.out) ?_;rintro e w' ⟨rfl,⟨nd,rfl⟩⟩;refine⟨_,rfl,?_⟩)|(go_at_call 102;(with_reducible refine(spec_l1Abs.calls a1 t450 _ A13.out).mono ?_);rintro e w' ⟨rfl,⟨nd,rfl⟩⟩)|(go_at_call 102;(with_reducible refine(spec_l1Abs.calls a2 t451 _ A15.out).mono ?_);rintro e w' ⟨rfl,⟨nd,rfl⟩⟩))
      go_ret
      exact⟨eqx,d0x⟩
     ·obtain rfl:=Option.some.inj H
      go_enter Try.func166,Try.ntmps166
      go_wp2_with(first|(refine cal_ 102 (some 11) Try.func102 #[.int .i64 a1] rfl (spec_l1Abs.calls a1 t448 _ A5.out) ?_;rintro e w' ⟨rfl,⟨nd,rfl⟩⟩;refine⟨_,rfl,?_⟩)|(refine cal_ 102 (some 13) Try.func102 #[.int .i64 a2] rfl (spec_l1Abs.calls a2 t449 _ A6.out) ?_;rintro e w' ⟨rfl,⟨nd,rfl⟩⟩;refine⟨_,rfl,?_⟩)|(go_at_call 102;(with_reducible refine(spec_l1Abs.calls a1 t450 _ A13.out).mono ?_);rintro e w' ⟨rfl,⟨nd,rfl⟩⟩))
      go_ret
      exact⟨eqx,d0x⟩
    ·have c12b0:(a3==1)=false:=beq_eq_false_iff_ne.mpr c12;have c12b1:(a3 !=1)=true:=bne_iff_ne.mpr c12;obtain rfl:=Option.some.inj H
     go_enter Try.func166,Try.ntmps166
     go_wp2_with(first|(refine cal_ 102 (some 11) Try.func102 #[.int .i64 a1] rfl (spec_l1Abs.calls a1 t448 _ A5.out) ?_;rintro e w' ⟨rfl,⟨nd,rfl⟩⟩;refine⟨_,rfl,?_⟩)|(refine cal_ 102 (some 13) Try.func102 #[.int .i64 a2] rfl (spec_l1Abs.calls a2 t449 _ A6.out) ?_;rintro e w' ⟨rfl,⟨nd,rfl⟩⟩;refine⟨_,rfl,?_⟩))
     go_ret
     exact⟨eqx,d0x⟩
   ·have c11b0:(a0==3)=false:=beq_eq_false_iff_ne.mpr c11;have c11b1:(a0 !=3)=true:=bne_iff_ne.mpr c11;replace H:=itp H;rcases H with⟨c16,H⟩|⟨c16,H⟩
    ·have c16b0:(a3==1)=true:=beq_iff_eq.mpr c16;have c16b1:(a3 !=1)=false:=bne_eq_false_iff_eq.mpr c16;clear c16;replace H:=itb H;rcases H with⟨c17b0,H⟩|⟨c17b0,H⟩
     ·obtain rfl:=Option.some.inj H
      go_enter Try.func166,Try.ntmps166
      go_wp2_with(first|(refine cal_ 102 (some 11) Try.func102 #[.int .i64 a1] rfl (spec_l1Abs.calls a1 t448 _ A5.out) ?_;rintro e w' ⟨rfl,⟨nd,rfl⟩⟩;refine⟨_,rfl,?_⟩)|(refine cal_ 102 (some 13) Try.func102 #[.int .i64 a2] rfl (spec_l1Abs.calls a2 t449 _ A6.out) ?_;rintro e w' ⟨rfl,⟨nd,rfl⟩⟩;refine⟨_,rfl,?_⟩))
      go_ret
      exact⟨eqx,d0x⟩
     ·replace H:=itp H;rcases H with⟨c18,H⟩|⟨c18,H⟩
      ·have c18b0:(a3==2)=true:=beq_iff_eq.mpr c18;have c18b1:(a3 !=2)=false:=bne_eq_false_iff_eq.mpr c18;clear c18;replace H:=itp H;rcases H with⟨c19,H⟩|⟨c19,H⟩
       ·have c19b0:((wrap64 (t448+t449))==2)=true:=beq_iff_eq.mpr c19;have c19b1:((wrap64 (t448+t449)) !=2)=false:=bne_eq_false_iff_eq.mpr c19;clear c19;obtain rfl:=Option.some.inj H
        go_enter Try.func166,Try.ntmps166
        go_wp2_with(first|(refine cal_ 102 (some 11) Try.func102 #[.int .i64 a1] rfl (spec_l1Abs.calls a1 t448 _ A5.out) ?_;rintro e w' ⟨rfl,⟨nd,rfl⟩⟩;refine⟨_,rfl,?_⟩)|(refine cal_ 102 (some 13) Try.func102 #[.int .i64 a2] rfl (spec_l1Abs.calls a2 t449 _ A6.out) ?_;rintro e w' ⟨rfl,⟨nd,rfl⟩⟩;refine⟨_,rfl,?_⟩))
        go_ret
        exact⟨eqx,d0x⟩
       ·have c19b0:((wrap64 (t448+t449))==2)=false:=beq_eq_false_iff_ne.mpr c19;have c19b1:((wrap64 (t448+t449)) !=2)=true:=bne_iff_ne.mpr c19;obtain rfl:=Option.some.inj H
        go_enter Try.func166,Try.ntmps166
        go_wp2_with(first|(refine cal_ 102 (some 11) Try.func102 #[.int .i64 a1] rfl (spec_l1Abs.calls a1 t448 _ A5.out) ?_;rintro e w' ⟨rfl,⟨nd,rfl⟩⟩;refine⟨_,rfl,?_⟩)|(refine cal_ 102 (some 13) Try.func102 #[.int .i64 a2] rfl (spec_l1Abs.calls a2 t449 _ A6.out) ?_;rintro e w' ⟨rfl,⟨nd,rfl⟩⟩;refine⟨_,rfl,?_⟩))
        go_ret
        exact⟨eqx,d0x⟩
      ·have c18b0:(a3==2)=false:=beq_eq_false_iff_ne.mpr c18;have c18b1:(a3 !=2)=true:=bne_iff_ne.mpr c18;obtain rfl:=Option.some.inj H
       go_enter Try.func166,Try.ntmps166
       go_wp2_with(first|(refine cal_ 102 (some 11) Try.func102 #[.int .i64 a1] rfl (spec_l1Abs.calls a1 t448 _ A5.out) ?_;rintro e w' ⟨rfl,⟨nd,rfl⟩⟩;refine⟨_,rfl,?_⟩)|(refine cal_ 102 (some 13) Try.func102 #[.int .i64 a2] rfl (spec_l1Abs.calls a2 t449 _ A6.out) ?_;rintro e w' ⟨rfl,⟨nd,rfl⟩⟩;refine⟨_,rfl,?_⟩))
       go_ret
       exact⟨eqx,d0x⟩
    ·have c16b0:(a3==1)=false:=beq_eq_false_iff_ne.mpr c16;have c16b1:(a3 !=1)=true:=bne_iff_ne.mpr c16;replace H:=itp H;rcases H with⟨c20,H⟩|⟨c20,H⟩
     ·have c20b0:(a3==2)=true:=beq_iff_eq.mpr c20;have c20b1:(a3 !=2)=false:=bne_eq_false_iff_eq.mpr c20;clear c20;replace H:=itp H;rcases H with⟨c21,H⟩|⟨c21,H⟩
      ·have c21b0:((wrap64 (t448+t449))==2)=true:=beq_iff_eq.mpr c21;have c21b1:((wrap64 (t448+t449)) !=2)=false:=bne_eq_false_iff_eq.mpr c21;clear c21;obtain rfl:=Option.some.inj H
       go_enter Try.func166,Try.ntmps166
       go_wp2_with(first|(refine cal_ 102 (some 11) Try.func102 #[.int .i64 a1] rfl (spec_l1Abs.calls a1 t448 _ A5.out) ?_;rintro e w' ⟨rfl,⟨nd,rfl⟩⟩;refine⟨_,rfl,?_⟩)|(refine cal_ 102 (some 13) Try.func102 #[.int .i64 a2] rfl (spec_l1Abs.calls a2 t449 _ A6.out) ?_;rintro e w' ⟨rfl,⟨nd,rfl⟩⟩;refine⟨_,rfl,?_⟩))
       go_ret
       exact⟨eqx,d0x⟩
      ·have c21b0:((wrap64 (t448+t449))==2)=false:=beq_eq_false_iff_ne.mpr c21;have c21b1:((wrap64 (t448+t449)) !=2)=true:=bne_iff_ne.mpr c21;obtain rfl:=Option.some.inj H
       go_enter Try.func166,Try.ntmps166
       go_wp2_with(first|(refine cal_ 102 (some 11) Try.func102 #[.int .i64 a1] rfl (spec_l1Abs.calls a1 t448 _ A5.out) ?_;rintro e w' ⟨rfl,⟨nd,rfl⟩⟩;refine⟨_,rfl,?_⟩)|(refine cal_ 102 (some 13) Try.func102 #[.int .i64 a2] rfl (spec_l1Abs.calls a2 t449 _ A6.out) ?_;rintro e w' ⟨rfl,⟨nd,rfl⟩⟩;refine⟨_,rfl,?_⟩))
       go_ret
       exact⟨eqx,d0x⟩
     ·have c20b0:(a3==2)=false:=beq_eq_false_iff_ne.mpr c20;have c20b1:(a3 !=2)=true:=bne_iff_ne.mpr c20;obtain rfl:=Option.some.inj H
      go_enter Try.func166,Try.ntmps166
      go_wp2_with(first|(refine cal_ 102 (some 11) Try.func102 #[.int .i64 a1] rfl (spec_l1Abs.calls a1 t448 _ A5.out) ?_;rintro e w' ⟨rfl,⟨nd,rfl⟩⟩;refine⟨_,rfl,?_⟩)|(refine cal_ 102 (some 13) Try.func102 #[.int .i64 a2] rfl (spec_l1Abs.calls a2 t449 _ A6.out) ?_;rintro e w' ⟨rfl,⟨nd,rfl⟩⟩;refine⟨_,rfl,?_⟩))
      go_ret
      exact⟨eqx,d0x⟩
mutual
def spec_slStandard.l0:Nat→Int→List (S139)→Int→Option ((List (S139)))
 |0,_,_,_=>none
 |k+1,x0,x3,x4=>if x4≤2 then(spec_slStandard.l1 k x0 x3 x4 (-2))else(some x3)
def spec_slStandard.l1:Nat→Int→List (S139)→Int→Int→Option ((List (S139)))
 |0,_,_,_,_=>none
 |k+1,x0,x3,x4,x5=>if x5≤2 then(spec_slStandard.l2 k x0 x3 x4 x5 (-2))else(spec_slStandard.l0 k x0 x3 (wrap64 (x4+1)))
def spec_slStandard.l2:Nat→Int→List (S139)→Int→Int→Int→Option ((List (S139)))
 |0,_,_,_,_,_=>none
 |k+1,x0,x3,x4,x5,x6=>if x6≤2 then((spec_slHas.f x0 x6 x5 x4).bind fun t452=>(if t452=true then(if x3.length<5864062014805 then(spec_slStandard.l2 k x0 (x3++[(⟨x6,x5,x4⟩:S139)]) x4 x5 (wrap64 (x6+1)))else(none))else(spec_slStandard.l2 k x0 x3 x4 x5 (wrap64 (x6+1)))))else(spec_slStandard.l1 k x0 x3 x4 (wrap64 (x5+1)))
end
def spec_slStandard.f (k:Nat) (a0:Int):Option ((List (S139))):=spec_slStandard.l0 k a0 ([]:List (S139)) 1
set_option maxHeartbeats 8000000 in
set_option maxRecDepth 100000 in
theorem spec_slStandard.calls (k:Nat) (a0:Int) (r:List (S139)) (w:World) (h:spec_slStandard.f k a0=some r):
  Calls Try.prog 164 #[.int .i64 a0] w fun e w'=> ∃v0_:Value,e= .returned (v0_)∧Kd.R k139 139 w' w.heap.size (fun _=>True) v0_ r∧Below w.heap.size w w':=by
 have hu139:=Try.underlying139;have HB:=Aside0.mk (Below.refl w.heap.size w);have H:=h;clear h
 unfold spec_slStandard.f at H
 have H':=Aside0.mk H;clear H
 go_enter Try.func164,Try.ntmps164
 go_wp2
 go_loopg [3,4] k (fun kq v3 v4 w'=> ∃(x3_1:List (S139)) (x4_1:Int),v4= .int .i64 x4_1∧Aside0 (spec_slStandard.l0 kq a0 x3_1 x4_1=some r)∧Aside0 (kq≤k)∧Aside0 (Kd.R k139 139 w' w.heap.size (fun _=>True) v3 x3_1)∧Aside0 (Below w.heap.size w w'))
 case atStart=>exact⟨(([]:List (S139))),(1),eqx,H',⟨Nat.le_refl _⟩,⟨nlx⟩,⟨cB HB⟩⟩
 case round=>
  clear H';obtain⟨x3_1,x4_1,rfl,HA,HK1,HO_3,HB⟩:=hrel;obtain _|k1:=gk
  ·exact nz HA.out
  have H:=HA.out;clear HA;simp only[spec_slStandard.l0]at H;replace H:=itb H;rcases H with⟨c2b0,H⟩|⟨c2b0,H⟩
  ·have H':=Aside0.mk H;clear H;go_wp2
   go_loopg [3,5] k1 (fun kq v3 v5 w'=> ∃(x3_2:List (S139)) (x5_2:Int),v5= .int .i64 x5_2∧Aside0 (spec_slStandard.l1 kq a0 x3_2 x4_1 x5_2=some r)∧Aside0 (kq≤k1)∧Aside0 (Kd.R k139 139 w' w.heap.size (fun _=>True) v3 x3_2)∧Aside0 (Below w.heap.size w w'))
   case atStart=>exact⟨(x3_1),((-2)),eqx,H',⟨Nat.le_refl _⟩,mR HO_3,⟨cB HB⟩⟩
   case round=>
    clear H';obtain⟨x3_2,x5_2,rfl,HA,HK2,HO_3,HB⟩:=hrel;obtain _|k2:=gk
    ·exact nz HA.out
    have H:=HA.out;clear HA;simp only[spec_slStandard.l1]at H;replace H:=itb H;rcases H with⟨c3b0,H⟩|⟨c3b0,H⟩
    ·have H':=Aside0.mk H;clear H;go_wp2
     go_loopg [3,6] k2 (fun kq v3 v6 w'=> ∃(x3_3:List (S139)) (x6_3:Int),v6= .int .i64 x6_3∧Aside0 (spec_slStandard.l2 kq a0 x3_3 x4_1 x5_2 x6_3=some r)∧Aside0 (kq≤k2)∧Aside0 (Kd.R k139 139 w' w.heap.size (fun _=>True) v3 x3_3)∧Aside0 (Below w.heap.size w w'))
     case atStart=>exact⟨(x3_2),((-2)),eqx,H',⟨Nat.le_refl _⟩,mR HO_3,⟨cB HB⟩⟩
     case round=>
      clear H';obtain⟨x3_3,x6_3,rfl,HA,HK3,HO_3,HB⟩:=hrel;obtain _|k3:=gk
      ·exact nz HA.out
      have H:=HA.out;clear HA;simp only[spec_slStandard.l2]at H;replace H:=itb H;rcases H with⟨c4b0,H⟩|⟨c4b0,H⟩
      ·replace H:=bnd H;obtain⟨t452,A5,H⟩:=H;replace H:=itt H;rcases H with⟨rfl,H⟩|⟨rfl,H⟩
       ·replace H:=itm H;obtain⟨LMc7,H⟩:=H;obtain⟨y453,Ny453⟩:=nmx ((x3_3++[(⟨x6_3,x5_2,x4_1⟩:S139)]):List (S139));rw[←Ny453.out]at H;have H':=Aside0.mk H;clear H
        go_wp2_with(first|(refine cal_ 166 (some 23) Try.func166 #[.int .i64 a0,.int .i64 x6_3,.int .i64 x5_2,.int .i64 x4_1] rfl (spec_slHas.calls a0 x6_3 x5_2 x4_1 true _ A5.out) ?_;rintro e w' ⟨rfl,⟨nd,rfl⟩⟩;refine⟨_,rfl,?_⟩)|((with_reducible refine gate_builtin (b:= .append) (xs:= #[.tmp 24,.tmp 29]) rfl ?_);at_builtin;refine Kd.R_append k139 (w0:=w) w.heap.size rfl (.tmp 24) (.tmp 29) 137 139 (.agg #[(.int .i64 0),(.int .i64 0),(.int .i64 0)]) 24 rfl Try.underlying137 info139 rfl (by decide) (by omega) u3 x3_3 (⟨x6_3,x5_2,x4_1⟩:S139) [.int .i64 x6_3,.int .i64 x5_2,.int .i64 x4_1] (fun _=>True) (fun _=>False) rfl rfl ?aP (fun _ hk=>hk.elim) ?aF ?aO ?aB ?aS ?aL ?_;(case aP=>exact k139_mkM _ _ _ (⟨x6_3,x5_2,x4_1⟩:S139));(case aB=>exact(cB HB));(case aF=>exact(fun _ _=>trivial));(case aO=>exact(cR HO_3));(case aS=>exact(bz HB));(case aL=>have:=LMc7.out;omega);intro v454 w8 ho hb hg hat;rw[←Ny453.out]at ho;have n0_:=Aside0.mk hb;have n1_:=Aside0.mk ho;clear HB HO_3;have HB:=n0_;have HO455:=n1_;clear n0_ n1_ ho hb hg hat))
        go_roundg k3
        case measure=>have:=HK1.out;have:=HK2.out;have:=HK3.out;omega
        case rel=>exact⟨(y453),(wrap64 (x6_3+1)),eqx,H',⟨by have:=HK1.out;have:=HK2.out;have:=HK3.out;omega⟩,mR HO455,⟨cB HB⟩⟩
       ·have H':=Aside0.mk H;clear H
        go_wp2_with(first|(refine cal_ 166 (some 23) Try.func166 #[.int .i64 a0,.int .i64 x6_3,.int .i64 x5_2,.int .i64 x4_1] rfl (spec_slHas.calls a0 x6_3 x5_2 x4_1 false _ A5.out) ?_;rintro e w' ⟨rfl,⟨nd,rfl⟩⟩;refine⟨_,rfl,?_⟩))
        go_roundg k3
        case measure=>have:=HK1.out;have:=HK2.out;have:=HK3.out;omega
        case rel=>exact⟨(x3_3),(wrap64 (x6_3+1)),eqx,H',⟨by have:=HK1.out;have:=HK2.out;have:=HK3.out;omega⟩,mR HO_3,⟨cB HB⟩⟩
      ·have H':=Aside0.mk H;clear H;go_wp2
       go_roundg k3
       case measure=>have:=HK1.out;have:=HK2.out;have:=HK3.out;omega
       case rel=>exact⟨(x3_3),(wrap64 (x5_2+1)),eqx,H',⟨by have:=HK1.out;have:=HK2.out;have:=HK3.out;omega⟩,mR HO_3,⟨cB HB⟩⟩
    ·have H':=Aside0.mk H;clear H;go_wp2
     go_roundg k2
     case measure=>have:=HK1.out;have:=HK2.out;omega
     case rel=>exact⟨(x3_2),(wrap64 (x4_1+1)),eqx,H',⟨om2 HK1 HK2⟩,mR HO_3,⟨cB HB⟩⟩
  ·obtain rfl:=Option.some.inj H;go_wp2
   go_ret
   exact⟨_,erx,by(with_reducible repeat(first|apply Kd.R_alloc|apply Kd.R_drewN|apply Kd.R_drew));exact HO_3.out,cB HB⟩
def spec_slUniform.f (k:Nat) (a0_0:Int) (a0_1:Int) (a0_2:Int) (a1:Int):Option (List Int×(List (List (S139)))):=if 0≤(wrap64 (a0_0*a0_1))then(if(wrap64 (a0_0*a0_1):Int).toNat≤35184372088832 then((spec_slStandard.f k a1).bind fun t461=>(some ((List.replicate (wrap64 (a0_0*a0_1):Int).toNat 0),(([t461]:List (List (S139)))))))else(none))else(none)
def spec_slUniform.T1:Bool×List (List Nat×List Nat):=(true,[([],[]),([0],[0]),([],[]),([2],[2]),([1,3],[1,3]),([4,4],[4]),([],[]),([6],[6]),([7],[7]),([5,8],[5,8]),([9,7,0,1,2,3,4,5,6,7,8,9],[9])])
def spec_slUniform.B1:List Nat:=[0,1,0,4,15,31,0,64,192,511,1023]
theorem spec_slUniform.tab1:rtab .any (opsOf Try.f159 1)=spec_slUniform.T1:=by kernel_rfl
theorem spec_slUniform.bits1:waitsOk spec_slUniform.T1.2 spec_slUniform.B1=true:=by kernel_rfl
set_option maxHeartbeats 8000000 in
set_option maxRecDepth 100000 in
theorem spec_slUniform.calls (k:Nat) (a0_0:Int) (a0_1:Int) (a0_2:Int) (a1:Int) (r1:List Int) (r2:List (List (S139))) (w:World) (h:spec_slUniform.f k a0_0 a0_1 a0_2 a1=some (r1,r2)):
  Calls Try.prog 159 #[.agg #[.int .i64 a0_0,.int .i64 a0_1,.int .i64 a0_2],.int .i64 a1] w fun e w'=> ∃v0_ v1_:Value,e= .returned (.agg #[v0_,v1_])∧Kd.R (Kd.int .i64) 3 w' w.heap.size (fun k_=>(w.heap.size≤k_)) v0_ r1∧Kd.N (Kd.slice 139 k139) 137 w' w.heap.size (fun k_=>(w.heap.size≤k_)∧some k_≠(v0_:Value).ownBlock) v1_ r2∧Below w.heap.size w w':=by
 have hu122:=Try.underlying122;have hu127:=Try.underlying127;have HB:=Aside0.mk (Below.refl w.heap.size w);have H:=h;clear h
 unfold spec_slUniform.f at H
 obtain⟨ji3,hji3⟩:=jix (wrap64 (a0_0*a0_1));simp only[hji3]at H;have hji3w:(IntKind.i64.wrap (a0_0*a0_1))=ji3:=(i64_w _).trans hji3;replace H:=itp H;rcases H with⟨c4,H⟩|⟨c4,H⟩
 ·have c4b0:=eq_true c4;have c4b1:=decide_eq_true c4;clear c4;replace H:=ite_ H;obtain⟨c5b0,c5b1,H⟩:=H;obtain⟨y458,Ny458⟩:=nmx ((List.replicate (ji3:Int).toNat 0):List Int);rw[←Ny458.out]at H;replace H:=bnd H;obtain⟨t461,A6,H⟩:=H;obtain⟨y464,Ny464⟩:=nmx ((([t461]:List (List (S139)))):List (List (S139)));rw[←Ny464.out]at H;simp only[Option.some.injEq,Prod.mk.injEq]at H;obtain⟨rfl,rfl⟩:=H
  go_enter Try.func159,Try.ntmps159
  try go_wp2_with(first|((with_reducible refine gate_dst (N:=2) rfl ?_);refine box_event ?hg (N:=2) ?hd (cs:= #[.int .i64 a0_0,.int .i64 a0_1,.int .i64 a0_2]) (t:=122) ?hr ?_;(case hd=>rfl);(case hg=>rfl);(case hr=>first|(go_simp;done)|(go_simp;rfl));intro gb456 hg w7 hbox hb;have BK456:=Aside0.mk hbox;have GW456:=gs hg HB;have GE456:=gs hg HB;replace HB:=bs HB hb;clear hb hbox hg)|((with_reducible refine gate_dst (N:=4) rfl ?_);refine box_event ?hg (N:=4) ?hd (cs:= #[.slice none 0 0,.slice none 0 0]) (t:=127) ?hr ?_;(case hd=>rfl);(case hg=>rfl);(case hr=>first|(go_simp;done)|(go_simp;rfl));intro gb457 hg w8 hbox hb;have BK457:=Aside0.mk hbox;have GW457:=gs hg HB;have GE457:=gs hg HB;replace HB:=bs HB hb;have NB456_457:=nl hg BK456;have NB457_456:=ng hg BK456;replace BK456:=bb BK456 hb;clear hb hbox hg))
  replace BK456:=Aside0.mk (blk_drew BK456.out);replace BK457:=Aside0.mk (blk_drew BK457.out);replace HB:=Aside0.mk (below_drew1 HB.out);refine start_ (n:=11) (S:=fun w'=>w'.cell? ⟨gb456,0,none⟩=some (.int .i64 a0_0)∧w'.cell? ⟨gb456,1,none⟩=some (.int .i64 a0_1)∧w'.cell? ⟨gb456,2,none⟩=some (.int .i64 a0_2)) (ds:=[]) #[false,false,false,false,false,false,false,false,false,false,false] (by kernel_rfl) rfl rfl ⟨bc0 BK456,bc1 BK456,bc2 BK456⟩ (fun hHeld=>?_);refine with_tabW spec_slUniform.tab1 spec_slUniform.bits1 (fun HT_ HW_=>?_);generalize w8.drew=w9 at BK456 BK457 HB hHeld⊢;refine pu_ HT_ 0 (some 5) ?_;refine pu_ HT_ 2 (some 7) ?_;refine pu_ HT_ 6 (some 11) ?_;refine tk3_ HT_ HW_ hHeld 1 (some 6) ?_;refine tk3_ HT_ HW_ hHeld 3 (some 8) ?_;refine pu_ HT_ 4 (some 9) ?_;refine join_ (σ:=Value×Value×Value) 2 #[true,true,true,true,true,true,true,true,true,false,false] (fun s_=>[(10,s_.1),(12,s_.2.1),(13,s_.2.2)]) (fun s_ w'=>(w'.cell? ⟨gb456,0,none⟩=some (.int .i64 a0_0)∧w'.cell? ⟨gb456,1,none⟩=some (.int .i64 a0_1)∧w'.cell? ⟨gb456,2,none⟩=some (.int .i64 a0_2))∧(Kd.R (Kd.int .i64) 3 w' w.heap.size (fun k_=>(w.heap.size≤k_)) s_.1 y458)∧(Kd.N (Kd.slice 139 k139) 137 w' w.heap.size (fun k_=>(w.heap.size≤k_)∧some k_≠(s_.1:Value).ownBlock∧k_≠gb456∧k_≠gb457) s_.2.2 y464)∧(w'.heap[gb456]?=some (.cells #[.int .i64 a0_0,.int .i64 a0_1,.int .i64 a0_2] 122 (0,0)))∧(w'.heap[gb457]?=some (.cells #[.slice none 0 0,.slice none 0 0] 127 (0,0)))∧(Below w.heap.size w w')) ?_ ?_;rotate_left
  ·intro hCont;refine two_ (i:=5) (j:=7) (Ni:=some 10) (Nj:=some 12) #[true,true,true,true,true,true,true,false,false,false,false] #[true,true,true,true,true,false,true,true,false,false,false] rfl rfl rfl rfl (two_of HT_.out (by kernel_rfl)) (by decide) (by decide) (fun K hK=>?_) (fun K hK=>?_)
   ·skip
    refine Kd.R_make_step (Kd.int .i64) _ 3 (by rfl) (N:=10) rfl 24 _ _ rfl ji3 rfl rfl Try.underlying24 (.int .i64 0) 8 info3 rfl (by decide) (by omega) 0 (ok:=fun _=>True) (okp:=fun _=>True) rfl (fun _ hk=>hk) trivial (of_decide_eq_true asx) (Nat.le_trans (Nat.mul_le_mul_right _ (of_decide_eq_true asx:ji3.toNat≤35184372088832)) (by omega)) (Below.refl _ _) (Nat.le_refl _) ?_;intro v459 w10 ho11 hb hg_ hnew_;clear hg_ hnew_
    (first|rw[←Ny458.out]at ho11|(simp only[Int.reduceToNat]at ho11;rw[←Ny458.out]at ho11))
    have HO460:=Aside0.mk (Kd.R_lower (Kd.R_newM (M:=fun k_=>(w.heap.size≤k_)) ho11 (bz HB) (fun k_ h_=>h_)) (bz HB));replace BK456:=bb BK456 hb;replace BK457:=bb BK457 hb;replace HB:=bs HB hb;clear hb ho11;refine hK.out _ _ ⟨bc0 BK456,bc1 BK456,bc2 BK456⟩ (fun hHeld=>?_);clear hK K;refine nr_ (some 10) ?_;refine on_ HT_ 7 (some 12) (fun K hK=>?_);refine ral_ Try.func164 #[.int .i64 a1] (spec_slStandard.calls k a1 t461 _ A6.out) ?_;rintro e w12 ⟨v462,rfl,ho0,hb⟩;refine⟨_,rfl,?_⟩;replace HO460:=bR HO460 hb;have HO463:=Aside0.mk (Kd.R_lower (Kd.R_newM (M:=fun k_=>(w.heap.size≤k_)) ho0 (bz HB) (fun k_ h_=>h_)) (bz HB));replace BK456:=bb BK456 hb;replace BK457:=bb BK457 hb;replace HB:=bs HB hb;(try clear hb ho0);obtain⟨Ao13,co13,eo13⟩:=sR HO463
    (first|subst eo13|(injection eo13 with f1_ f2_ f3_;have f4_:=f1_.symm;have f5_:=f3_.symm;clear f1_ f2_ f3_;subst f4_;subst f5_))
    refine hK.out _ _ ⟨bc0 BK456,bc1 BK456,bc2 BK456⟩ (fun hHeld=>?_);clear hK K;refine nr_ (some 12) ?_;refine on_ HT_ 8 (some 13) (fun K hK=>?_);refine Kd.N_lit_step (Kd.slice 139 k139) _ 137 ?hg (N':=13) ?hd (xs:=([t461]:List (List (S139)))) (inner:=[.slice Ao13 t461.length co13]) (ok:=(fun k_=>(w.heap.size≤k_)∧some k_≠(v459:Value).ownBlock∧k_≠gb456∧k_≠gb457)) (okp:=(fun k_=>(w.heap.size≤k_)∧some k_≠(v459:Value).ownBlock∧k_≠gb456∧k_≠gb457)) ?hr ?hp (fun _ hk=>hk) ((show∀k_,w12.heap.size≤k_→(fun k_=>(w.heap.size≤k_)∧some k_≠(v459:Value).ownBlock∧k_≠gb456∧k_≠gb457) k_ from fun k_ hk=>⟨(Nat.le_trans (bz HB) hk),Kd.fresh' (Kd.R_lt (cR HO460)) k_ hk,Kd.freshB (cW BK456) k_ hk,Kd.freshB (cW BK457) k_ hk⟩) _ (Nat.le_refl _)) (Below.refl _ _) (Nat.le_refl _) (by simp) ?_;(case hd=>rfl);(case hg=>rfl);(case hr=>first|(go_simp;done)|(go_simp;rfl));(case hp=>exact(Reps.one (show Kd.FK (Kd.slice 139 k139) _ _ t461 [.slice Ao13 t461.length co13]from(Kd.FK_slice_mk (Kd.R_reads' (Kd.R_mono (ok':=(fun k_=>(w.heap.size≤k_)∧some k_≠(v459:Value).ownBlock∧k_≠gb456∧k_≠gb457)) (Kd.R_types (Kd.R_types (Kd.R_apart' (HO463.out) (Kd.R_typed HO460.out) (by decide)) BK456.out (by decide)) BK457.out (by decide)) (fun k_ hk=>⟨hk.1.1.1.1,⟨hk.1.1.2,⟨hk.1.2,hk.2⟩⟩⟩))).2.1 (Kd.R_F (Kd.R_mono (ok':=(fun k_=>(w.heap.size≤k_)∧some k_≠(v459:Value).ownBlock∧k_≠gb456∧k_≠gb457)) (Kd.R_types (Kd.R_types (Kd.R_apart' (HO463.out) (Kd.R_typed HO460.out) (by decide)) BK456.out (by decide)) BK457.out (by decide)) (fun k_ hk=>⟨hk.1.1.1.1,⟨hk.1.1.2,⟨hk.1.2,hk.2⟩⟩⟩))))) (Reps.none _ _)));intro v465 w14 ho15 hb hg_ hnew_;clear hg_ hnew_
    (first|rw[←Ny464.out]at ho15|(simp only[Int.reduceToNat]at ho15;rw[←Ny464.out]at ho15))
    have n0_:=bR HO460 hb;have n1_:=eNr ho15 (bz HB);have n2_:=bb BK456 hb;have n3_:=bb BK457 hb;have n4_:=bs HB hb;clear HO460;clear BK456;clear BK457;clear HB;clear HO463;have HO460:=n0_;have HO466:=n1_;have BK456:=n2_;have BK457:=n3_;have HB:=n4_;clear n0_ n1_ n2_ n3_ n4_;clear hb ho15;obtain⟨Ao16,co16,eo16⟩:=sN HO466
    (first|subst eo16|(injection eo16 with f1_ f2_ f3_;have f4_:=f1_.symm;have f5_:=f3_.symm;clear f1_ f2_ f3_;subst f4_;subst f5_))
    obtain⟨Ao17,co17,eo17⟩:=sR HO460
    (first|subst eo17|(injection eo17 with f1_ f2_ f3_;have f4_:=f1_.symm;have f5_:=f3_.symm;clear f1_ f2_ f3_;subst f4_;subst f5_))
    refine hK.out _ _ ⟨bc0 BK456,bc1 BK456,bc2 BK456⟩ (fun hHeld=>?_);clear hK K;refine nr_ (some 13) ?_;exact norm_ (by simp only[putAll,Act.put,List.setIfInBounds_toArray,List.set_cons_zero,List.set_cons_succ]) (hCont (.slice Ao17 y458.length co17,.slice Ao13 t461.length co13,.slice Ao16 y464.length co16) _ ⟨hHeld,(cR ⟨Kd.R_mono HO460.out (fun _ hk=>hk.1)⟩),(cN HO466),(cW BK456),(cW BK457),(cB HB)⟩)
   ·skip
    refine ral_ Try.func164 #[.int .i64 a1] (spec_slStandard.calls k a1 t461 _ A6.out) ?_;rintro e w10 ⟨v462,rfl,ho0,hb⟩;refine⟨_,rfl,?_⟩;have HO463:=Aside0.mk (Kd.R_lower (Kd.R_newM (M:=fun k_=>(w.heap.size≤k_)) ho0 (bz HB) (fun k_ h_=>h_)) (bz HB));replace BK456:=bb BK456 hb;replace BK457:=bb BK457 hb;replace HB:=bs HB hb;(try clear hb ho0);refine hK.out _ _ ⟨bc0 BK456,bc1 BK456,bc2 BK456⟩ (fun hHeld=>?_);clear hK K;refine nr_ (some 12) ?_;obtain⟨Ao11,co11,eo11⟩:=sR HO463
    (first|subst eo11|(injection eo11 with f1_ f2_ f3_;have f4_:=f1_.symm;have f5_:=f3_.symm;clear f1_ f2_ f3_;subst f4_;subst f5_))
    refine two_ (i:=5) (j:=8) (Ni:=some 10) (Nj:=some 13) #[true,true,true,true,true,true,true,true,false,false,false] #[true,true,true,true,true,false,true,true,true,false,false] rfl rfl rfl rfl (two_of HT_.out (by kernel_rfl)) (by decide) (by decide) (fun K hK=>?_) (fun K hK=>?_)
    ·skip
     refine Kd.R_make_step (Kd.int .i64) _ 3 (by rfl) (N:=10) rfl 24 _ _ rfl ji3 rfl rfl Try.underlying24 (.int .i64 0) 8 info3 rfl (by decide) (by omega) 0 (ok:=fun _=>True) (okp:=fun _=>True) rfl (fun _ hk=>hk) trivial (of_decide_eq_true asx) (Nat.le_trans (Nat.mul_le_mul_right _ (of_decide_eq_true asx:ji3.toNat≤35184372088832)) (by omega)) (Below.refl _ _) (Nat.le_refl _) ?_;intro v459 w11 ho12 hb hg_ hnew_;clear hg_ hnew_
     (first|rw[←Ny458.out]at ho12|(simp only[Int.reduceToNat]at ho12;rw[←Ny458.out]at ho12))
     replace HO463:=bR HO463 hb;have HO460:=Aside0.mk (Kd.R_lower (Kd.R_newM (M:=fun k_=>(w.heap.size≤k_)) ho12 (bz HB) (fun k_ h_=>h_)) (bz HB));replace BK456:=bb BK456 hb;replace BK457:=bb BK457 hb;replace HB:=bs HB hb;clear hb ho12;obtain⟨Ao13,co13,eo13⟩:=sR HO463
     (first|subst eo13|(injection eo13 with f1_ f2_ f3_;have f4_:=f1_.symm;have f5_:=f3_.symm;clear f1_ f2_ f3_;subst f4_;subst f5_))
     refine hK.out _ _ ⟨bc0 BK456,bc1 BK456,bc2 BK456⟩ (fun hHeld=>?_);clear hK K;refine nr_ (some 10) ?_;refine on_ HT_ 8 (some 13) (fun K hK=>?_);refine Kd.N_lit_step (Kd.slice 139 k139) _ 137 ?hg (N':=13) ?hd (xs:=([t461]:List (List (S139)))) (inner:=[.slice Ao13 t461.length co13]) (ok:=(fun k_=>(w.heap.size≤k_)∧some k_≠(v459:Value).ownBlock∧k_≠gb456∧k_≠gb457)) (okp:=(fun k_=>(w.heap.size≤k_)∧some k_≠(v459:Value).ownBlock∧k_≠gb456∧k_≠gb457)) ?hr ?hp (fun _ hk=>hk) ((show∀k_,w11.heap.size≤k_→(fun k_=>(w.heap.size≤k_)∧some k_≠(v459:Value).ownBlock∧k_≠gb456∧k_≠gb457) k_ from fun k_ hk=>⟨(Nat.le_trans (bz HB) hk),Kd.fresh' (Kd.R_lt (cR HO460)) k_ hk,Kd.freshB (cW BK456) k_ hk,Kd.freshB (cW BK457) k_ hk⟩) _ (Nat.le_refl _)) (Below.refl _ _) (Nat.le_refl _) (by simp) ?_;(case hd=>rfl);(case hg=>rfl);(case hr=>first|(go_simp;done)|(go_simp;rfl));(case hp=>exact(Reps.one (show Kd.FK (Kd.slice 139 k139) _ _ t461 [.slice Ao13 t461.length co13]from(Kd.FK_slice_mk (Kd.R_reads' (Kd.R_mono (ok':=(fun k_=>(w.heap.size≤k_)∧some k_≠(v459:Value).ownBlock∧k_≠gb456∧k_≠gb457)) (Kd.R_types (Kd.R_types (Kd.R_apart' (HO463.out) (Kd.R_typed HO460.out) (by decide)) BK456.out (by decide)) BK457.out (by decide)) (fun k_ hk=>⟨hk.1.1.1.1,⟨hk.1.1.2,⟨hk.1.2,hk.2⟩⟩⟩))).2.1 (Kd.R_F (Kd.R_mono (ok':=(fun k_=>(w.heap.size≤k_)∧some k_≠(v459:Value).ownBlock∧k_≠gb456∧k_≠gb457)) (Kd.R_types (Kd.R_types (Kd.R_apart' (HO463.out) (Kd.R_typed HO460.out) (by decide)) BK456.out (by decide)) BK457.out (by decide)) (fun k_ hk=>⟨hk.1.1.1.1,⟨hk.1.1.2,⟨hk.1.2,hk.2⟩⟩⟩))))) (Reps.none _ _)));intro v465 w14 ho15 hb hg_ hnew_;clear hg_ hnew_
     (first|rw[←Ny464.out]at ho15|(simp only[Int.reduceToNat]at ho15;rw[←Ny464.out]at ho15))
     have n0_:=bR HO460 hb;have n1_:=eNr ho15 (bz HB);have n2_:=bb BK456 hb;have n3_:=bb BK457 hb;have n4_:=bs HB hb;clear HO460;clear BK456;clear BK457;clear HB;clear HO463;have HO460:=n0_;have HO466:=n1_;have BK456:=n2_;have BK457:=n3_;have HB:=n4_;clear n0_ n1_ n2_ n3_ n4_;clear hb ho15;obtain⟨Ao16,co16,eo16⟩:=sN HO466
     (first|subst eo16|(injection eo16 with f1_ f2_ f3_;have f4_:=f1_.symm;have f5_:=f3_.symm;clear f1_ f2_ f3_;subst f4_;subst f5_))
     obtain⟨Ao17,co17,eo17⟩:=sR HO460
     (first|subst eo17|(injection eo17 with f1_ f2_ f3_;have f4_:=f1_.symm;have f5_:=f3_.symm;clear f1_ f2_ f3_;subst f4_;subst f5_))
     refine hK.out _ _ ⟨bc0 BK456,bc1 BK456,bc2 BK456⟩ (fun hHeld=>?_);clear hK K;refine nr_ (some 13) ?_;exact norm_ (by simp only[putAll,Act.put,List.setIfInBounds_toArray,List.set_cons_zero,List.set_cons_succ]) (hCont (.slice Ao17 y458.length co17,.slice Ao13 t461.length co13,.slice Ao16 y464.length co16) _ ⟨hHeld,(cR ⟨Kd.R_mono HO460.out (fun _ hk=>hk.1)⟩),(cN HO466),(cW BK456),(cW BK457),(cB HB)⟩)
    ·skip
     refine Kd.N_lit_step (Kd.slice 139 k139) _ 137 ?hg (N':=13) ?hd (xs:=([t461]:List (List (S139)))) (inner:=[.slice Ao11 t461.length co11]) (ok:=(fun k_=>(w.heap.size≤k_)∧k_≠gb456∧k_≠gb457)) (okp:=(fun k_=>(w.heap.size≤k_)∧k_≠gb456∧k_≠gb457)) ?hr ?hp (fun _ hk=>hk) ((show∀k_,w10.heap.size≤k_→(fun k_=>(w.heap.size≤k_)∧k_≠gb456∧k_≠gb457) k_ from fun k_ hk=>⟨(Nat.le_trans (bz HB) hk),Kd.freshB (cW BK456) k_ hk,Kd.freshB (cW BK457) k_ hk⟩) _ (Nat.le_refl _)) (Below.refl _ _) (Nat.le_refl _) (by simp) ?_;(case hd=>rfl);(case hg=>rfl);(case hr=>first|(go_simp;done)|(go_simp;rfl));(case hp=>exact(Reps.one (show Kd.FK (Kd.slice 139 k139) _ _ t461 [.slice Ao11 t461.length co11]from(Kd.FK_slice_mk (Kd.R_reads' (Kd.R_mono (ok':=(fun k_=>(w.heap.size≤k_)∧k_≠gb456∧k_≠gb457)) (Kd.R_types (Kd.R_types (HO463.out) BK456.out (by decide)) BK457.out (by decide)) (fun k_ hk=>⟨hk.1.1.1,⟨hk.1.2,hk.2⟩⟩))).2.1 (Kd.R_F (Kd.R_mono (ok':=(fun k_=>(w.heap.size≤k_)∧k_≠gb456∧k_≠gb457)) (Kd.R_types (Kd.R_types (HO463.out) BK456.out (by decide)) BK457.out (by decide)) (fun k_ hk=>⟨hk.1.1.1,⟨hk.1.2,hk.2⟩⟩))))) (Reps.none _ _)));intro v465 w12 ho13 hb hg_ hnew_;clear hg_ hnew_
     (first|rw[←Ny464.out]at ho13|(simp only[Int.reduceToNat]at ho13;rw[←Ny464.out]at ho13))
     have n0_:=eNr ho13 (bz HB);have n1_:=bb BK456 hb;have n2_:=bb BK457 hb;have n3_:=bs HB hb;clear BK456;clear BK457;clear HB;clear HO463;have HO466:=n0_;have BK456:=n1_;have BK457:=n2_;have HB:=n3_;clear n0_ n1_ n2_ n3_;clear hb ho13;refine hK.out _ _ ⟨bc0 BK456,bc1 BK456,bc2 BK456⟩ (fun hHeld=>?_);clear hK K;refine nr_ (some 13) ?_;refine on_ HT_ 5 (some 10) (fun K hK=>?_);refine Kd.R_make_step (Kd.int .i64) _ 3 (by rfl) (N:=10) rfl 24 _ _ rfl ji3 rfl rfl Try.underlying24 (.int .i64 0) 8 info3 rfl (by decide) (by omega) 0 (ok:=fun _=>True) (okp:=fun _=>True) rfl (fun _ hk=>hk) trivial (of_decide_eq_true asx) (Nat.le_trans (Nat.mul_le_mul_right _ (of_decide_eq_true asx:ji3.toNat≤35184372088832)) (by omega)) (Below.refl _ _) (Nat.le_refl _) ?_;intro v459 w14 ho15 hb hg_ hnew_;clear hg_ hnew_
     (first|rw[←Ny458.out]at ho15|(simp only[Int.reduceToNat]at ho15;rw[←Ny458.out]at ho15))
     replace HO466:=aN HO466 (Kd.R_base ho15) hb;have HO460:=Aside0.mk (Kd.R_lower (Kd.R_newM (M:=fun k_=>(w.heap.size≤k_)) ho15 (bz HB) (fun k_ h_=>h_)) (bz HB));replace BK456:=bb BK456 hb;replace BK457:=bb BK457 hb;replace HB:=bs HB hb;clear hb ho15;obtain⟨Ao16,co16,eo16⟩:=sN HO466
     (first|subst eo16|(injection eo16 with f1_ f2_ f3_;have f4_:=f1_.symm;have f5_:=f3_.symm;clear f1_ f2_ f3_;subst f4_;subst f5_))
     obtain⟨Ao17,co17,eo17⟩:=sR HO460
     (first|subst eo17|(injection eo17 with f1_ f2_ f3_;have f4_:=f1_.symm;have f5_:=f3_.symm;clear f1_ f2_ f3_;subst f4_;subst f5_))
     refine hK.out _ _ ⟨bc0 BK456,bc1 BK456,bc2 BK456⟩ (fun hHeld=>?_);clear hK K;refine nr_ (some 10) ?_;exact norm_ (by simp only[putAll,Act.put,List.setIfInBounds_toArray,List.set_cons_zero,List.set_cons_succ]) (hCont (.slice Ao17 y458.length co17,.slice Ao11 t461.length co11,.slice Ao16 y464.length co16) _ ⟨hHeld,(cR ⟨Kd.R_mono HO460.out (fun _ hk=>hk.1)⟩),(cN ⟨Kd.N_mono HO466.out (fun _ hk=>⟨hk.1.1,⟨hk.2,⟨hk.1.2.1,hk.1.2.2⟩⟩⟩)⟩),(cW BK456),(cW BK457),(cB HB)⟩)
  rintro⟨v459,v462,v465⟩ w18 ⟨hS_,h0_,h1_,h2_,h3_,h4_⟩;have n0_:Aside0 (Kd.R (Kd.int .i64) 3 w18 w.heap.size (fun k_=>(w.heap.size≤k_)) v459 y458):=⟨h0_⟩;have n1_:Aside0 (Kd.N (Kd.slice 139 k139) 137 w18 w.heap.size (fun k_=>(w.heap.size≤k_)∧some k_≠(v459:Value).ownBlock∧k_≠gb456∧k_≠gb457) v465 y464):=⟨h1_⟩;have n2_:Aside0 (w18.heap[gb456]?=some (.cells #[.int .i64 a0_0,.int .i64 a0_1,.int .i64 a0_2] 122 (0,0))):=⟨h2_⟩;have n3_:Aside0 (w18.heap[gb457]?=some (.cells #[.slice none 0 0,.slice none 0 0] 127 (0,0))):=⟨h3_⟩;have n4_:Aside0 (Below w.heap.size w w18):=⟨h4_⟩;clear BK456;clear BK457;clear HB;clear h0_ h1_ h2_ h3_ h4_;have HO460:=n0_;have HO466:=n1_;have BK456:=n2_;have BK457:=n3_;have HB:=n4_;clear n0_ n1_ n2_ n3_ n4_;have hHeld:w18.cell? ⟨gb456,0,none⟩=some (.int .i64 a0_0)∧w18.cell? ⟨gb456,1,none⟩=some (.int .i64 a0_1)∧w18.cell? ⟨gb456,2,none⟩=some (.int .i64 a0_2):=hS_;obtain⟨Ao19,co19,eo19⟩:=sN HO466
  (first|subst eo19|(injection eo19 with f1_ f2_ f3_;have f4_:=f1_.symm;have f5_:=f3_.symm;clear f1_ f2_ f3_;subst f4_;subst f5_))
  obtain⟨Ao20,co20,eo20⟩:=sR HO460
  (first|subst eo20|(injection eo20 with f1_ f2_ f3_;have f4_:=f1_.symm;have f5_:=f3_.symm;clear f1_ f2_ f3_;subst f4_;subst f5_))
  refine norm_ (a':=?_) ?_ ?_;rotate_left
  ·simp only[putAll,Act.put,List.setIfInBounds_toArray,List.set_cons_zero,List.set_cons_succ];rfl
  refine pu_ HT_ 9 (some 14) ?_;refine on_ HT_ 10 none (fun K hK=>?_);have hs21:w18.cell? ⟨gb457,0,none⟩=some (.slice none 0 0):=bc0 BK457;have hfs21:=blk_frozen BK457.out 0;have hns21_0:=NB456_457.out;have hms21_0:=NB457_456.out;have hs22:w18.cell? ⟨gb457,1,none⟩=some (.slice none 0 0):=bc1 BK457;have hfs22:=blk_frozen BK457.out 1;have hns22_0:=NB456_457.out;have hms22_0:=NB457_456.out;refine skip_ (w1:=?_) (by rfl) rfl ?_ ?_;rotate_left
  ·go_simp;rfl
  refine hK.out _ _ ⟨((cell_far (p:=⟨gb457,_,none⟩) NB456_457.out _).trans (((cell_far (p:=⟨gb457,_,none⟩) NB456_457.out _).trans (hHeld.1)))),((cell_far (p:=⟨gb457,_,none⟩) NB456_457.out _).trans (((cell_far (p:=⟨gb457,_,none⟩) NB456_457.out _).trans (hHeld.2.1)))),((cell_far (p:=⟨gb457,_,none⟩) NB456_457.out _).trans (((cell_far (p:=⟨gb457,_,none⟩) NB456_457.out _).trans (hHeld.2.2))))⟩ (fun hHeld=>?_);clear hK K;refine done_ (done_of HT_.out (by kernel_rfl)) ?_
  try go_wp2
  refine bodyPost_ret (results_cell_row rfl _ _ gb457 127 #[.slice Ao20 y458.length co20,.slice Ao19 y464.length co19] (0,0) _ rfl (by(with_reducible repeat(first|refine blk_drewN ?_ _|refine blk_drew ?_|refine blk_alloc ?_ _));refine blk_put (cs:= #[.slice Ao20 y458.length co20,.slice none 0 0]) ?_ 1 _ rfl;(with_reducible repeat(first|refine blk_drewN ?_ _|refine blk_drew ?_|refine blk_alloc ?_ _));refine blk_put (cs:= #[.slice none 0 0,.slice none 0 0]) ?_ 0 _ rfl;(with_reducible repeat(first|refine blk_drewN ?_ _|refine blk_drew ?_|refine blk_alloc ?_ _));exact BK457.out) Try.underlying127 rfl (by kernel_rfl)) rfl ?_;exact⟨_,_,by first|rfl|(simp[errW_none,errW_some]<;>rfl)|(simp only[←hji3];first|rfl|(simp[errW_none,errW_some]<;>rfl))|(simp[*,errW_none,errW_some]<;>rfl),by(with_reducible repeat(first|apply Kd.R_alloc|apply Kd.R_drewN|apply Kd.R_drew));exact Kd.R_mono (Kd.R_far (p:=⟨gb457,1,none⟩) (Kd.R_far (p:=⟨gb457,0,none⟩) (Kd.R_types HO460.out BK457.out (by decide)) (fun _ hk=>hk.2) (.slice Ao20 y458.length co20)) (fun _ hk=>hk.2) (.slice Ao19 y464.length co19)) (fun _ hk=>hk.1),by(with_reducible repeat(first|apply Kd.N_alloc|apply Kd.N_drewN|apply Kd.N_drew));exact Kd.N_mono (Kd.N_far (p:=⟨gb457,1,none⟩) (Kd.N_far (p:=⟨gb457,0,none⟩) (Kd.N_mono HO466.out (fun k_ hk=>(⟨hk,hk.2.2.2⟩:_∧k_≠gb457))) (fun _ hk=>hk.2) (.slice Ao20 y458.length co20)) (fun _ hk=>hk.2) (.slice Ao19 y464.length co19)) (fun _ hk=>⟨hk.1.1,hk.1.2.1⟩),cB HB⟩
 ·exact absurd H (by simp)
end Go.Proofs.Ytlkppimbbbdmbaa.PFnForced
