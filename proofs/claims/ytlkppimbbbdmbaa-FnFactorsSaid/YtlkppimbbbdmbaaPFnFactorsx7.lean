-- Printed by a changed copy of the printer; impl.bestPit and spec.paFind by contracts walked by hand
import Derived.Test.YtlkppimbbbdmbaaPFnFactorsx0
import Derived.Test.YtlkppimbbbdmbaaPFnFactorsx6
namespace Go.Proofs.Ytlkppimbbbdmbaa.PFnFactors
open Go.RowKit Go.Proofs.YtlkppimbbbdmbaaW.PrintWords Go.Proofs.YtlkppimbbbdmbaaW.PrintLast Go.Proofs.YtlkppimbbbdmbaaW.PrintMore
attribute [local go_sem] max2_int min2_int max_two min_two max_three min_three max_four min_four
set_option linter.unusedVariables false
set_option linter.unusedSimpArgs false
def spec_paFind.f (l0:List (List Int)) (l1:List Int):Option (List Int):=if Go.Proofs.Ytlkppimbbbdmbaa.Flow.fitB l0 l1=true then some (Go.Proofs.Ytlkppimbbbdmbaa.NetQ.idxB (Go.Proofs.Ytlkppimbbbdmbaa.Flow.bestB l0 l1) l0.length)else none
theorem spec_paFind.calls (A0:Option Addr) (c0:Nat) (l0:List (List Int)) (A1:Option Addr) (c1:Nat) (l1:List Int) (r:List Int) (w:World) (hr0:Kd.C (Kd.slice 3 (Kd.int .i64)) w A0 l0.length l0) (hc0:l0.length≤c0) (hr1:Kd.C (Kd.int .i64) w A1 l1.length l1) (hc1:l1.length≤c1) (h:spec_paFind.f l0 l1=some r):
  Calls Try.prog 85 #[.slice A0 l0.length c0,.slice A1 l1.length c1] w fun e w'=> ∃v0_:Value,e= .returned (v0_)∧Kd.R (Kd.int .i64) 3 w' w.heap.size (fun _=>True) v0_ r∧Below w.heap.size w w':=by
 unfold spec_paFind.f at h
 split at h
 ·rename_i hf
  injection h with h
  subst h;exact Go.Proofs.Ytlkppimbbbdmbaa.SRes.find_calls A0 c0 l0 A1 c1 l1 w hr0 hc0 hr1 hc1 (Go.Proofs.Ytlkppimbbbdmbaa.Flow.fitB_iff.1 hf)
 ·cases h
def spec_neValues.l0:Nat→List Int→Int→List Int→List Int→Int→Int→Option (List Int)
 |0,_,_,_,_,_,_=>none
 |k+1,x1,x2,x7,x10,x11,x12=>if x12<x11 then(if 0≤x12 then(if x12<(x10.length:Int)then(if x12<(x1.length:Int)then(if x7.length<17592186044416 then(spec_neValues.l0 k x1 x2 (x7++[wrap64 ((wrap64 ((rd x10 x12)*x2))-(rd x1 x12))]) x10 x11 (wrap64 (x12+1)))else(none))else(none))else(none))else(none))else(some x7)
def spec_neValues.f (k:Nat) (l0:List Int) (l1:List Int) (a2:Int):Option (List Int):=spec_neValues.l0 k l1 a2 ([]:List Int) l0 (l0.length:Int) 0
set_option maxHeartbeats 8000000 in
set_option maxRecDepth 100000 in
theorem spec_neValues.calls (k:Nat) (A0:Option Addr) (c0:Nat) (l0:List Int) (A1:Option Addr) (c1:Nat) (l1:List Int) (a2:Int) (r:List Int) (w:World) (hr0:Kd.C (Kd.int .i64) w A0 l0.length l0) (hc0:l0.length≤c0) (hr1:Kd.C (Kd.int .i64) w A1 l1.length l1) (hc1:l1.length≤c1) (h:spec_neValues.f k l0 l1 a2=some r):
  Calls Try.prog 97 #[.slice A0 l0.length c0,.slice A1 l1.length c1,.int .i64 a2] w fun e w'=> ∃v0_:Value,e= .returned (v0_)∧Kd.R (Kd.int .i64) 3 w' w.heap.size (fun _=>True) v0_ r∧Below w.heap.size w w':=by
 have HR0:=Aside0.mk hr0;have HC0:=Aside0.mk hc0;clear hr0 hc0;have HR1:=Aside0.mk hr1;have HC1:=Aside0.mk hc1;clear hr1 hc1;have HB:=Aside0.mk (Below.refl w.heap.size w);have H:=h;clear h
 unfold spec_neValues.f at H
 have H':=Aside0.mk H;clear H
 go_enter Try.func97,Try.ntmps97
 go_wp2
 go_loopg [7,12] k (fun kq v7 v12 w'=> ∃(x7_1:List Int) (x12_1:Int),v12= .int .i64 x12_1∧Aside0 (spec_neValues.l0 kq l1 a2 x7_1 l0 (l0.length:Int) x12_1=some r)∧Aside0 (kq≤k)∧Aside0 (Kd.R (Kd.int .i64) 3 w' w.heap.size (fun _=>True) v7 x7_1)∧Aside0 (Below w.heap.size w w'))
 case atStart=>exact⟨(([]:List Int)),(0),eqx,H',⟨Nat.le_refl _⟩,⟨nlx⟩,⟨cB HB⟩⟩
 case round=>
  clear H';obtain⟨x7_1,x12_1,rfl,HA,HK1,HO_7,HB⟩:=hrel;obtain _|k1:=gk
  ·exact nz HA.out
  have H:=HA.out;clear HA;simp only[spec_neValues.l0]at H;replace H:=itb H;rcases H with⟨c4b0,H⟩|⟨c4b0,H⟩
  ·replace H:=itd H;obtain⟨c5b0,H⟩:=H;replace H:=itd H;obtain⟨c6b0,H⟩:=H;replace H:=itd H;obtain⟨c7b0,H⟩:=H;replace H:=itm H;obtain⟨LMc8,H⟩:=H;obtain⟨y378,Ny378⟩:=nmx ((x7_1++[wrap64 ((wrap64 ((rd l0 x12_1)*a2))-(rd l1 x12_1))]):List Int);rw[←Ny378.out]at H;have H':=Aside0.mk H;clear H;obtain⟨ad376,e376,hx376_0,p376,q376⟩:=ldi (i:=x12_1) HR0.out;cases e376;replace hx376_0:=hc_ HB hx376_0;obtain⟨ad377,e377,hx377_0,p377,q377⟩:=ldi (i:=x12_1) HR1.out;cases e377;replace hx377_0:=hc_ HB hx377_0
   go_wp2_with(first|((with_reducible refine gate_builtin (b:= .append) (xs:= #[.tmp 17,.tmp 26]) rfl ?_);at_builtin;refine Kd.R_append (Kd.int .i64) (w0:=w) w.heap.size rfl (.tmp 17) (.tmp 26) 24 3 (.int .i64 0) 8 rfl Try.underlying24 info3 rfl (by decide) (by omega) u7 x7_1 (wrap64 ((wrap64 ((rd l0 x12_1)*a2))-(rd l1 x12_1))) [.int .i64 (wrap64 ((wrap64 ((rd l0 x12_1)*a2))-(rd l1 x12_1)))] (fun _=>True) (fun _=>False) rfl rfl ?aP (fun _ hk=>hk.elim) ?aF ?aO ?aB ?aS ?aL ?_;(case aP=>exact rfl);(case aB=>exact(cB HB));(case aF=>exact(fun _ _=>trivial));(case aO=>exact(cR HO_7));(case aS=>exact(bz HB));(case aL=>have:=LMc8.out;omega);intro v379 w9 ho hb hg hat;rw[←Ny378.out]at ho;have n0_:=Aside0.mk hb;have n1_:=Aside0.mk ho;clear HB HO_7;have HB:=n0_;have HO380:=n1_;clear n0_ n1_ ho hb hg hat))
   go_roundg k1
   case measure=>have:=HK1.out;omega
   case rel=>exact⟨(y378),(wrap64 (x12_1+1)),eqx,H',⟨by have:=HK1.out;omega⟩,mR HO380,⟨cB HB⟩⟩
  ·obtain rfl:=Option.some.inj H;go_wp2
   go_ret
   exact⟨_,erx,by(with_reducible repeat(first|apply Kd.R_alloc|apply Kd.R_drewN|apply Kd.R_drew));exact HO_7.out,cB HB⟩
def spec_nePit.f (k:Nat) (l0:List (List Int)) (l1:List Int) (l2:List Int) (a3:Int):Option (List Int):=(spec_neValues.f k l1 l2 a3).bind fun t381=>((spec_paFind.f l0 t381).bind fun t384=>(some t384))
set_option maxHeartbeats 8000000 in
set_option maxRecDepth 100000 in
theorem spec_nePit.calls (k:Nat) (A0:Option Addr) (c0:Nat) (l0:List (List Int)) (A1:Option Addr) (c1:Nat) (l1:List Int) (A2:Option Addr) (c2:Nat) (l2:List Int) (a3:Int) (r:List Int) (w:World) (hr0:Kd.C (Kd.slice 3 (Kd.int .i64)) w A0 l0.length l0) (hc0:l0.length≤c0) (hr1:Kd.C (Kd.int .i64) w A1 l1.length l1) (hc1:l1.length≤c1) (hr2:Kd.C (Kd.int .i64) w A2 l2.length l2) (hc2:l2.length≤c2) (h:spec_nePit.f k l0 l1 l2 a3=some r):
  Calls Try.prog 109 #[.slice A0 l0.length c0,.slice A1 l1.length c1,.slice A2 l2.length c2,.int .i64 a3] w fun e w'=> ∃v0_:Value,e= .returned (v0_)∧Kd.R (Kd.int .i64) 3 w' w.heap.size (fun _=>True) v0_ r∧Below w.heap.size w w':=by
 have HR0:=Aside0.mk hr0;have HC0:=Aside0.mk hc0;clear hr0 hc0;have HR1:=Aside0.mk hr1;have HC1:=Aside0.mk hc1;clear hr1 hc1;have HR2:=Aside0.mk hr2;have HC2:=Aside0.mk hc2;clear hr2 hc2;have HB:=Aside0.mk (Below.refl w.heap.size w);have H:=h;clear h
 unfold spec_nePit.f at H
 replace H:=bnd H;obtain⟨t381,A5,H⟩:=H;replace H:=bnd H;obtain⟨t384,A6,H⟩:=H;obtain rfl:=Option.some.inj H
 go_enter Try.func109,Try.ntmps109
 go_wp2_with(first|(refine cal_ 97 (some 13) Try.func97 #[.slice A1 l1.length c1,.slice A2 l2.length c2,.int .i64 a3] rfl (spec_neValues.calls k _ _ l1 _ _ l2 a3 t381 _ ?_ HC1.out ?_ HC2.out A5.out) ?_;exact cC HR1;exact cC HR2;rintro e w7 ⟨v382,rfl,ho0,hb⟩;refine⟨_,rfl,?_⟩;have HO383:=eRr ho0 (bz HB);replace HB:=bs HB hb;clear hb ho0;obtain⟨Ao8,co8,rfl⟩:=sR HO383)|(refine cal_ 85 (some 14) Try.func85 #[.slice A0 l0.length c0,.slice Ao8 t381.length co8] rfl (spec_paFind.calls _ _ l0 _ _ t381 t384 _ ?_ HC0.out ?_ (lR HO383) A6.out) ?_;exact cb_ HR0 HB;exact rR HO383;rintro e w9 ⟨v385,rfl,ho0,hb⟩;refine⟨_,rfl,?_⟩;have HO386:=Aside0.mk (Kd.R_lower (nRR ho0 HO383) (bz HB));replace HO383:=aR HO383 (Kd.R_base ho0) hb;replace HB:=bs HB hb;clear hb ho0))
 go_ret
 exact⟨_,erx,by(with_reducible repeat(first|apply Kd.R_alloc|apply Kd.R_drewN|apply Kd.R_drew));exact Kd.R_mono HO386.out (fun _ hk=>trivial),cB HB⟩
def spec_nePits.l0:Nat→List (List Int)→List Int→List Int→Int→List (List Int)→Int→Option ((List (List Int)))
 |0,_,_,_,_,_,_=>none
 |k+1,x0,x1,x2,x3,x9,x10=>if x10≤x3 then((spec_nePit.f k x0 x1 x2 x10).bind fun t387=>(if x9.length<5864062014805 then(spec_nePits.l0 k x0 x1 x2 x3 (x9++[t387]) (wrap64 (x10+1)))else(none)))else(some x9)
def spec_nePits.f (k:Nat) (l0:List (List Int)) (l1:List Int) (l2:List Int) (a3:Int):Option ((List (List Int))):=spec_nePits.l0 k l0 l1 l2 a3 ([]:List (List Int)) 0
set_option maxHeartbeats 8000000 in
set_option maxRecDepth 100000 in
theorem spec_nePits.calls (k:Nat) (A0:Option Addr) (c0:Nat) (l0:List (List Int)) (A1:Option Addr) (c1:Nat) (l1:List Int) (A2:Option Addr) (c2:Nat) (l2:List Int) (a3:Int) (r:List (List Int)) (w:World) (hr0:Kd.C (Kd.slice 3 (Kd.int .i64)) w A0 l0.length l0) (hc0:l0.length≤c0) (hr1:Kd.C (Kd.int .i64) w A1 l1.length l1) (hc1:l1.length≤c1) (hr2:Kd.C (Kd.int .i64) w A2 l2.length l2) (hc2:l2.length≤c2) (h:spec_nePits.f k l0 l1 l2 a3=some r):
  Calls Try.prog 93 #[.slice A0 l0.length c0,.slice A1 l1.length c1,.slice A2 l2.length c2,.int .i64 a3] w fun e w'=> ∃v0_:Value,e= .returned (v0_)∧Kd.V (Kd.slice 3 (Kd.int .i64)) 24 w' w.heap.size (fun k_=>(w.heap.size≤k_)) v0_ r∧Below w.heap.size w w':=by
 have HR0:=Aside0.mk hr0;have HC0:=Aside0.mk hc0;clear hr0 hc0;have HR1:=Aside0.mk hr1;have HC1:=Aside0.mk hc1;clear hr1 hc1;have HR2:=Aside0.mk hr2;have HC2:=Aside0.mk hc2;clear hr2 hc2;have HB:=Aside0.mk (Below.refl w.heap.size w);have H:=h;clear h
 unfold spec_nePits.f at H
 have H':=Aside0.mk H;clear H
 go_enter Try.func93,Try.ntmps93
 go_wp2
 go_loopg [9,10] k (fun kq v9 v10 w'=> ∃(x9_1:List (List Int)) (x10_1:Int),v10= .int .i64 x10_1∧Aside0 (spec_nePits.l0 kq l0 l1 l2 a3 x9_1 x10_1=some r)∧Aside0 (kq≤k)∧Aside0 (Kd.S (Kd.slice 3 (Kd.int .i64)) 24 w' w.heap.size (fun k_=>(w.heap.size≤k_)) v9 x9_1)∧Aside0 (Below w.heap.size w w'))
 case atStart=>exact⟨(([]:List (List Int))),(0),eqx,H',⟨Nat.le_refl _⟩,⟨by first|exact Kd.S_nil _ _ _ _ _|exact Kd.N_nil _ _ _ _ _|exact Kd.V_nil _ _ _ _ _|exact Kd.Q_nil _ _ _ _ _|exact Kd.R_nil _ _ _ _ _⟩,⟨cB HB⟩⟩
 case round=>
  clear H';obtain⟨x9_1,x10_1,rfl,HA,HK1,HO_9,HB⟩:=hrel;obtain _|k1:=gk
  ·exact nz HA.out
  have H:=HA.out;clear HA;simp only[spec_nePits.l0]at H;replace H:=itb H;rcases H with⟨c5b0,H⟩|⟨c5b0,H⟩
  ·replace H:=bnd H;obtain⟨t387,A6,H⟩:=H;replace H:=itm H;obtain⟨LMc7,H⟩:=H;obtain⟨y390,Ny390⟩:=nmx ((x9_1++[t387]):List (List Int));rw[←Ny390.out]at H;have H':=Aside0.mk H;clear H
   go_wp2_with(first|(refine cal_ 109 (some 21) Try.func109 #[.slice A0 l0.length c0,.slice A1 l1.length c1,.slice A2 l2.length c2,.int .i64 x10_1] rfl (spec_nePit.calls k1 _ _ l0 _ _ l1 _ _ l2 x10_1 t387 _ ?_ HC0.out ?_ HC1.out ?_ HC2.out A6.out) ?_;exact cb_ HR0 HB;exact cb_ HR1 HB;exact cb_ HR2 HB;rintro e w8 ⟨v388,rfl,ho0,hb⟩;refine⟨_,rfl,?_⟩;replace HO_9:=aS HO_9 (Kd.R_base ho0) hb;have HO389:=Aside0.mk (Kd.R_lower (Kd.R_newM (M:=fun k_=>(w.heap.size≤k_)) ho0 (bz HB) (fun k_ h_=>h_)) (bz HB));replace HB:=bs HB hb;clear hb ho0;obtain⟨Ao10,co10,rfl⟩:=sR HO389)|((with_reducible refine gate_builtin (b:= .append) (xs:= #[.tmp 16,.tmp 22]) rfl ?_);at_builtin;refine Kd.S_append (Kd.slice 3 (Kd.int .i64)) (w0:=w) w.heap.size rfl (.tmp 16) (.tmp 22) 23 24 (.slice none 0 0) 24 rfl Try.underlying23 info24 rfl (by decide) (by omega) u9 x9_1 t387 [.slice Ao10 t387.length co10] (fun k_=>(w.heap.size≤k_)) (fun k_=>some k_=(.slice Ao10 t387.length co10:Value).ownBlock) rfl rfl ?aP (fun k_ hk_=>((Kd.R_mono (ok':=fun k_=>((fun k_=>(w.heap.size≤k_))) k_∧some k_≠(u9:Value).ownBlock) (Kd.R_apart' (HO389.out) (Kd.S_typed HO_9.out) (by decide)) (fun k_ hk=>⟨hk.1.1,hk.2⟩))).1 k_ hk_.symm) ?aF ?aO ?aB ?aS ?aL ?_;(case aP=>exact Kd.M_row (Kd.R_mono (Kd.R_tight rfl (Kd.R_mono (ok':=fun k_=>((fun k_=>(w.heap.size≤k_))) k_∧some k_≠(u9:Value).ownBlock) (Kd.R_apart' (HO389.out) (Kd.S_typed HO_9.out) (by decide)) (fun k_ hk=>⟨hk.1.1,hk.2⟩))) (fun _ h_=>h_)));(case aB=>exact(cB HB));(case aF=>exact(fun k_ hk=>(Nat.le_trans (bz HB) hk)));(case aO=>exact(cS ⟨Kd.S_mono HO_9.out (fun k_ hk=>⟨hk.1,fun e_=>hk.2 e_⟩)⟩));(case aS=>exact(bz HB));(case aL=>have:=LMc7.out;omega);intro v391 w9 ho hb hg hat;rw[←Ny390.out]at ho;have n0_:=Aside0.mk hb;have n1_:=Aside0.mk ho;clear HB HO_9 HO389;have HB:=n0_;have HO392:=n1_;clear n0_ n1_ ho hb hg hat))
   go_roundg k1
   case measure=>have:=HK1.out;omega
   case rel=>exact⟨(y390),(wrap64 (x10_1+1)),eqx,H',⟨by have:=HK1.out;omega⟩,mS HO392,⟨cB HB⟩⟩
  ·obtain rfl:=Option.some.inj H;go_wp2
   go_ret
   exact⟨_,erx,Kd.S_V (cS HO_9),cB HB⟩
def spec_PitsTo.f (k:Nat) (l0:List (List Int)) (l1:List Int) (l2:List Int) (a3:Int):Option ((List (List Int))×Bool):=(spec_neAsked.f k l0 l1 l2 a3).bind fun t393=>(if t393=true then((spec_nePits.f k l0 l1 l2 a3).bind fun t394=>(some (t394,true)))else(some (([]:List (List Int)),false)))
set_option maxHeartbeats 8000000 in
set_option maxRecDepth 100000 in
theorem spec_PitsTo.calls (k:Nat) (A0:Option Addr) (c0:Nat) (l0:List (List Int)) (A1:Option Addr) (c1:Nat) (l1:List Int) (A2:Option Addr) (c2:Nat) (l2:List Int) (a3:Int) (r1:List (List Int)) (r2:Bool) (w:World) (hr0:Kd.C (Kd.slice 3 (Kd.int .i64)) w A0 l0.length l0) (hc0:l0.length≤c0) (hr1:Kd.C (Kd.int .i64) w A1 l1.length l1) (hc1:l1.length≤c1) (hr2:Kd.C (Kd.int .i64) w A2 l2.length l2) (hc2:l2.length≤c2) (h:spec_PitsTo.f k l0 l1 l2 a3=some (r1,r2)):
  Calls Try.prog 36 #[.slice A0 l0.length c0,.slice A1 l1.length c1,.slice A2 l2.length c2,.int .i64 a3] w fun e w'=> ∃v0_:Value,e= .returned (.tuple #[v0_,.bool r2])∧Kd.V (Kd.slice 3 (Kd.int .i64)) 24 w' w.heap.size (fun k_=>(w.heap.size≤k_)) v0_ r1∧Below w.heap.size w w':=by
 have HR0:=Aside0.mk hr0;have HC0:=Aside0.mk hc0;clear hr0 hc0;have HR1:=Aside0.mk hr1;have HC1:=Aside0.mk hc1;clear hr1 hc1;have HR2:=Aside0.mk hr2;have HC2:=Aside0.mk hc2;clear hr2 hc2;have HB:=Aside0.mk (Below.refl w.heap.size w);have H:=h;clear h
 unfold spec_PitsTo.f at H
 replace H:=bnd H;obtain⟨t393,A5,H⟩:=H;replace H:=itt H;rcases H with⟨rfl,H⟩|⟨rfl,H⟩
 ·replace H:=bnd H;obtain⟨t394,A7,H⟩:=H;simp only[Option.some.injEq,Prod.mk.injEq]at H;obtain⟨rfl,rfl⟩:=H
  go_enter Try.func36,Try.ntmps36
  go_wp2_with(first|(refine cal_ 92 (some 14) Try.func92 #[.slice A0 l0.length c0,.slice A1 l1.length c1,.slice A2 l2.length c2,.int .i64 a3] rfl (spec_neAsked.calls k _ _ l0 _ _ l1 _ _ l2 a3 true _ ?_ HC0.out ?_ HC1.out ?_ HC2.out A5.out) ?_;exact cC HR0;exact cC HR1;exact cC HR2;rintro e w' ⟨rfl,⟨nd,rfl⟩⟩;refine⟨_,rfl,?_⟩)|(refine cal_ 93 (some 20) Try.func93 #[.slice A0 l0.length c0,.slice A1 l1.length c1,.slice A2 l2.length c2,.int .i64 a3] rfl (spec_nePits.calls k _ _ l0 _ _ l1 _ _ l2 a3 t394 _ ?_ HC0.out ?_ HC1.out ?_ HC2.out A7.out) ?_;exact cC HR0;exact cC HR1;exact cC HR2;rintro e w8 ⟨v395,rfl,ho0,hb⟩;refine⟨_,rfl,?_⟩;have HO396:=Aside0.mk (Kd.V_lower (Kd.V_mono (ok':=fun k_=>(w.heap.size≤k_)) ho0 (fun k_ hk_=>(Nat.le_trans (bz HB) hk_))) (bz HB));replace HB:=bs HB hb;clear hb ho0))
  go_ret2
  exact⟨_,erx,by(with_reducible repeat(first|apply Kd.V_alloc|apply Kd.V_drewN|apply Kd.V_drew));exact HO396.out,cB HB⟩
 ·simp only[Option.some.injEq,Prod.mk.injEq]at H;obtain⟨rfl,rfl⟩:=H
  go_enter Try.func36,Try.ntmps36
  go_wp2_with(first|(refine cal_ 92 (some 14) Try.func92 #[.slice A0 l0.length c0,.slice A1 l1.length c1,.slice A2 l2.length c2,.int .i64 a3] rfl (spec_neAsked.calls k _ _ l0 _ _ l1 _ _ l2 a3 false _ ?_ HC0.out ?_ HC1.out ?_ HC2.out A5.out) ?_;exact cC HR0;exact cC HR1;exact cC HR2;rintro e w' ⟨rfl,⟨nd,rfl⟩⟩;refine⟨_,rfl,?_⟩))
  go_ret2
  exact⟨_,erx,nlx,cB HB⟩
end Go.Proofs.Ytlkppimbbbdmbaa.PFnFactors
