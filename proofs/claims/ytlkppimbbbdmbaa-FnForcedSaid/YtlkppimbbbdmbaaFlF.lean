/- Taken from a printed text (a changed copy of the printer): the networks of arcs and values, as both texts of the program write them, and the blocks of a cut. -/
import Derived.Test.YtlkppimbbbdmbaaProg
import Derived.Below
import Derived.Deep.Draws
import Derived.Deep.AppendLies
import Derived.Maps.AppendAt
import Derived.OwnWalk
import Derived.Laws.BytesArg
import Derived.Laws.MakeOwn
import Derived.Laws.OwnMore
import Derived.Deep.OwnRows
import Derived.Tactics
import Derived.Lib.ConvBytes
import Derived.Laws.Slices
import Derived.WalkKit
import Derived.KernelRfl
import Derived.RowKit3
import Derived.Deep.LoopGhost
import Derived.Deep.QuietTactic
import Derived.BigQuiet
import Derived.WideLaws
import Derived.Deep.DeepCutAuto
import Derived.Deep.CutBlock
import Derived.Deep.RegionHeld3
import Derived.Laws.Rows
import Derived.Lib.AppendStr
import Derived.ArgAppend
import Derived.Laws.IdiomCopy
import Derived.OrdersHeld
import Derived.Laws.BitsLemmas
import Derived.RowKit
import Derived.Test.YtlkppimbbbdmbaaWWords
import Derived.Test.YtlkppimbbbdmbaaWLast
import Derived.Test.YtlkppimbbbdmbaaWTab
import Derived.Test.YtlkppimbbbdmbaaWFour
import Derived.Test.YtlkppimbbbdmbaaWQPut
import Derived.Test.YtlkppimbbbdmbaaWApart
import Derived.Test.YtlkppimbbbdmbaaWArr
import Derived.Test.YtlkppimbbbdmbaaWZeros
import Derived.Test.YtlkppimbbbdmbaaWFoot
import Derived.Test.YtlkppimbbbdmbaaWKept
import Derived.Test.YtlkppimbbbdmbaaWShare
import Derived.Test.YtlkppimbbbdmbaaWN
import Derived.Test.YtlkppimbbbdmbaaWFootNe
import Derived.Test.YtlkppimbbbdmbaaWAt
import Derived.Test.YtlkppimbbbdmbaaWEqStruct
import Derived.Test.YtlkppimbbbdmbaaWRepsOne
import Derived.Test.YtlkppimbbbdmbaaWInv
import Derived.Test.YtlkppimbbbdmbaaWInvWords
import Derived.Test.YtlkppimbbbdmbaaWGuard
import Derived.Test.YtlkppimbbbdmbaaWNEv
import Derived.Test.YtlkppimbbbdmbaaWMore
import Derived.Test.YtlkppimbbbdmbaaFlA
import Derived.Test.YtlkppimbbbdmbaaGen
import Derived.Test.YtlkppimbbbdmbaaWTight
namespace Go.Proofs.Ytlkppimbbbdmbaa.NetP
open Go.RowKit Go.Proofs.YtlkppimbbbdmbaaW.PrintWords Go.Proofs.YtlkppimbbbdmbaaW.PrintLast Go.Proofs.YtlkppimbbbdmbaaW.PrintMore
attribute [local go_sem] max2_int min2_int max_two min_two max_three min_three max_four min_four
set_option linter.unusedVariables false
set_option linter.unusedSimpArgs false
def errW:Option Int→Value
 |none=> .nilIface
 |some c=> .iface 0 (.int .i64 c)
theorem errW_none:errW none= .nilIface:=rfl
theorem errW_some (c:Int):errW (some c)= .iface 0 (.int .i64 c):=rfl
theorem info3:(Try.prog.info? 3).map (fun i=>(i.zero,i.size,i.bytes))=some (some (.int .i64 0),1,8):=by kernel_rfl
theorem info87:(Try.prog.info? 87).map (fun i=>(i.zero,i.size,i.bytes))=some (some (.agg #[(.int .i64 0),(.int .i64 0),(.int .i64 0)]),3,24):=by kernel_rfl
def rd_L1 (xs:List (List Int)) (i:Int):(List Int):=xs.getD i.toNat ([]:List Int)
theorem at_L1 {w:World} {A:Option Addr} {n:Nat} {xs:List (List Int)} (h:Kd.C (Kd.slice 3 (Kd.int .i64)) w A n xs) (i:Int) (h0:0≤i) (h1:i<n): ∃ad A0 c0,A=some ad∧w.cell? (ad.add i.toNat)=some (.slice A0 (rd_L1 xs i).length c0)∧(rd_L1 xs i).length≤c0∧(Kd.int .i64).C w A0 (rd_L1 xs i).length (rd_L1 xs i):=by
 obtain⟨ad,c,e,_,hK,hc0⟩:=Kd.C_get h ([]:List Int) i h0 h1;have hc: ∀j u,c[j]?=some u→w.cell? (ad.add (i.toNat*1+j))=some u:=hc0;obtain⟨A0,c0,rfl,l0,g0⟩:=hK;exact⟨ad,A0,c0,e,by have hq:=hc 0 _ rfl;rwa [Nat.mul_one,Nat.add_zero]at hq,l0,g0⟩
structure S87 where
 f0:Int
 f1:Int
 f2:Int
def k87:Kd S87:=Kd.iso (Kd.pair (Kd.int .i64) (Kd.pair (Kd.int .i64) (Kd.int .i64))) (fun x:S87=>(x.f0,x.f1,x.f2))
theorem k87_open {w:World} {x:S87} {cs:List Value} (h:k87.K w x cs):cs=[.int .i64 x.f0,.int .i64 x.f1,.int .i64 x.f2]:=by
 obtain⟨_,_,rfl,rfl,⟨_,_,rfl,rfl,rfl⟩⟩:=h;exact rfl
theorem k87_mkM (w:World) (base:Nat) (ok:Nat→Prop) (x:S87):k87.M w base ok x [.int .i64 x.f0,.int .i64 x.f1,.int .i64 x.f2]:=⟨[.int .i64 x.f0],[.int .i64 x.f1,.int .i64 x.f2],rfl,rfl,⟨[.int .i64 x.f1],[.int .i64 x.f2],rfl,rfl,rfl⟩⟩
def spec_paOf.l0:Nat→List Int→List Int→Int→Int→Option (List Int)
 |0,_,_,_,_=>none
 |k+1,x3,x7,x8,x9=>if x9<x8 then(if 0≤x9 then(if x9<(x7.length:Int)then(if x3.length<17592186044416 then(spec_paOf.l0 k (x3++[wrap64 ((rd x7 x9)-1)]) x7 x8 (wrap64 (x9+1)))else(none))else(none))else(none))else(some x3)
def spec_paOf.f (k:Nat) (l0:List Int):Option (List Int):=if 1≤(l0.length:Int)then(spec_paOf.l0 k ([]:List Int) (l0.drop 1) ((l0.drop 1).length:Int) 0)else(none)
set_option maxHeartbeats 8000000 in
set_option maxRecDepth 100000 in
theorem spec_paOf.calls (k:Nat) (A0:Option Addr) (c0:Nat) (l0:List Int) (r:List Int) (w:World) (hr0:Kd.C (Kd.int .i64) w A0 l0.length l0) (hc0:l0.length≤c0) (h:spec_paOf.f k l0=some r):
  Calls Try.prog 137 #[.slice A0 l0.length c0] w fun e w'=> ∃v0_:Value,e= .returned (v0_)∧Kd.R (Kd.int .i64) 3 w' w.heap.size (fun _=>True) v0_ r∧Below w.heap.size w w':=by
 have HR0:=Aside0.mk hr0;have HC0:=Aside0.mk hc0;clear hr0 hc0;have HB:=Aside0.mk (Below.refl w.heap.size w);have H:(if 1≤(l0.length:Int)then(spec_paOf.l0 k ([]:List Int) (l0.drop 1) ((l0.drop 1).length:Int) 0)else(none))=some r:=h;clear h
 by_cases c2:1≤(l0.length:Int)
 ·rw[if_pos c2]at H;have c2b0:=eq_true c2;have c2b1:=decide_eq_true c2;clear c2;have H':=Aside0.mk H;clear H;obtain⟨i03,hi03,_,hsz3,_⟩:=info_parts info3;obtain⟨A3,hcut3,hA3,hC3⟩:=print_drop_of (P:=Try.prog) (Value.int .i64) 0 24 3 .i64 Try.underlying24 hi03 hsz3 A0 c0 l0 1 (by omega) (of_decide_eq_true asx) HC0.out;have HR300:=Aside0.mk (Kd.C_of_reads (h1:=fun _=>rfl) (hA3 _ (Kd.reads_of_C HR0.out)));have HC300:=Aside0.mk hC3;clear hA3 hC3 hi03 hsz3
  go_enter Try.func137,Try.ntmps137
  go_wp2
  go_loopg [3,9] k (fun kq v3 v9 w'=> ∃(x3_1:List Int) (x9_1:Int),v9= .int .i64 x9_1∧Aside0 (spec_paOf.l0 kq x3_1 (l0.drop 1) ((l0.drop 1).length:Int) x9_1=some r)∧Aside0 (kq≤k)∧Aside0 (Kd.R (Kd.int .i64) 3 w' w.heap.size (fun _=>True) v3 x3_1)∧Aside0 (Below w.heap.size w w'))
  case atStart=>exact⟨(([]:List Int)),(0),eqx,H',⟨Nat.le_refl _⟩,⟨nlx⟩,⟨cB HB⟩⟩
  case round=>
   clear H';(try clear c1);(try clear c2);(try clear c2b0);(try clear c2b1);(try clear p2);obtain⟨x3_1,x9_1,rfl,HA,HK1,HO_3,HB⟩:=hrel;cases gk with
   |zero=>exact absurd HA.out (by simp[spec_paOf.l0])
   |succ k1=>
    have H:=HA.out;clear HA;simp only[spec_paOf.l0]at H
    by_cases c4:x9_1<((l0.drop 1).length:Int)
    ·rw[if_pos c4]at H;have c4b0:=decide_eq_true c4;have c4b0':decide (x9_1<((l0.length-1:Nat):Int))=true:=by have q:=c4b0;rw[List.length_drop]at q;exact q
     clear c4
     by_cases c5:0≤x9_1
     ·rw[if_pos c5]at H;have c5b0:=decide_eq_true c5;clear c5
      by_cases c6:x9_1<((l0.drop 1).length:Int)
      ·rw[if_pos c6]at H;have c6b0:=decide_eq_true c6;have c6b0':decide (x9_1<((l0.length-1:Nat):Int))=true:=by have q:=c6b0;rw[List.length_drop]at q;exact q
       clear c6
       by_cases c7:x3_1.length<17592186044416
       ·rw[if_pos c7]at H;have LMc7:=Aside0.mk c7;clear c7;obtain⟨y302,hy302⟩: ∃y_:List Int,y_=(x3_1++[wrap64 ((rd (l0.drop 1) x9_1)-1)]):=⟨_,rfl⟩;replace H:(spec_paOf.l0 k1 y302 (l0.drop 1) ((l0.drop 1).length:Int) (wrap64 (x9_1+1)))=some r:=by first|(rw[hy302];with_reducible exact H)|(have H2_:=(Option.bind_some _ _).symm.trans H;rw[hy302];with_reducible exact H2_)|(have H2_:=(Option.bind_some _ _).symm.trans H;with_reducible exact H2_)|with_reducible exact H|(rw[hy302];exact H)|exact H
        have Ny302:=Aside0.mk (show y302=x3_1++[wrap64 ((rd l0.tail x9_1)-1)] by rw[hy302,List.drop_one]);clear hy302;have H':=Aside0.mk H;clear H;have p301:0≤(x9_1:Int):=of_decide_eq_true asx;have q301:x9_1<((l0.drop 1).length:Int):=of_decide_eq_true asx;obtain⟨ad301,e301,hx301_0⟩:=Kd.at_int HR300.out x9_1 p301 q301;cases e301;replace hx301_0:=hc_ HB hx301_0;replace p301:=eq_true p301;have q301':(x9_1<((l0.length-1:Nat):Int))=True:=by rw[List.length_drop]at q301;exact eq_true q301
        replace q301:=eq_true q301
        go_wp2_with(first|((with_reducible refine gate_builtin (b:= .append) (xs:= #[.tmp 13,.tmp 16]) rfl ?_);at_builtin;refine Kd.R_append (Kd.int .i64) (w0:=w) w.heap.size rfl (.tmp 13) (.tmp 16) 24 3 (.int .i64 0) 8 rfl Try.underlying24 info3 rfl (by decide) (by omega) u3 x3_1 (wrap64 ((rd l0.tail x9_1)-1)) [.int .i64 (wrap64 ((rd l0.tail x9_1)-1))] (fun _=>True) (fun _=>False) rfl rfl ?aP (fun _ hk=>hk.elim) ?aF ?aO ?aB ?aS ?aL ?_;(case aP=>exact rfl);(case aB=>exact(cB HB));(case aF=>exact(fun _ _=>trivial));(case aO=>exact(cR HO_3));(case aS=>exact(bz HB));(case aL=>have:=LMc7.out;omega);intro v303 w8 ho hb hg hat;rw[←Ny302.out]at ho;have n0_:=Aside0.mk hb;have n1_:=Aside0.mk ho;clear HB HO_3;have HB:=n0_;have HO304:=n1_;clear n0_ n1_ ho hb hg hat))
        go_roundg k1
        case measure=>have:=HK1.out;omega
        case rel=>exact⟨(y302),(wrap64 (x9_1+1)),eqx,H',⟨by have:=HK1.out;omega⟩,⟨cR HO304⟩,⟨cB HB⟩⟩
       ·rw[if_neg c7]at H;exact absurd H (by simp)
      ·rw[if_neg c6]at H;exact absurd H (by simp)
     ·rw[if_neg c5]at H;exact absurd H (by simp)
    ·rw[if_neg c4]at H;have c4b0:=decide_eq_false c4;have c4b0':decide (x9_1<((l0.length-1:Nat):Int))=false:=by have q:=c4b0;rw[List.length_drop]at q;exact q
     clear c4;obtain rfl:=Option.some.inj H;go_wp2
     go_ret
     exact⟨_,erx,by(with_reducible repeat(first|apply Kd.R_alloc|apply Kd.R_drewN|apply Kd.R_drew));exact HO_3.out,cB HB⟩
 ·rw[if_neg c2]at H;exact absurd H (by simp)
mutual
def spec_paEdges.l0:Nat→List (List Int)→List Int→List (S87)→List (List Int)→Int→Int→Option ((List (S87)))
 |0,_,_,_,_,_,_=>none
 |k+1,x0,x1,x5,x11,x12,x13=>if x13<x12 then(if 0≤x13 then(if x13<(x11.length:Int)then(if x13<(x1.length:Int)then(if(rd x1 x13)>0 then(if x5.length<5864062014805 then(spec_paEdges.j1 k x0 x1 (x5++[(⟨0,wrap64 (x13+1),rd x1 x13⟩:S87)]) x13 (rd_L1 x11 x13) x11 x12 x13)else(none))else(if(rd x1 x13)<0 then(if x5.length<5864062014805 then(spec_paEdges.j1 k x0 x1 (x5++[(⟨wrap64 (x13+1),wrap64 ((x0.length:Int)+1),wrap64 (-(rd x1 x13))⟩:S87)]) x13 (rd_L1 x11 x13) x11 x12 x13)else(none))else(spec_paEdges.j1 k x0 x1 x5 x13 (rd_L1 x11 x13) x11 x12 x13)))else(none))else(none))else(none))else(some x5)
def spec_paEdges.j1:Nat→List (List Int)→List Int→List (S87)→Int→List Int→List (List Int)→Int→Int→Option ((List (S87)))
 |0,_,_,_,_,_,_,_,_=>none
 |k+1,x0,x1,x5,x6,x7,x11,x12,x13=>spec_paEdges.l1 k x0 x1 x5 x6 x11 x12 x13 x7 (x7.length:Int) 0
def spec_paEdges.l1:Nat→List (List Int)→List Int→List (S87)→Int→List (List Int)→Int→Int→List Int→Int→Int→Option ((List (S87)))
 |0,_,_,_,_,_,_,_,_,_,_=>none
 |k+1,x0,x1,x5,x6,x11,x12,x13,x46,x47,x48=>if x48<x47 then(if 0≤x48 then(if x48<(x46.length:Int)then(if x5.length<5864062014805 then(spec_paEdges.l1 k x0 x1 (x5++[(⟨wrap64 (x6+1),wrap64 ((rd x46 x48)+1),1000000000⟩:S87)]) x6 x11 x12 x13 x46 x47 (wrap64 (x48+1)))else(none))else(none))else(none))else(spec_paEdges.l0 k x0 x1 x5 x11 x12 (wrap64 (x13+1)))
end
def spec_paEdges.f (k:Nat) (l0:List (List Int)) (l1:List Int):Option ((List (S87))):=spec_paEdges.l0 k l0 l1 ([]:List (S87)) l0 (l0.length:Int) 0
set_option maxHeartbeats 8000000 in
set_option maxRecDepth 100000 in
theorem spec_paEdges.calls (k:Nat) (A0:Option Addr) (c0:Nat) (l0:List (List Int)) (A1:Option Addr) (c1:Nat) (l1:List Int) (r:List (S87)) (w:World) (hr0:Kd.C (Kd.slice 3 (Kd.int .i64)) w A0 l0.length l0) (hc0:l0.length≤c0) (hr1:Kd.C (Kd.int .i64) w A1 l1.length l1) (hc1:l1.length≤c1) (h:spec_paEdges.f k l0 l1=some r):
  Calls Try.prog 76 #[.slice A0 l0.length c0,.slice A1 l1.length c1] w fun e w'=> ∃v0_:Value,e= .returned (v0_)∧Kd.R k87 87 w' w.heap.size (fun _=>True) v0_ r∧Below w.heap.size w w':=by
 have hu87:=Try.underlying87;have HR0:=Aside0.mk hr0;have HC0:=Aside0.mk hc0;clear hr0 hc0;have HR1:=Aside0.mk hr1;have HC1:=Aside0.mk hc1;clear hr1 hc1;have HB:=Aside0.mk (Below.refl w.heap.size w);have H:(spec_paEdges.l0 k l0 l1 ([]:List (S87)) l0 (l0.length:Int) 0)=some r:=h;clear h;have H':=Aside0.mk H;clear H
 go_enter Try.func76,Try.ntmps76
 go_wp2
 go_loopg [5,13] k (fun kq v5 v13 w'=> ∃(x5_1:List (S87)) (x13_1:Int),v13= .int .i64 x13_1∧Aside0 (spec_paEdges.l0 kq l0 l1 x5_1 l0 (l0.length:Int) x13_1=some r)∧Aside0 (kq≤k)∧Aside0 (Kd.R k87 87 w' w.heap.size (fun _=>True) v5 x5_1)∧Aside0 (Below w.heap.size w w'))
 case atStart=>exact⟨(([]:List (S87))),(0),eqx,H',⟨Nat.le_refl _⟩,⟨nlx⟩,⟨cB HB⟩⟩
 case round=>
  clear H';(try clear c1);(try clear p2);obtain⟨x5_1,x13_1,rfl,HA,HK1,HO_5,HB⟩:=hrel;cases gk with
  |zero=>exact absurd HA.out (by simp[spec_paEdges.l0])
  |succ k1=>
   have H:=HA.out;clear HA;simp only[spec_paEdges.l0]at H
   by_cases c3:x13_1<(l0.length:Int)
   ·rw[if_pos c3]at H;have c3b0:=decide_eq_true c3;clear c3
    by_cases c4:0≤x13_1
    ·rw[if_pos c4]at H;have c4b0:=decide_eq_true c4;clear c4
     by_cases c5:x13_1<(l0.length:Int)
     ·rw[if_pos c5]at H;have c5b0:=decide_eq_true c5;clear c5
      by_cases c6:x13_1<(l1.length:Int)
      ·rw[if_pos c6]at H;have c6b0:=decide_eq_true c6;clear c6;have HC7:=Aside0.mk H;clear H;have p288:0≤(x13_1:Int):=of_decide_eq_true asx;have q288:x13_1<(l0.length:Int):=of_decide_eq_true asx;obtain⟨ad288,A288_0,c288_0,e288,hx288_0,hl288_0,hi288_0⟩:=at_L1 HR0.out x13_1 p288 q288;cases e288;replace hx288_0:=hc_ HB hx288_0;have HR288_0:=Aside0.mk hi288_0;have HC288_0:=Aside0.mk hl288_0;clear hi288_0 hl288_0;replace p288:=eq_true p288;replace q288:=eq_true q288;obtain⟨ad289,e289,hx289_0,p289,q289⟩:=ldi (i:=x13_1) HR1.out;cases e289;replace hx289_0:=hc_ HB hx289_0
       go_upto_block 2 with(fail)
       go_cut [5] (fun v5 wc=> ∃(kq:Nat) (x5_6:List (S87)),Aside0 (spec_paEdges.j1 kq l0 l1 x5_6 x13_1 (rd_L1 l0 x13_1) l0 (l0.length:Int) x13_1=some r)∧Aside0 (kq≤k1)∧Aside0 (Kd.R k87 87 wc w.heap.size (fun _=>True) v5 x5_6)∧Aside0 (Below w.heap.size w wc))
       case first=>
        have H:=HC7.out;clear HC7
        by_cases c8:(rd l1 x13_1)>0
        ·rw[if_pos c8]at H;have c8b0:=decide_eq_true c8;clear c8
         (first|rw[c8b0]|(simp only[i64_w,i32_w];rw[c8b0])|skip)
         by_cases c9:x5_1.length<5864062014805
         ·rw[if_pos c9]at H;have LMc9:=Aside0.mk c9;clear c9;obtain⟨y290,Ny290⟩:=nmx (x5_1++[(⟨0,wrap64 (x13_1+1),rd l1 x13_1⟩:S87)]);rw[←Ny290.out]at H;have H':=Aside0.mk H;clear H
          go_wp2_with(first|((with_reducible refine gate_builtin (b:= .append) (xs:= #[.tmp 25,.tmp 30]) rfl ?_);at_builtin;refine Kd.R_append k87 (w0:=w) w.heap.size rfl (.tmp 25) (.tmp 30) 27 87 (.agg #[(.int .i64 0),(.int .i64 0),(.int .i64 0)]) 24 rfl Try.underlying27 info87 rfl (by decide) (by omega) u5 x5_1 (⟨0,wrap64 (x13_1+1),rd l1 x13_1⟩:S87) [.int .i64 0,.int .i64 (wrap64 (x13_1+1)),.int .i64 (rd l1 x13_1)] (fun _=>True) (fun _=>False) rfl rfl ?aP (fun _ hk=>hk.elim) ?aF ?aO ?aB ?aS ?aL ?_;(case aP=>exact k87_mkM _ _ _ (⟨0,wrap64 (x13_1+1),rd l1 x13_1⟩:S87));(case aB=>exact(cB HB));(case aF=>exact(fun _ _=>trivial));(case aO=>exact(cR HO_5));(case aS=>exact(bz HB));(case aL=>have:=LMc9.out;omega);intro v291 w10 ho hb hg hat;rw[←Ny290.out]at ho;have n0_:=Aside0.mk hb;have n1_:=Aside0.mk ho;clear HB HO_5;have HB:=n0_;have HO292:=n1_;clear n0_ n1_ ho hb hg hat))
          go_meet
          case rel=>exact⟨_,(y290),H',⟨by have:=HK1.out;first|omega|exact Nat.le_refl _⟩,⟨cR HO292⟩,⟨cB HB⟩⟩
         ·rw[if_neg c9]at H;exact absurd H (by simp)
        ·rw[if_neg c8]at H;have c8b0:=decide_eq_false c8;clear c8
         (first|rw[c8b0]|(simp only[i64_w,i32_w];rw[c8b0])|skip)
         by_cases c11:(rd l1 x13_1)<0
         ·rw[if_pos c11]at H;have c11b0:=decide_eq_true c11;clear c11
          by_cases c12:x5_1.length<5864062014805
          ·rw[if_pos c12]at H;have LMc12:=Aside0.mk c12;clear c12;obtain⟨y293,Ny293⟩:=nmx (x5_1++[(⟨wrap64 (x13_1+1),wrap64 ((l0.length:Int)+1),wrap64 (-(rd l1 x13_1))⟩:S87)]);rw[←Ny293.out]at H;have H':=Aside0.mk H;clear H
           go_wp2_with(first|((with_reducible refine gate_builtin (b:= .append) (xs:= #[.tmp 35,.tmp 44]) rfl ?_);at_builtin;refine Kd.R_append k87 (w0:=w) w.heap.size rfl (.tmp 35) (.tmp 44) 27 87 (.agg #[(.int .i64 0),(.int .i64 0),(.int .i64 0)]) 24 rfl Try.underlying27 info87 rfl (by decide) (by omega) u5 x5_1 (⟨wrap64 (x13_1+1),wrap64 ((l0.length:Int)+1),wrap64 (-(rd l1 x13_1))⟩:S87) [.int .i64 (wrap64 (x13_1+1)),.int .i64 (wrap64 ((l0.length:Int)+1)),.int .i64 (wrap64 (-(rd l1 x13_1)))] (fun _=>True) (fun _=>False) rfl rfl ?aP (fun _ hk=>hk.elim) ?aF ?aO ?aB ?aS ?aL ?_;(case aP=>exact k87_mkM _ _ _ (⟨wrap64 (x13_1+1),wrap64 ((l0.length:Int)+1),wrap64 (-(rd l1 x13_1))⟩:S87));(case aB=>exact(cB HB));(case aF=>exact(fun _ _=>trivial));(case aO=>exact(cR HO_5));(case aS=>exact(bz HB));(case aL=>have:=LMc12.out;omega);intro v294 w13 ho hb hg hat;rw[←Ny293.out]at ho;have n0_:=Aside0.mk hb;have n1_:=Aside0.mk ho;clear HB HO_5;have HB:=n0_;have HO295:=n1_;clear n0_ n1_ ho hb hg hat))
           go_meet
           case rel=>exact⟨_,(y293),H',⟨by have:=HK1.out;first|omega|exact Nat.le_refl _⟩,⟨cR HO295⟩,⟨cB HB⟩⟩
          ·rw[if_neg c12]at H;exact absurd H (by simp)
         ·rw[if_neg c11]at H;have c11b0:=decide_eq_false c11;clear c11;have H':=Aside0.mk H;clear H;go_wp2
          go_meet
          case rel=>exact⟨_,(x5_1),H',⟨by have:=HK1.out;first|omega|exact Nat.le_refl _⟩,⟨cR HO_5⟩,⟨cB HB⟩⟩
       case rest=>
        clear HC7;(try clear c1);(try clear c2);(try clear p2);(try clear q2);(try clear hx2);(try clear c3);(try clear c3b0);(try clear c4);(try clear c4b0);(try clear c5);(try clear c5b0);(try clear c6);(try clear c6b0);(try clear p6);(try clear c7);(try clear c8);(try clear c8b0);(try clear c9);(try clear c11);(try clear c11b0);(try clear c12);(try clear hx288_0);(try clear hx289_0);(try clear p2);(try clear p288);(try clear p289);(try clear q288);(try clear q289);obtain⟨kq,x5_6,HA,HJ6,HO_5,HB⟩:=hcut;cases kq with
        |zero=>exact absurd HA.out (by simp[spec_paEdges.j1])
        |succ kj6=>
         have H:=HA.out;clear HA;simp only[spec_paEdges.j1]at H;have H':=Aside0.mk H;clear H;go_wp2
         go_loopg [5,48] kj6 (fun kq v5 v48 w'=> ∃(x5_3:List (S87)) (x48_3:Int),v48= .int .i64 x48_3∧Aside0 (spec_paEdges.l1 kq l0 l1 x5_3 x13_1 l0 (l0.length:Int) x13_1 (rd_L1 l0 x13_1) ((rd_L1 l0 x13_1).length:Int) x48_3=some r)∧Aside0 (kq≤kj6)∧Aside0 (Kd.R k87 87 w' w.heap.size (fun _=>True) v5 x5_3)∧Aside0 (Below w.heap.size w w'))
         case atStart=>exact⟨(x5_6),(0),eqx,H',⟨Nat.le_refl _⟩,⟨cR HO_5⟩,⟨cB HB⟩⟩
         case round=>
          clear H';(try clear c1);(try clear c2);(try clear p2);(try clear q2);(try clear hx2);(try clear c3);(try clear c3b0);(try clear c4);(try clear c4b0);(try clear c5);(try clear c5b0);(try clear c6);(try clear c6b0);(try clear p6);(try clear c7);(try clear c8);(try clear c8b0);(try clear c9);(try clear c11);(try clear c11b0);(try clear c12);(try clear hx288_0);(try clear hx289_0);(try clear p2);(try clear p288);(try clear p289);(try clear p6);(try clear q2);(try clear q288);(try clear q289);obtain⟨x5_3,x48_3,rfl,HA,HK3,HO_5,HB⟩:=hrel;cases gk with
          |zero=>exact absurd HA.out (by simp[spec_paEdges.l1])
          |succ k3=>
           have H:=HA.out;clear HA;simp only[spec_paEdges.l1]at H
           by_cases c14:x48_3<((rd_L1 l0 x13_1).length:Int)
           ·rw[if_pos c14]at H;have c14b0:=decide_eq_true c14;clear c14
            by_cases c15:0≤x48_3
            ·rw[if_pos c15]at H;have c15b0:=decide_eq_true c15;clear c15
             by_cases c16:x48_3<((rd_L1 l0 x13_1).length:Int)
             ·rw[if_pos c16]at H;have c16b0:=decide_eq_true c16;clear c16
              by_cases c17:x5_3.length<5864062014805
              ·rw[if_pos c17]at H;have LMc17:=Aside0.mk c17;clear c17;obtain⟨y297,Ny297⟩:=nmx (x5_3++[(⟨wrap64 (x13_1+1),wrap64 ((rd (rd_L1 l0 x13_1) x48_3)+1),1000000000⟩:S87)]);rw[←Ny297.out]at H;have H':=Aside0.mk H;clear H;obtain⟨ad296,e296,hx296_0,p296,q296⟩:=ldi (i:=x48_3) HR288_0.out;cases e296;replace hx296_0:=hc_ HB hx296_0
               go_wp2_with(first|((with_reducible refine gate_builtin (b:= .append) (xs:= #[.tmp 52,.tmp 58]) rfl ?_);at_builtin;refine Kd.R_append k87 (w0:=w) w.heap.size rfl (.tmp 52) (.tmp 58) 27 87 (.agg #[(.int .i64 0),(.int .i64 0),(.int .i64 0)]) 24 rfl Try.underlying27 info87 rfl (by decide) (by omega) u5 x5_3 (⟨wrap64 (x13_1+1),wrap64 ((rd (rd_L1 l0 x13_1) x48_3)+1),1000000000⟩:S87) [.int .i64 (wrap64 (x13_1+1)),.int .i64 (wrap64 ((rd (rd_L1 l0 x13_1) x48_3)+1)),.int .i64 1000000000] (fun _=>True) (fun _=>False) rfl rfl ?aP (fun _ hk=>hk.elim) ?aF ?aO ?aB ?aS ?aL ?_;(case aP=>exact k87_mkM _ _ _ (⟨wrap64 (x13_1+1),wrap64 ((rd (rd_L1 l0 x13_1) x48_3)+1),1000000000⟩:S87));(case aB=>exact(cB HB));(case aF=>exact(fun _ _=>trivial));(case aO=>exact(cR HO_5));(case aS=>exact(bz HB));(case aL=>have:=LMc17.out;omega);intro v298 w18 ho hb hg hat;rw[←Ny297.out]at ho;have n0_:=Aside0.mk hb;have n1_:=Aside0.mk ho;clear HB HO_5;have HB:=n0_;have HO299:=n1_;clear n0_ n1_ ho hb hg hat))
               go_roundg k3
               case measure=>have:=HK1.out;have:=HJ6.out;have:=HK3.out;omega
               case rel=>exact⟨(y297),(wrap64 (x48_3+1)),eqx,H',⟨by have:=HK1.out;have:=HJ6.out;have:=HK3.out;omega⟩,⟨cR HO299⟩,⟨cB HB⟩⟩
              ·rw[if_neg c17]at H;exact absurd H (by simp)
             ·rw[if_neg c16]at H;exact absurd H (by simp)
            ·rw[if_neg c15]at H;exact absurd H (by simp)
           ·rw[if_neg c14]at H;have c14b0:=decide_eq_false c14;clear c14;have H':=Aside0.mk H;clear H;go_wp2
            go_roundg k3
            case measure=>have:=HK1.out;have:=HJ6.out;have:=HK3.out;omega
            case rel=>exact⟨(x5_3),(wrap64 (x13_1+1)),eqx,H',⟨by have:=HK1.out;have:=HJ6.out;have:=HK3.out;omega⟩,⟨cR HO_5⟩,⟨cB HB⟩⟩
      ·rw[if_neg c6]at H;exact absurd H (by simp)
     ·rw[if_neg c5]at H;exact absurd H (by simp)
    ·rw[if_neg c4]at H;exact absurd H (by simp)
   ·rw[if_neg c3]at H;have c3b0:=decide_eq_false c3;clear c3;obtain rfl:=Option.some.inj H;go_wp2
    go_ret
    exact⟨_,erx,by(with_reducible repeat(first|apply Kd.R_alloc|apply Kd.R_drewN|apply Kd.R_drew));exact HO_5.out,cB HB⟩
mutual
def impl_pitNetwork.l0:Nat→List (List Int)→Int→List (S87)→List Int→Int→Int→Option (Int×(List (S87)))
 |0,_,_,_,_,_,_=>none
 |k+1,x0,x6,x7,x16,x17,x18=>if x18<x17 then(if 0≤x18 then(if x18<(x16.length:Int)then(if(rd x16 x18)>0 then(if x7.length<5864062014805 then(impl_pitNetwork.j1 k x0 x6 (x7++[(⟨0,wrap64 (x18+1),rd x16 x18⟩:S87)]) x18 (rd x16 x18) x16 x17 x18)else(none))else(impl_pitNetwork.j1 k x0 x6 x7 x18 (rd x16 x18) x16 x17 x18))else(none))else(none))else(some (x6,x7))
def impl_pitNetwork.j1:Nat→List (List Int)→Int→List (S87)→Int→Int→List Int→Int→Int→Option (Int×(List (S87)))
 |0,_,_,_,_,_,_,_,_=>none
 |k+1,x0,x6,x7,x8,x9,x16,x17,x18=>if x9<0 then(if x7.length<5864062014805 then(impl_pitNetwork.j2 k x0 x6 (x7++[(⟨wrap64 (x8+1),wrap64 (x6-1),wrap64 (-x9)⟩:S87)]) x8 x16 x17 x18)else(none))else(impl_pitNetwork.j2 k x0 x6 x7 x8 x16 x17 x18)
def impl_pitNetwork.j2:Nat→List (List Int)→Int→List (S87)→Int→List Int→Int→Int→Option (Int×(List (S87)))
 |0,_,_,_,_,_,_,_=>none
 |k+1,x0,x6,x7,x8,x16,x17,x18=>if 0≤x8 then(if x8<(x0.length:Int)then(impl_pitNetwork.l1 k x0 x6 x7 x8 x16 x17 x18 (rd_L1 x0 x8) ((rd_L1 x0 x8).length:Int) 0)else(none))else(none)
def impl_pitNetwork.l1:Nat→List (List Int)→Int→List (S87)→Int→List Int→Int→Int→List Int→Int→Int→Option (Int×(List (S87)))
 |0,_,_,_,_,_,_,_,_,_,_=>none
 |k+1,x0,x6,x7,x8,x16,x17,x18,x47,x48,x49=>if x49<x48 then(if 0≤x49 then(if x49<(x47.length:Int)then(if x7.length<5864062014805 then(impl_pitNetwork.l1 k x0 x6 (x7++[(⟨wrap64 (x8+1),wrap64 ((rd x47 x49)+1),1000000000⟩:S87)]) x8 x16 x17 x18 x47 x48 (wrap64 (x49+1)))else(none))else(none))else(none))else(impl_pitNetwork.l0 k x0 x6 x7 x16 x17 (wrap64 (x18+1)))
end
def impl_pitNetwork.f (k:Nat) (l0:List (List Int)) (l1:List Int):Option (Int×(List (S87))):=impl_pitNetwork.l0 k l0 (wrap64 ((l0.length:Int)+2)) (([]:List (S87))) l1 (l1.length:Int) 0
set_option maxHeartbeats 8000000 in
set_option maxRecDepth 100000 in
theorem impl_pitNetwork.calls (k:Nat) (A0:Option Addr) (c0:Nat) (l0:List (List Int)) (A1:Option Addr) (c1:Nat) (l1:List Int) (r1:Int) (r2:List (S87)) (w:World) (hr0:Kd.C (Kd.slice 3 (Kd.int .i64)) w A0 l0.length l0) (hc0:l0.length≤c0) (hr1:Kd.C (Kd.int .i64) w A1 l1.length l1) (hc1:l1.length≤c1) (h:impl_pitNetwork.f k l0 l1=some (r1,r2)):
  Calls Try.prog 74 #[.slice A0 l0.length c0,.slice A1 l1.length c1] w fun e w'=> ∃v1_:Value,e= .returned (.tuple #[.int .i64 r1,v1_])∧Kd.R k87 87 w' w.heap.size (fun _=>True) v1_ r2∧Below w.heap.size w w':=by
 have hu87:=Try.underlying87;have HR0:=Aside0.mk hr0;have HC0:=Aside0.mk hc0;clear hr0 hc0;have HR1:=Aside0.mk hr1;have HC1:=Aside0.mk hc1;clear hr1 hc1;have HB:=Aside0.mk (Below.refl w.heap.size w);have H:(impl_pitNetwork.l0 k l0 (wrap64 ((l0.length:Int)+2)) (([]:List (S87))) l1 (l1.length:Int) 0)=some (r1,r2):=h;clear h;obtain⟨y115,Ny115⟩:=nmx (([]:List (S87)));rw[←Ny115.out]at H;have H':=Aside0.mk H;clear H
 go_enter Try.func74,Try.ntmps74
 go_wp2_with(first|((with_reducible refine gate_dst (N:=15) rfl ?_);refine Kd.R_lit k87 _ 87 ?hg (N:=15) ?hd (xs:=([]:List (S87))) (inner:=[]) (ok:=fun _=>True) (okp:=fun _=>True) ?hr ?hp (fun _ hk=>hk) trivial (Below.refl _ _) (Nat.le_refl _) (by simp) ?_;(case hd=>rfl);(case hg=>rfl);(case hr=>first|(go_simp;done)|(go_simp;rfl));(case hp=>exact(Reps.none _ _));intro v116 w3 ho4 hb hg_ hnew_;clear hg_ hnew_;(first|rw[←Ny115.out]at ho4|(simp only[Int.reduceToNat]at ho4;rw[←Ny115.out]at ho4));have HO117:=eRr ho4 (bz HB);replace HB:=bs HB hb;clear hb ho4))
 go_loopg [7,18] k (fun kq v7 v18 w'=> ∃(x7_1:List (S87)) (x18_1:Int),v18= .int .i64 x18_1∧Aside0 (impl_pitNetwork.l0 kq l0 (wrap64 ((l0.length:Int)+2)) x7_1 l1 (l1.length:Int) x18_1=some (r1,r2))∧Aside0 (kq≤k)∧Aside0 (Kd.R k87 87 w' w.heap.size (fun _=>True) v7 x7_1)∧Aside0 (Below w.heap.size w w'))
 case atStart=>exact⟨(y115),(0),eqx,H',⟨Nat.le_refl _⟩,⟨cR HO117⟩,⟨cB HB⟩⟩
 case round=>
  clear H';(try clear c1);(try clear p2);obtain⟨x7_1,x18_1,rfl,HA,HK1,HO_7,HB⟩:=hrel;cases gk with
  |zero=>exact absurd HA.out (by simp[impl_pitNetwork.l0])
  |succ k1=>
   have H:=HA.out;clear HA;simp only[impl_pitNetwork.l0]at H
   by_cases c5:x18_1<(l1.length:Int)
   ·rw[if_pos c5]at H;have c5b0:=decide_eq_true c5;clear c5
    by_cases c6:0≤x18_1
    ·rw[if_pos c6]at H;have c6b0:=decide_eq_true c6;clear c6
     by_cases c7:x18_1<(l1.length:Int)
     ·rw[if_pos c7]at H;have c7b0:=decide_eq_true c7;clear c7;have HC8:=Aside0.mk H;clear H;obtain⟨ad118,e118,hx118_0,p118,q118⟩:=ldi (i:=x18_1) HR1.out;cases e118;replace hx118_0:=hc_ HB hx118_0
      go_upto_if 24 with(fail)
      go_cut [7] (fun v7 wc=> ∃(kq:Nat) (x7_7:List (S87)),Aside0 (impl_pitNetwork.j1 kq l0 (wrap64 ((l0.length:Int)+2)) x7_7 x18_1 (rd l1 x18_1) l1 (l1.length:Int) x18_1=some (r1,r2))∧Aside0 (kq≤k1)∧Aside0 (Kd.R k87 87 wc w.heap.size (fun _=>True) v7 x7_7)∧Aside0 (Below w.heap.size w wc))
      case first=>
       have H:=HC8.out;clear HC8
       by_cases c9:(rd l1 x18_1)>0
       ·rw[if_pos c9]at H;have c9b0:=decide_eq_true c9;clear c9
        (first|rw[c9b0]|(simp only[i64_w,i32_w];rw[c9b0])|skip)
        by_cases c10:x7_1.length<5864062014805
        ·rw[if_pos c10]at H;have LMc10:=Aside0.mk c10;clear c10;obtain⟨y119,Ny119⟩:=nmx (x7_1++[(⟨0,wrap64 (x18_1+1),rd l1 x18_1⟩:S87)]);rw[←Ny119.out]at H;have H':=Aside0.mk H;clear H
         go_wp2_with(first|((with_reducible refine gate_builtin (b:= .append) (xs:= #[.tmp 25,.tmp 30]) rfl ?_);at_builtin;refine Kd.R_append k87 (w0:=w) w.heap.size rfl (.tmp 25) (.tmp 30) 27 87 (.agg #[(.int .i64 0),(.int .i64 0),(.int .i64 0)]) 24 rfl Try.underlying27 info87 rfl (by decide) (by omega) u7 x7_1 (⟨0,wrap64 (x18_1+1),rd l1 x18_1⟩:S87) [.int .i64 0,.int .i64 (wrap64 (x18_1+1)),.int .i64 (rd l1 x18_1)] (fun _=>True) (fun _=>False) rfl rfl ?aP (fun _ hk=>hk.elim) ?aF ?aO ?aB ?aS ?aL ?_;(case aP=>exact k87_mkM _ _ _ (⟨0,wrap64 (x18_1+1),rd l1 x18_1⟩:S87));(case aB=>exact(cB HB));(case aF=>exact(fun _ _=>trivial));(case aO=>exact(cR HO_7));(case aS=>exact(bz HB));(case aL=>have:=LMc10.out;omega);intro v120 w11 ho hb hg hat;rw[←Ny119.out]at ho;have n0_:=Aside0.mk hb;have n1_:=Aside0.mk ho;clear HB HO_7;have HB:=n0_;have HO121:=n1_;clear n0_ n1_ ho hb hg hat))
         go_meet
         case rel=>exact⟨_,(y119),H',⟨by have:=HK1.out;first|omega|exact Nat.le_refl _⟩,⟨cR HO121⟩,⟨cB HB⟩⟩
        ·rw[if_neg c10]at H;exact absurd H (by simp)
       ·rw[if_neg c9]at H;have c9b0:=decide_eq_false c9;clear c9
        (first|rw[c9b0]|(simp only[i64_w,i32_w];rw[c9b0])|skip)
        have H':=Aside0.mk H;clear H;go_wp2
        go_meet
        case rel=>exact⟨_,(x7_1),H',⟨by have:=HK1.out;first|omega|exact Nat.le_refl _⟩,⟨cR HO_7⟩,⟨cB HB⟩⟩
      case rest=>
       clear HC8;(try clear c1);(try clear p1);(try clear q1);(try clear hx1);(try clear p2);(try clear c5);(try clear c5b0);(try clear c6);(try clear c6b0);(try clear p6);(try clear c7);(try clear c7b0);(try clear c9);(try clear c9b0);(try clear c10);(try clear p11);(try clear q11);(try clear hx11);(try clear hx118_0);(try clear p118);(try clear p2);(try clear q118);obtain⟨kq,x7_7,HA,HJ7,HO_7,HB⟩:=hcut;cases kq with
       |zero=>exact absurd HA.out (by simp[impl_pitNetwork.j1])
       |succ kj7=>
        have H:=HA.out;clear HA;simp only[impl_pitNetwork.j1]at H;have HC12:=Aside0.mk H;clear H
        go_upto_if 33 with(fail)
        go_cut [7] (fun v7 wc=> ∃(kq:Nat) (x7_11:List (S87)),Aside0 (impl_pitNetwork.j2 kq l0 (wrap64 ((l0.length:Int)+2)) x7_11 x18_1 l1 (l1.length:Int) x18_1=some (r1,r2))∧Aside0 (kq≤kj7)∧Aside0 (Kd.R k87 87 wc w.heap.size (fun _=>True) v7 x7_11)∧Aside0 (Below w.heap.size w wc))
        case first=>
         have H:=HC12.out;clear HC12
         by_cases c13:(rd l1 x18_1)<0
         ·rw[if_pos c13]at H;have c13b0:=decide_eq_true c13;clear c13
          (first|rw[c13b0]|(simp only[i64_w,i32_w];rw[c13b0])|skip)
          by_cases c14:x7_7.length<5864062014805
          ·rw[if_pos c14]at H;have LMc14:=Aside0.mk c14;clear c14;obtain⟨y122,Ny122⟩:=nmx (x7_7++[(⟨wrap64 (x18_1+1),wrap64 ((wrap64 ((l0.length:Int)+2))-1),wrap64 (-(rd l1 x18_1))⟩:S87)]);rw[←Ny122.out]at H;have H':=Aside0.mk H;clear H
           go_wp2_with(first|((with_reducible refine gate_builtin (b:= .append) (xs:= #[.tmp 34,.tmp 42]) rfl ?_);at_builtin;refine Kd.R_append k87 (w0:=w) w.heap.size rfl (.tmp 34) (.tmp 42) 27 87 (.agg #[(.int .i64 0),(.int .i64 0),(.int .i64 0)]) 24 rfl Try.underlying27 info87 rfl (by decide) (by omega) u7 x7_7 (⟨wrap64 (x18_1+1),wrap64 ((wrap64 ((l0.length:Int)+2))-1),wrap64 (-(rd l1 x18_1))⟩:S87) [.int .i64 (wrap64 (x18_1+1)),.int .i64 (wrap64 ((wrap64 ((l0.length:Int)+2))-1)),.int .i64 (wrap64 (-(rd l1 x18_1)))] (fun _=>True) (fun _=>False) rfl rfl ?aP (fun _ hk=>hk.elim) ?aF ?aO ?aB ?aS ?aL ?_;(case aP=>exact k87_mkM _ _ _ (⟨wrap64 (x18_1+1),wrap64 ((wrap64 ((l0.length:Int)+2))-1),wrap64 (-(rd l1 x18_1))⟩:S87));(case aB=>exact(cB HB));(case aF=>exact(fun _ _=>trivial));(case aO=>exact(cR HO_7));(case aS=>exact(bz HB));(case aL=>have:=LMc14.out;omega);intro v123 w15 ho hb hg hat;rw[←Ny122.out]at ho;have n0_:=Aside0.mk hb;have n1_:=Aside0.mk ho;clear HB HO_7;have HB:=n0_;have HO124:=n1_;clear n0_ n1_ ho hb hg hat))
           go_meet
           case rel=>exact⟨_,(y122),H',⟨by have:=HK1.out;have:=HJ7.out;first|omega|exact Nat.le_refl _⟩,⟨cR HO124⟩,⟨cB HB⟩⟩
          ·rw[if_neg c14]at H;exact absurd H (by simp)
         ·rw[if_neg c13]at H;have c13b0:=decide_eq_false c13;clear c13
          (first|rw[c13b0]|(simp only[i64_w,i32_w];rw[c13b0])|skip)
          have H':=Aside0.mk H;clear H;go_wp2
          go_meet
          case rel=>exact⟨_,(x7_7),H',⟨by have:=HK1.out;have:=HJ7.out;first|omega|exact Nat.le_refl _⟩,⟨cR HO_7⟩,⟨cB HB⟩⟩
        case rest=>
         clear HC12;(try clear c1);(try clear p1);(try clear q1);(try clear hx1);(try clear p2);(try clear c5);(try clear c5b0);(try clear c6);(try clear c6b0);(try clear p6);(try clear c7);(try clear c7b0);(try clear c9);(try clear c9b0);(try clear c10);(try clear p11);(try clear q11);(try clear hx11);(try clear c13);(try clear c13b0);(try clear c14);(try clear hx118_0);(try clear p1);(try clear p11);(try clear p118);(try clear p2);(try clear p6);(try clear q1);(try clear q11);(try clear q118);obtain⟨kq,x7_11,HA,HJ11,HO_7,HB⟩:=hcut;cases kq with
         |zero=>exact absurd HA.out (by simp[impl_pitNetwork.j2])
         |succ kj11=>
          have H:=HA.out;clear HA;simp only[impl_pitNetwork.j2]at H
          by_cases c16:0≤x18_1
          ·rw[if_pos c16]at H;have c16b0:=decide_eq_true c16;clear c16
           by_cases c17:x18_1<(l0.length:Int)
           ·rw[if_pos c17]at H;have c17b0:=decide_eq_true c17;clear c17;have H':=Aside0.mk H;clear H;have p125:0≤(x18_1:Int):=of_decide_eq_true asx;have q125:x18_1<(l0.length:Int):=of_decide_eq_true asx;obtain⟨ad125,A125_0,c125_0,e125,hx125_0,hl125_0,hi125_0⟩:=at_L1 HR0.out x18_1 p125 q125;cases e125;replace hx125_0:=hc_ HB hx125_0;have HR125_0:=Aside0.mk hi125_0;have HC125_0:=Aside0.mk hl125_0;clear hi125_0 hl125_0;replace p125:=eq_true p125;replace q125:=eq_true q125;go_wp2
            go_loopg [7,49] kj11 (fun kq v7 v49 w'=> ∃(x7_4:List (S87)) (x49_4:Int),v49= .int .i64 x49_4∧Aside0 (impl_pitNetwork.l1 kq l0 (wrap64 ((l0.length:Int)+2)) x7_4 x18_1 l1 (l1.length:Int) x18_1 (rd_L1 l0 x18_1) ((rd_L1 l0 x18_1).length:Int) x49_4=some (r1,r2))∧Aside0 (kq≤kj11)∧Aside0 (Kd.R k87 87 w' w.heap.size (fun _=>True) v7 x7_4)∧Aside0 (Below w.heap.size w w'))
            case atStart=>exact⟨(x7_11),(0),eqx,H',⟨Nat.le_refl _⟩,⟨cR HO_7⟩,⟨cB HB⟩⟩
            case round=>
             clear H';(try clear c1);(try clear p1);(try clear q1);(try clear hx1);(try clear p2);(try clear c5);(try clear c5b0);(try clear c6);(try clear c6b0);(try clear p6);(try clear c7);(try clear c7b0);(try clear c9);(try clear c9b0);(try clear c10);(try clear p11);(try clear q11);(try clear hx11);(try clear c12);(try clear p12);(try clear q12);(try clear hx12);(try clear c13);(try clear c13b0);(try clear c14);(try clear c16);(try clear c16b0);(try clear c17);(try clear c17b0);(try clear hx118_0);(try clear hx125_0);(try clear p1);(try clear p11);(try clear p118);(try clear p125);(try clear p2);(try clear p6);(try clear q1);(try clear q11);(try clear q118);(try clear q125);obtain⟨x7_4,x49_4,rfl,HA,HK4,HO_7,HB⟩:=hrel;cases gk with
             |zero=>exact absurd HA.out (by simp[impl_pitNetwork.l1])
             |succ k4=>
              have H:=HA.out;clear HA;simp only[impl_pitNetwork.l1]at H
              by_cases c18:x49_4<((rd_L1 l0 x18_1).length:Int)
              ·rw[if_pos c18]at H;have c18b0:=decide_eq_true c18;clear c18
               by_cases c19:0≤x49_4
               ·rw[if_pos c19]at H;have c19b0:=decide_eq_true c19;clear c19
                by_cases c20:x49_4<((rd_L1 l0 x18_1).length:Int)
                ·rw[if_pos c20]at H;have c20b0:=decide_eq_true c20;clear c20
                 by_cases c21:x7_4.length<5864062014805
                 ·rw[if_pos c21]at H;have LMc21:=Aside0.mk c21;clear c21;obtain⟨y127,Ny127⟩:=nmx (x7_4++[(⟨wrap64 (x18_1+1),wrap64 ((rd (rd_L1 l0 x18_1) x49_4)+1),1000000000⟩:S87)]);rw[←Ny127.out]at H;have H':=Aside0.mk H;clear H;obtain⟨ad126,e126,hx126_0,p126,q126⟩:=ldi (i:=x49_4) HR125_0.out;cases e126;replace hx126_0:=hc_ HB hx126_0
                  go_wp2_with(first|((with_reducible refine gate_builtin (b:= .append) (xs:= #[.tmp 53,.tmp 59]) rfl ?_);at_builtin;refine Kd.R_append k87 (w0:=w) w.heap.size rfl (.tmp 53) (.tmp 59) 27 87 (.agg #[(.int .i64 0),(.int .i64 0),(.int .i64 0)]) 24 rfl Try.underlying27 info87 rfl (by decide) (by omega) u7 x7_4 (⟨wrap64 (x18_1+1),wrap64 ((rd (rd_L1 l0 x18_1) x49_4)+1),1000000000⟩:S87) [.int .i64 (wrap64 (x18_1+1)),.int .i64 (wrap64 ((rd (rd_L1 l0 x18_1) x49_4)+1)),.int .i64 1000000000] (fun _=>True) (fun _=>False) rfl rfl ?aP (fun _ hk=>hk.elim) ?aF ?aO ?aB ?aS ?aL ?_;(case aP=>exact k87_mkM _ _ _ (⟨wrap64 (x18_1+1),wrap64 ((rd (rd_L1 l0 x18_1) x49_4)+1),1000000000⟩:S87));(case aB=>exact(cB HB));(case aF=>exact(fun _ _=>trivial));(case aO=>exact(cR HO_7));(case aS=>exact(bz HB));(case aL=>have:=LMc21.out;omega);intro v128 w22 ho hb hg hat;rw[←Ny127.out]at ho;have n0_:=Aside0.mk hb;have n1_:=Aside0.mk ho;clear HB HO_7;have HB:=n0_;have HO129:=n1_;clear n0_ n1_ ho hb hg hat))
                  go_roundg k4
                  case measure=>have:=HK1.out;have:=HJ7.out;have:=HJ11.out;have:=HK4.out;omega
                  case rel=>exact⟨(y127),(wrap64 (x49_4+1)),eqx,H',⟨by have:=HK1.out;have:=HJ7.out;have:=HJ11.out;have:=HK4.out;omega⟩,⟨cR HO129⟩,⟨cB HB⟩⟩
                 ·rw[if_neg c21]at H;exact absurd H (by simp)
                ·rw[if_neg c20]at H;exact absurd H (by simp)
               ·rw[if_neg c19]at H;exact absurd H (by simp)
              ·rw[if_neg c18]at H;have c18b0:=decide_eq_false c18;clear c18;have H':=Aside0.mk H;clear H;go_wp2
               go_roundg k4
               case measure=>have:=HK1.out;have:=HJ7.out;have:=HJ11.out;have:=HK4.out;omega
               case rel=>exact⟨(x7_4),(wrap64 (x18_1+1)),eqx,H',⟨by have:=HK1.out;have:=HJ7.out;have:=HJ11.out;have:=HK4.out;omega⟩,⟨cR HO_7⟩,⟨cB HB⟩⟩
           ·rw[if_neg c17]at H;exact absurd H (by simp)
          ·rw[if_neg c16]at H;exact absurd H (by simp)
     ·rw[if_neg c7]at H;exact absurd H (by simp)
    ·rw[if_neg c6]at H;exact absurd H (by simp)
   ·rw[if_neg c5]at H;have c5b0:=decide_eq_false c5;clear c5;simp only[Option.some.injEq,Prod.mk.injEq]at H;obtain⟨rfl,rfl⟩:=H;go_wp2
    go_ret2
    exact⟨_,erx,by(with_reducible repeat(first|apply Kd.R_alloc|apply Kd.R_drewN|apply Kd.R_drew));exact HO_7.out,cB HB⟩
def impl_outOf.l0:Nat→List Bool→List Bool→Int→Int→Option (List Bool)
 |0,_,_,_,_=>none
 |k+1,x0,x3,x9,x10=>if x10<x9 then(if 0≤x10 then(if x10<(x0.length:Int)then(if x10<(x3.length:Int)then(impl_outOf.l0 k x0 (x3.set (x10:Int).toNat (!(rdOf false x0 x10))) x9 (wrap64 (x10+1)))else(none))else(none))else(none))else(some x3)
def impl_outOf.f (k:Nat) (l0:List Bool):Option (List Bool):=if 0≤(l0.length:Int)then(if((l0.length:Int):Int).toNat≤281474976710656 then(impl_outOf.l0 k l0 (List.replicate ((l0.length:Int):Int).toNat false) (l0.length:Int) 0)else(none))else(none)
end Go.Proofs.Ytlkppimbbbdmbaa.NetP
namespace Go.Proofs.Ytlkppimbbbdmbaa.NetQ
open Go.RowKit Go.Proofs.YtlkppimbbbdmbaaW.PrintWords Go.Proofs.Ytlkppimbbbdmbaa.Gen Go.Proofs.Ytlkppimbbbdmbaa.Flow Go.Proofs.Ytlkppimbbbdmbaa.NetP
set_option linter.unusedVariables false
set_option linter.unusedSimpArgs false
def mkE (e:Ed):S87:=⟨e.1,e.2.1,e.2.2⟩
section
variable {arcs:List (List Int)} {v:List Int}
theorem to_len (F:Fit arcs v) (n:Nat) (h:n≤arcs.length):(edgesTo arcs v n).length≤14520:=by have:=F.count n h;have:=F.n;omega
theorem val_at (F:Fit arcs v) {i:Nat} (h:i<arcs.length):rd v (i:Int)=v.getD i 0:=rd_nat v i
theorem row_at (arcs:List (List Int)) (i:Nat):rd_L1 arcs (i:Int)=arcs.getD i []:=by unfold rd_L1;rw[Int.toNat_natCast]
def arcE (i:Nat) (k:Int):Ed:=((i:Int)+1,k+1,1000000000)
theorem ed_arcs (F:Fit arcs v) {i:Nat} (h:i<arcs.length): ∀k∈arcs.getD i [],wrap64 (k+1)=k+1:=fun k hk=>by have:=F.arcs i h k hk;have:=F.n;unfold wrap64;omega
theorem pa_arcs (F:Fit arcs v) {i:Nat} (h:i<arcs.length) (r:List S87) (acc:List Ed) (hacc:acc.length+(arcs.getD i []).length≤20000)
  (hr:Ev (fun k=>spec_paEdges.l0 k arcs v ((acc++(arcs.getD i []).map (arcE i)).map mkE) arcs (arcs.length:Int) ((i+1:Nat):Int)) r):
  ∀(suf pre:List Int),arcs.getD i []=pre++suf→Ev (fun k=>spec_paEdges.l1 k arcs v ((acc++pre.map (arcE i)).map mkE) (i:Int) arcs (arcs.length:Int) (i:Int) (arcs.getD i []) ((arcs.getD i []).length:Int) (pre.length:Int)) r
 |[],pre,he=>by
  have hl:(arcs.getD i []).length=pre.length:=by rw[he,List.append_nil]
  rw[he,List.append_nil]at hr;refine Ev.step (fun k=>by rw[spec_paEdges.l1]) ?_;refine Ev.neg (by omega) ?_;rw[wr_nat i arcs.length h (by have:=F.n;omega)];exact hr
 |k::suf,pre,he=>by
  have ih:=pa_arcs F h r acc hacc hr suf (pre++[k]) (by rw[he];simp);have hl:(arcs.getD i []).length=pre.length+suf.length+1:=by rw[he];simp;omega
  have hk:=ed_arcs F h k (by rw[he];simp);have hrd:rd (arcs.getD i []) (pre.length:Int)=k:=by rw[he];exact rd_mid pre k suf
  refine Ev.step (fun k=>by rw[spec_paEdges.l1]) ?_;refine Ev.pos (by omega) (Ev.pos (nn _) (Ev.pos (by omega) (Ev.pos (by rw[List.length_map,List.length_append,List.length_map];omega) ?_)));rw[hrd,hk,wr_nat i arcs.length h (by have:=F.n;omega),wr_nat pre.length (arcs.getD i []).length (by omega) (by omega)];refine Ev.cast rfl ?_;have e:(acc++pre.map (arcE i)).map mkE++[(⟨((i+1:Nat):Int),k+1,1000000000⟩:S87)]=(acc++(pre++[k]).map (arcE i)).map mkE:=by
   simp[arcE,mkE]
  rw[e]
  simpa using ih
theorem paEdges_ev (F:Fit arcs v):Ev (fun k=>spec_paEdges.f k arcs v) ((netOf arcs v).map mkE):=by
 unfold spec_paEdges.f
 have hn:=F.n;have hv:=F.vl;have key: ∀(d i:Nat),i+d=arcs.length→Ev (fun k=>spec_paEdges.l0 k arcs v ((edgesTo arcs v i).map mkE) arcs (arcs.length:Int) (i:Int)) ((netOf arcs v).map mkE):=by
  intro d
  induction d with
  |zero=>
   intro i hd;refine Ev.step (fun k=>by rw[spec_paEdges.l0]) ?_;refine Ev.neg (by omega) (Ev.cast ?_ (Ev.now _));rw[show i=arcs.length by omega];rfl
  |succ d ih=>
   intro i hd;have hi:i<arcs.length:=by omega
   have e:=ih (i+1) (by omega);have hl:=to_len F i (by omega);have hrow:=F.rows i hi;have hw:=F.at_ i;have w1:=wr_nat i arcs.length hi (by omega);have w2:wrap64 ((arcs.length:Int)+1)=(arcs.length:Int)+1:=by unfold wrap64;omega
   have w3:wrap64 (-(v.getD i 0))= -(v.getD i 0):=by unfold wrap64;omega
   have fin: ∀acc:List Ed,edgesTo arcs v (i+1)=acc++(arcs.getD i []).map (arcE i)→acc.length≤14523→Ev (fun k=>spec_paEdges.j1 k arcs v (acc.map mkE) (i:Int) (arcs.getD i []) arcs (arcs.length:Int) (i:Int)) ((netOf arcs v).map mkE):=by
    intro acc ha hal;refine Ev.step (fun k=>by rw[spec_paEdges.j1]) ?_
    have:=pa_arcs F hi _ acc (by omega) (by rw[←ha];exact e) (arcs.getD i []) [] (by simp)
    simpa using this
   refine Ev.step (fun k=>by rw[spec_paEdges.l0]) ?_;refine Ev.pos (by omega) (Ev.pos (nn _) (Ev.pos (by omega) (Ev.pos (by omega) ?_)));rw[val_at F hi,row_at,w1,w2,w3];refine Ev.cases (fun c1=>?_) (fun c1=>?_)
   ·refine Ev.pos (by rw[List.length_map];omega) ?_
    have:=fin (edgesTo arcs v i++[(0,(i:Int)+1,v.getD i 0)]) (by rw[edgesTo,edgesAt,if_pos c1,if_neg (by omega)];simp[arcE]) (by simp;omega)
    simpa [mkE]using this
   ·refine Ev.cases (fun c2=>?_) (fun c2=>?_)
    ·refine Ev.pos (by rw[List.length_map];omega) ?_
     have:=fin (edgesTo arcs v i++[((i:Int)+1,(arcs.length:Int)+1,-(v.getD i 0))]) (by rw[edgesTo,edgesAt,if_neg (by omega),if_pos c2];simp[arcE]) (by simp;omega)
     simpa [mkE]using this
    ·exact fin (edgesTo arcs v i) (by rw[edgesTo,edgesAt,if_neg (by omega),if_neg (by omega)];simp[arcE]) (by omega)
 exact key arcs.length 0 (by omega)
theorem im_arcs (F:Fit arcs v) {i:Nat} (h:i<arcs.length) (N:Int) (r:Int×List S87) (acc:List Ed) (hacc:acc.length+(arcs.getD i []).length≤20000)
  (hr:Ev (fun k=>impl_pitNetwork.l0 k arcs N ((acc++(arcs.getD i []).map (arcE i)).map mkE) v (v.length:Int) ((i+1:Nat):Int)) r):
  ∀(suf pre:List Int),arcs.getD i []=pre++suf→Ev (fun k=>impl_pitNetwork.l1 k arcs N ((acc++pre.map (arcE i)).map mkE) (i:Int) v (v.length:Int) (i:Int) (arcs.getD i []) ((arcs.getD i []).length:Int) (pre.length:Int)) r
 |[],pre,he=>by
  have hl:(arcs.getD i []).length=pre.length:=by rw[he,List.append_nil]
  rw[he,List.append_nil]at hr;refine Ev.step (fun k=>by rw[impl_pitNetwork.l1]) ?_;refine Ev.neg (by omega) ?_;rw[wr_nat i arcs.length h (by have:=F.n;omega)];exact hr
 |k::suf,pre,he=>by
  have ih:=im_arcs F h N r acc hacc hr suf (pre++[k]) (by rw[he];simp);have hl:(arcs.getD i []).length=pre.length+suf.length+1:=by rw[he];simp;omega
  have hk:=ed_arcs F h k (by rw[he];simp);have hrd:rd (arcs.getD i []) (pre.length:Int)=k:=by rw[he];exact rd_mid pre k suf
  refine Ev.step (fun k=>by rw[impl_pitNetwork.l1]) ?_;refine Ev.pos (by omega) (Ev.pos (nn _) (Ev.pos (by omega) (Ev.pos (by rw[List.length_map,List.length_append,List.length_map];omega) ?_)));rw[hrd,hk,wr_nat i arcs.length h (by have:=F.n;omega),wr_nat pre.length (arcs.getD i []).length (by omega) (by omega)];have e:(acc++pre.map (arcE i)).map mkE++[(⟨((i+1:Nat):Int),k+1,1000000000⟩:S87)]=(acc++(pre++[k]).map (arcE i)).map mkE:=by
   simp[arcE,mkE]
  rw[e]
  simpa using ih
theorem pitNetwork_ev (F:Fit arcs v):Ev (fun k=>impl_pitNetwork.f k arcs v) ((arcs.length:Int)+2,(netOf arcs v).map mkE):=by
 unfold impl_pitNetwork.f
 have hn:=F.n;have hv:=F.vl;have w0:wrap64 ((arcs.length:Int)+2)=(arcs.length:Int)+2:=by unfold wrap64;omega
 rw[w0];have key: ∀(d i:Nat),i+d=arcs.length→Ev (fun k=>impl_pitNetwork.l0 k arcs ((arcs.length:Int)+2) ((edgesTo arcs v i).map mkE) v (v.length:Int) (i:Int)) ((arcs.length:Int)+2,(netOf arcs v).map mkE):=by
  intro d
  induction d with
  |zero=>
   intro i hd;refine Ev.step (fun k=>by rw[impl_pitNetwork.l0]) ?_;refine Ev.neg (by omega) (Ev.cast ?_ (Ev.now _));rw[show i=arcs.length by omega];rfl
  |succ d ih=>
   intro i hd;have hi:i<arcs.length:=by omega
   have e:=ih (i+1) (by omega);have hl:=to_len F i (by omega);have hrow:=F.rows i hi;have hw:=F.at_ i;have w1:=wr_nat i arcs.length hi (by omega);have w2:wrap64 ((arcs.length:Int)+2-1)=(arcs.length:Int)+1:=by unfold wrap64;omega
   have w3:wrap64 (-(v.getD i 0))= -(v.getD i 0):=by unfold wrap64;omega
   have fin2: ∀acc:List Ed,edgesTo arcs v (i+1)=acc++(arcs.getD i []).map (arcE i)→acc.length≤14523→Ev (fun k=>impl_pitNetwork.j2 k arcs ((arcs.length:Int)+2) (acc.map mkE) (i:Int) v (v.length:Int) (i:Int)) ((arcs.length:Int)+2,(netOf arcs v).map mkE):=by
    intro acc ha hal;refine Ev.step (fun k=>by rw[impl_pitNetwork.j2]) ?_;refine Ev.pos (nn _) (Ev.pos (by omega) ?_);rw[row_at]
    have:=im_arcs F hi ((arcs.length:Int)+2) _ acc (by omega) (by rw[←ha];exact e) (arcs.getD i []) [] (by simp)
    simpa using this
   have fin: ∀acc:List Ed,edgesTo arcs v (i+1)=acc++((if v.getD i 0<0 then [((i:Int)+1,(arcs.length:Int)+1,-(v.getD i 0))]else [])++(arcs.getD i []).map (arcE i))→acc.length≤14522→Ev (fun k=>impl_pitNetwork.j1 k arcs ((arcs.length:Int)+2) (acc.map mkE) (i:Int) (v.getD i 0) v (v.length:Int) (i:Int)) ((arcs.length:Int)+2,(netOf arcs v).map mkE):=by
    intro acc ha hal;refine Ev.step (fun k=>by rw[impl_pitNetwork.j1]) ?_;rw[w1,w2,w3];refine Ev.cases (fun c2=>?_) (fun c2=>?_)
    ·refine Ev.pos (by rw[List.length_map];omega) ?_
     have:=fin2 (acc++[((i:Int)+1,(arcs.length:Int)+1,-(v.getD i 0))]) (by rw[ha,if_pos c2];simp) (by simp;omega)
     simpa [mkE]using this
    ·exact fin2 acc (by rw[ha,if_neg c2];simp) (by omega)
   refine Ev.step (fun k=>by rw[impl_pitNetwork.l0]) ?_;refine Ev.pos (by omega) (Ev.pos (nn _) (Ev.pos (by omega) ?_));rw[val_at F hi,w1];refine Ev.cases (fun c1=>?_) (fun c1=>?_)
   ·refine Ev.pos (by rw[List.length_map];omega) ?_
    have:=fin (edgesTo arcs v i++[(0,(i:Int)+1,v.getD i 0)]) (by rw[edgesTo,edgesAt,if_pos c1,if_neg (by omega)];simp[arcE]) (by simp;omega)
    simpa [mkE]using this
   ·exact fin (edgesTo arcs v i) (by rw[edgesTo,edgesAt,if_neg (by omega)];simp[arcE]) (by omega)
 exact key arcs.length 0 (by omega)
end
def idxB (m:List Bool) (n:Nat):List Int:=((List.range n).filter (isB m)).map fun(i:Nat)=>(i:Int)
theorem idxB_succ (m:List Bool) (n:Nat):idxB m (n+1)=idxB m n++(if isB m n=true then [(n:Int)]else []):=by
 unfold idxB
 rw[List.range_succ,List.filter_append,List.map_append]
 congr 1
 cases h:isB m n<;>simp[h]
theorem idxB_len (m:List Bool) (n:Nat):(idxB m n).length≤n:=by
 unfold idxB
 rw[List.length_map]
 have:=List.length_filter_le (isB m) (List.range n)
 rwa [List.length_range]at this
theorem paOf_ev (l:List Int) (hl:l.length≤1000000) (hb: ∀x∈l,0≤x∧x≤1000000):Ev (fun k=>spec_paOf.f k (0::l)) (l.map fun x=>x-1):=by
 unfold spec_paOf.f
 refine Ev.pos (by rw[List.length_cons];omega) ?_;rw[List.drop_succ_cons,List.drop_zero];have key: ∀(suf pre:List Int),l=pre++suf→Ev (fun k=>spec_paOf.l0 k (pre.map fun x=>x-1) l (l.length:Int) (pre.length:Int)) (l.map fun x=>x-1):=by
  intro suf
  induction suf with
  |nil=>
   intro pre he;rw[List.append_nil]at he;subst he;refine Ev.step (fun k=>by rw[spec_paOf.l0]) ?_;exact Ev.neg (by omega) (Ev.now _)
  |cons x suf ih=>
   intro pre he;have e:=ih (pre++[x]) (by rw[he];simp);have hlen:l.length=pre.length+suf.length+1:=by rw[he];simp;omega
   have hrd:rd l (pre.length:Int)=x:=by rw[he];exact rd_mid pre x suf
   have hx:=hb x (by rw[he];simp);have hw:wrap64 (x-1)=x-1:=by unfold wrap64;omega
   refine Ev.step (fun k=>by rw[spec_paOf.l0]) ?_;refine Ev.pos (by omega) (Ev.pos (nn _) (Ev.pos (by omega) (Ev.pos (by rw[List.length_map];omega) ?_)));rw[hrd,hw,wr_nat pre.length l.length (by omega) (by omega)]
   simpa using e
 exact key l [] rfl
end Go.Proofs.Ytlkppimbbbdmbaa.NetQ
