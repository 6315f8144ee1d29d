/- The pushes of the reference's flow: what one call does to the memory is what the relation PushL says. -/
import Derived.Test.YtlkppimbbbdmbaaFlA
import Derived.Test.YtlkppimbbbdmbaaFlB
import Derived.Test.YtlkppimbbbdmbaaWMore
import Derived.Test.YtlkppimbbbdmbaaProg
import Derived.StillTailTactics
import Derived.BigQuiet
import Derived.Test.YtlkppimbbbdmbaaWTight
namespace Go.Proofs.Ytlkppimbbbdmbaa.SRes
open Go.RowKit Go.Proofs.YtlkppimbbbdmbaaW.PrintWords Go.Proofs.YtlkppimbbbdmbaaW.PrintLast Go.Proofs.YtlkppimbbbdmbaaW.PrintMore Go.Proofs.Ytlkppimbbbdmbaa.Flow Go.Proofs.Ytlkppimbbbdmbaa.Res
set_option linter.unusedVariables false
set_option linter.unusedSimpArgs false
attribute [local go_sem] max2_int min2_int max_two min_two
set_option maxHeartbeats 800000 in
theorem least_any (a b m:Int) (w:World) (hm:min a b=m):Calls Try.prog 163 #[.int .i64 a,.int .i64 b] w fun e w'=>e= .returned (.int .i64 m)∧w'=w:=by
 have HM:=Aside0.mk hm;clear hm
 by_cases h:a<b
 ·have hd:decide (a<b)=true:=decide_eq_true h
  go_enter Try.func163,Try.ntmps163
  go_wp2
  go_ret
  exact⟨by rw[←HM.out,Int.min_eq_left (by omega)];rfl,rfl⟩
 ·have hd:decide (a<b)=false:=decide_eq_false h
  go_enter Try.func163,Try.ntmps163
  go_wp2
  go_ret
  exact⟨by rw[←HM.out,Int.min_eq_right (by omega)];rfl,rfl⟩
structure SSt (base g bE n cE bT nT cT bL nL cL bV nV cV bX nX cX:Nat) (E:List (List Int)) (T V:List Int) (w:World) (L X:List Int):Prop where
 box:w.heap[g]?=some (.cells #[.int .i64 (n:Int),.slice (some ⟨bT,0,none⟩) nT cT,.slice (some ⟨bL,0,none⟩) nL cL,.slice (some ⟨bE,0,none⟩) n cE] 132 (0,0))
 e:Kd.R (Kd.slice 3 (Kd.int .i64)) 24 w base (fun k=>k≠bL∧k≠bX) (.slice (some ⟨bE,0,none⟩) n cE) E
 t:Kd.R (Kd.int .i64) 3 w base (fun k=>k≠bL∧k≠bX) (.slice (some ⟨bT,0,none⟩) nT cT) T
 l:Kd.R (Kd.int .i64) 3 w base (fun k=>k=bL) (.slice (some ⟨bL,0,none⟩) nL cL) L
 v:Kd.R (Kd.int .i64) 3 w base (fun k=>k≠bL∧k≠bX) (.slice (some ⟨bV,0,none⟩) nV cV) V
 x:Kd.R (Kd.int .i64) 3 w base (fun k=>k=bX) (.slice (some ⟨bX,0,none⟩) nX cX) X
 gL:g≠bL
 gX:g≠bX
 LX:bL≠bX
theorem SSt.cells {base g bE n cE bT nT cT bL nL cL bV nV cV bX nX cX:Nat} {E:List (List Int)} {T V:List Int} {w:World} {L X:List Int} (S:SSt base g bE n cE bT nT cT bL nL cL bV nV cV bX nX cX E T V w L X):
  w.cell? ⟨g,0,none⟩=some (.int .i64 (n:Int))∧w.cell? ⟨g,1,none⟩=some (.slice (some ⟨bT,0,none⟩) nT cT)∧w.cell? ⟨g,2,none⟩=some (.slice (some ⟨bL,0,none⟩) nL cL)∧w.cell? ⟨g,3,none⟩=some (.slice (some ⟨bE,0,none⟩) n cE):=
 ⟨blk_cell S.box 0,blk_cell S.box 1,blk_cell S.box 2,blk_cell S.box 3⟩
section
variable {base g bE n cE bT nT cT bL nL cL bV nV cV bX nX cX:Nat} {E:List (List Int)} {T V:List Int} {w w1 w0:World} {L X:List Int}
theorem SSt.below (S:SSt base g bE n cE bT nT cT bL nL cL bV nV cV bX nX cX E T V w L X) (hb:Below w.heap.size w w1):SSt base g bE n cE bT nT cT bL nL cL bV nV cV bX nX cX E T V w1 L X:=
 ⟨blk_below S.box hb,Kd.R_below S.e hb,Kd.R_below S.t hb,Kd.R_below S.l hb,Kd.R_below S.v hb,Kd.R_below S.x hb,S.gL,S.gX,S.LX⟩
theorem SSt.drewN (S:SSt base g bE n cE bT nT cT bL nL cL bV nV cV bX nX cX E T V w L X) (m:Nat):SSt base g bE n cE bT nT cT bL nL cL bV nV cV bX nX cX E T V (w.drewN m) L X:=S.below (pw_below_drewN (Below.refl _ _) m)
theorem SSt.putX (S:SSt base g bE n cE bT nT cT bL nL cL bV nV cV bX nX cX E T V w L X) (i:Nat) (v:Int):SSt base g bE n cE bT nT cT bL nL cL bV nV cV bX nX cX E T V (w.setCell ⟨bX,i,none⟩ (.int .i64 v)) L (X.set i v):=by
 have h:=Kd.R_putn S.x (i:Int) v;rw[Int.toNat_natCast]at h;exact⟨blk_far S.box S.gX _,Kd.R_far S.e (p:=⟨bX,i,none⟩) (fun _ hk=>hk.2) _,Kd.R_far S.t (p:=⟨bX,i,none⟩) (fun _ hk=>hk.2) _,Kd.R_far S.l (p:=⟨bX,i,none⟩) (fun _ hk he=>S.LX (hk.symm.trans he)) _,Kd.R_far S.v (p:=⟨bX,i,none⟩) (fun _ hk=>hk.2) _,h,S.gL,S.gX,S.LX⟩
theorem SSt.putL (S:SSt base g bE n cE bT nT cT bL nL cL bV nV cV bX nX cX E T V w L X) (i:Nat) (v:Int):SSt base g bE n cE bT nT cT bL nL cL bV nV cV bX nX cX E T V (w.setCell ⟨bL,i,none⟩ (.int .i64 v)) (L.set i v) X:=by
 have h:=Kd.R_putn S.l (i:Int) v;rw[Int.toNat_natCast]at h;exact⟨blk_far S.box S.gL _,Kd.R_far S.e (p:=⟨bL,i,none⟩) (fun _ hk=>hk.1) _,Kd.R_far S.t (p:=⟨bL,i,none⟩) (fun _ hk=>hk.1) _,h,Kd.R_far S.v (p:=⟨bL,i,none⟩) (fun _ hk=>hk.1) _,Kd.R_far S.x (p:=⟨bL,i,none⟩) (fun _ hk he=>S.LX (he.symm.trans hk)) _,S.gL,S.gX,S.LX⟩
theorem SSt.baseL (S:SSt base g bE n cE bT nT cT bL nL cL bV nV cV bX nX cX E T V w L X):base≤bL:=Kd.R_base S.l bL (by simp[Value.ownBlock])
theorem SSt.baseX (S:SSt base g bE n cE bT nT cT bL nL cL bV nV cV bX nX cX E T V w L X):base≤bX:=Kd.R_base S.x bX (by simp[Value.ownBlock])
theorem SSt.at_ (S:SSt base g bE n cE bT nT cT bL nL cL bV nV cV bX nX cX E T V w L X) {x e y j:Nat} {row:List Int} {l a b:Int} (h1:E[x]?=some row) (h2:X[x]?=some (j:Int)) (h3:row[j]?=some (e:Int)) (h4:T[e]?=some (y:Int)) (h5:L[e]?=some l) (h6:V[x]?=some a) (h7:V[y]?=some b):
  ∃ad c,(w.cell? ⟨bE,x,none⟩=some (.slice (some ad) row.length c)∧w.cell? (ad.add j)=some (.int .i64 (e:Int))∧w.cell? ⟨bX,x,none⟩=some (.int .i64 (j:Int))∧w.frozen? ⟨bX,x,none⟩=false∧w.cell? ⟨bL,e,none⟩=some (.int .i64 l)∧w.frozen? ⟨bL,e,none⟩=false∧w.cell? ⟨bT,e,none⟩=some (.int .i64 (y:Int))∧w.cell? ⟨bV,x,none⟩=some (.int .i64 a)∧w.cell? ⟨bV,y,none⟩=some (.int .i64 b))∧x<n∧x<nX∧e<nL∧e<nT∧x<nV∧y<nV∧j<row.length∧row.length≤9223372036854775807:=by
 obtain⟨A,c,hA,_,hC⟩:=row_at S.e h1;obtain⟨ad,rfl,hj⟩:=elem_at hC h3;have q1:=(List.getElem?_eq_some_iff.1 h1).1;have q2:=(List.getElem?_eq_some_iff.1 h2).1;have q3:=(List.getElem?_eq_some_iff.1 h3).1;have q4:=(List.getElem?_eq_some_iff.1 h4).1;have q5:=(List.getElem?_eq_some_iff.1 h5).1;have q6:=(List.getElem?_eq_some_iff.1 h6).1;have q7:=(List.getElem?_eq_some_iff.1 h7).1;have e1:=(Kd.R_reads' S.e).1;have e2:=(Kd.R_reads' S.x).1;have e3:=(Kd.R_reads' S.l).1;have e4:=(Kd.R_reads' S.t).1;have e5:=(Kd.R_reads' S.v).1;exact⟨ad,c,⟨hA,hj,(int_at S.x h2).1,(int_at S.x h2).2,(int_at S.l h5).1,(int_at S.l h5).2,(int_at S.t h4).1,(int_at S.v h6).1,(int_at S.v h7).1⟩,by omega,by omega,by omega,by omega,by omega,by omega,q3,Kd.C_max hC⟩
end
set_option maxHeartbeats 8000000 in
set_option maxRecDepth 100000 in
theorem spush_sink {base g bE n cE bT nT cT bL nL cL bV nV cV bX nX cX:Nat} {E:List (List Int)} {T V:List Int} (hn2:2≤n) (hn3:n≤1000000) {L X:List Int} (y:Nat) (hy:y=n-1) (most:Int) (w:World) (hS:SSt base g bE n cE bT nT cT bL nL cL bV nV cV bX nX cX E T V w L X):
  Calls Try.prog 153 #[.pointer (some ⟨g,0,none⟩),.int .i64 (y:Int),.int .i64 most,.slice (some ⟨bV,0,none⟩) nV cV,.slice (some ⟨bX,0,none⟩) nX cX] w fun e w'=>e= .returned (.int .i64 most)∧w=w':=by
 obtain⟨c0,c1,c2,c3⟩:=hS.cells;have hxs:((y:Int)==(n:Int)-1)=true:=by rw[beq_iff_eq];omega
 clear hS hy
 go_enter Try.func153,Try.ntmps153
 go_wp2
 go_ret
 exact⟨rfl,rfl⟩
set_option maxHeartbeats 8000000 in
set_option maxRecDepth 100000 in
theorem spush_calls {base g bE n cE bT nT cT bL nL cL bV nV cV bX nX cX:Nat} {E:List (List Int)} {T V:List Int} (hn2:2≤n) (hn3:n≤1000000) (hV: ∀(z:Nat) (a:Int),V[z]?=some a→ -1≤a∧a≤1000000) (hVl:V.length=n) (hnL:nL≤4000000):
  ∀ {k x:Nat} {most r:Int} {L X L' X':List Int},PushL n E T V k x most L X r L' X'→ ∀(w0 w:World),x≠n-1→x<n→w0.heap.size=base→Below w0.heap.size w0 w→SSt base g bE n cE bT nT cT bL nL cL bV nV cV bX nX cX E T V w L X→
   Calls Try.prog 153 #[.pointer (some ⟨g,0,none⟩),.int .i64 (x:Int),.int .i64 most,.slice (some ⟨bV,0,none⟩) nV cV,.slice (some ⟨bX,0,none⟩) nX cX] w fun e w'=>e= .returned (.int .i64 r)∧Below w0.heap.size w0 w'∧Kept w w' (fun k=>k=bL∨k=bX)∧SSt base g bE n cE bT nT cT bL nL cL bV nV cV bX nX cX E T V w' L' X':=by
 intro k
 induction k using Nat.strongRecOn with
 |_ k ih=>
 intro x most r L X L' X' hp w0 w hx hxn hbase hB hS;obtain⟨c0,c1,c2,c3⟩:=hS.cells;have HP:=Aside0.mk hp;have HS:=Aside0.mk hS;have HB:=Aside0.mk hB;have HBase:=Aside0.mk hbase;have HV:=Aside0.mk hV;have HVL:=Aside0.mk hVl;have HK:=Aside0.mk (Kept.refl w (fun k=>k=bL∨k=bX));have hxs:((x:Int)==(n:Int)-1)=false:=by rw[beq_eq_false_iff_ne];omega
 have IH:=Aside0.mk ih;clear hp hS hB hbase hV hVl ih
 go_enter Try.func153,Try.ntmps153
 go_wp2;clear c0 c1 c2 c3 hxs
 go_loopg [] k (fun kq w'=> ∃(L1 X1:List Int),Aside0 (PushL n E T V kq x most L1 X1 r L' X')∧Aside0 (SSt base g bE n cE bT nT cT bL nL cL bV nV cV bX nX cX E T V w' L1 X1)∧Aside0 (Below w0.heap.size w0 w')∧Aside0 (Kept w w' (fun k=>k=bL∨k=bX))∧Aside0 (kq≤k))
 case atStart=>exact⟨L,X,HP,HS,HB,HK,⟨Nat.le_refl _⟩⟩
 case round=>
  clear HP HS HB HK;obtain⟨L1,X1,HP,HS,HB,HK,HKQ⟩:=hrel;obtain⟨c0,c1,c2,c3⟩:=HS.out.cells;cases HP.out with
  | @done _ _ _ _ _ row j h1 h2 h3=>
   obtain⟨A,c,hA,_,_⟩:=row_at HS.out.e h1;have hX:=(int_at HS.out.x h2).1;have ht:decide ((j:Int)<(row.length:Int))=false:=decide_eq_false (by omega);have hlt:=(List.getElem?_eq_some_iff.1 h1).1;have ht2:decide (j<row.length)=false:=decide_eq_false (by omega);have e1:=(Kd.R_reads' HS.out.e).1;have e2:=(Kd.R_reads' HS.out.x).1;have hltx:=(List.getElem?_eq_some_iff.1 h2).1;have b1:x<nX:=by omega
   clear HP h1 h2 h3 hlt e1 e2 hltx;go_wp2
   go_quiet(fail)
   go_wp2
   go_ret
   exact⟨rfl,pw_below_drewN HB.out _,Kept.drewN HK.out _,HS.out.drewN _⟩
  | @skip k1 _ _ _ _ _ _ _ row l a b j e y h1 h2 h3 h4 h5 h6 h7 h8 h9=>
   obtain⟨ad,c,⟨f1,f2,f3,f4,f5,f6,f7,f8,f9⟩,b1,b2,b3,b4,b5,b6,b7,b8⟩:=HS.out.at_ h1 h2 h3 h4 h5 h6 h7;have ht:decide ((j:Int)<(row.length:Int))=true:=decide_eq_true (by omega);have ht2:decide (j<row.length)=true:=decide_eq_true b7;have ha:=HV.out x a h6;have HP2:=Aside0.mk (show PushL n E T V k1 x most L1 (X1.set x ((j:Int)+1)) r L' X' from h9);clear HP h1 h2 h3 h4 h5 h6 h7 h9
   by_cases hl:l=0
   ·subst hl;clear h8;go_wp2
    go_quiet(fail)
    go_wp2
    go_quiet(fail)
    go_wp2
    go_quiet(fail)
    go_wp2
    go_roundg k1
    case measure=>omega
    case rel=>exact⟨L1,X1.set x ((j:Int)+1),HP2,⟨(HS.out.drewN _).putX _ _⟩,⟨below_set (pw_below_drewN HB.out _) (by rw[HBase.out];exact HS.out.baseX)⟩,⟨Kept.setCell (Kept.drewN HK.out _) (.inl (.inr rfl)) _⟩,⟨by have:=HKQ.out;omega⟩⟩
   ·have q1:(l==0)=false:=by simpa using hl
    have hb:b≠a+1:=h8.resolve_left hl;have q2:(b !=a+1)=true:=by simpa using hb
    have q3:(b==a+1)=false:=by simpa using hb
    clear h8 hb hl;go_wp2
    go_quiet(fail)
    go_wp2
    go_quiet(fail)
    go_wp2
    go_quiet(fail)
    go_wp2
    go_roundg k1
    case measure=>omega
    case rel=>exact⟨L1,X1.set x ((j:Int)+1),HP2,⟨(HS.out.drewN _).putX _ _⟩,⟨below_set (pw_below_drewN HB.out _) (by rw[HBase.out];exact HS.out.baseX)⟩,⟨Kept.setCell (Kept.drewN HK.out _) (.inl (.inr rfl)) _⟩,⟨by have:=HKQ.out;omega⟩⟩
  | @fail k1 _ _ _ _ _ _ _ row l a La Xa j1 j e y h1 h2 h3 h4 h5 h6 h7 h8 hy hp h9 hj hp2=>
   obtain⟨ad,c,⟨f1,f2,f3,f4,f5,f6,f7,f8,f9⟩,b1,b2,b3,b4,b5,b6,b7,b8⟩:=HS.out.at_ h1 h2 h3 h4 h5 h6 h7;have ht:decide ((j:Int)<(row.length:Int))=true:=decide_eq_true (by omega);have ht2:decide (j<row.length)=true:=decide_eq_true b7;have ha:=HV.out x a h6;have hyn:y<n:=by have q:=(List.getElem?_eq_some_iff.1 h7).1;have q2:=HVL.out;omega
   have q1:(l==0)=false:=by simpa using h8
   have q2:(a+1 !=a+1)=false:=by simp
   have HPQ:=hp;have HP2:=Aside0.mk (show PushL n E T V k1 x most La (Xa.set x ((j1:Int)+1)) r L' X' from hp2);have HY:=Aside0.mk hy;have HX1:=Aside0.mk h9;have hkk:=HKQ.out;clear HP h1 h2 h3 h4 h5 h6 h7 h8 hp hp2 h9
   rcases Int.lt_or_le l most with hm|hm
   ·have HM:=Aside0.mk (Int.min_eq_right (Int.le_of_lt hm));rw[HM.out]at HPQ;have HP1:=Aside0.mk HPQ;clear HPQ;go_wp2
    go_quiet(fail)
    go_wp2
    go_quiet(fail)
    go_wp2
    go_quiet(fail)
    go_wp2;refine still_tail_ 19 (by kernel_rfl) (by kernel_rfl) (fun W hW=>?_);have HS2:=Aside0.mk (show SSt base g bE n cE bT nT cT bL nL cL bV nV cV bX nX cX E T V W L1 X1 from by subst hW;repeat(first|exact HS.out|apply SSt.drewN));have HB2:=Aside0.mk (show Below w0.heap.size w0 W from by subst hW;repeat(first|exact HB.out|apply pw_below_drewN));have HK2:=Aside0.mk (show Kept w W (fun k=>k=bL∨k=bX)from by subst hW;exact HK.out);have hce: ∀q,wr.cell? q=W.cell? q:=fun q=>by rw[hW];rfl
    have hfr: ∀q,wr.frozen? q=W.frozen? q:=fun q=>by rw[hW];rfl
    rw[hce]at c0 c1 c2 c3 f1 f2 f3 f5 f7 f8 f9;rw[hfr]at f4 f6;clear hW hce hfr HS HB HK;simp only[List.take_succ_cons,List.take_zero,List.drop_succ_cons,List.drop_zero]
    repeat still_step
    still_call (least_any most l _ W HM.out)
    repeat still_step
    refine wpStill_nil ?_
    go_wp2_with fail
    refine(IH.out k1 (by omega) HP1.out w0 W HY.out hyn HBase.out HB2.out HS2.out).mono ?_;rintro e2 w2 ⟨rfl,hb2,hk2,hs2⟩;have HB3:=Aside0.mk hb2;have HK3:=Aside0.mk (Kept.then_ HK2.out hk2 (fun _ h=> .inl h));have HS3:=Aside0.mk hs2;clear hb2 hk2 hs2 HS2 HB2 HK2 c0 c1 c2 c3 f1 f2 f3 f4 f5 f6 f7 f8 f9;obtain⟨c0,c1,c2,c3⟩:=HS3.out.cells;obtain⟨g4,g4f⟩:=int_at HS3.out.x HX1.out;have hltx:=(List.getElem?_eq_some_iff.1 HX1.out).1;have e2:=(Kd.R_reads' HS3.out.x).1;have b9:x<nX:=by omega
    clear hltx e2
    go_wp2_with fail
    go_roundg k1
    case measure=>omega
    case rel=>exact⟨La,Xa.set x ((j1:Int)+1),HP2,⟨HS3.out.putX _ _⟩,⟨below_set HB3.out (by rw[HBase.out];exact HS3.out.baseX)⟩,⟨Kept.setCell HK3.out (.inl (.inr rfl)) _⟩,⟨by omega⟩⟩
   ·have HM:=Aside0.mk (Int.min_eq_left hm);rw[HM.out]at HPQ;have HP1:=Aside0.mk HPQ;clear HPQ;go_wp2
    go_quiet(fail)
    go_wp2
    go_quiet(fail)
    go_wp2
    go_quiet(fail)
    go_wp2;refine still_tail_ 19 (by kernel_rfl) (by kernel_rfl) (fun W hW=>?_);have HS2:=Aside0.mk (show SSt base g bE n cE bT nT cT bL nL cL bV nV cV bX nX cX E T V W L1 X1 from by subst hW;repeat(first|exact HS.out|apply SSt.drewN));have HB2:=Aside0.mk (show Below w0.heap.size w0 W from by subst hW;repeat(first|exact HB.out|apply pw_below_drewN));have HK2:=Aside0.mk (show Kept w W (fun k=>k=bL∨k=bX)from by subst hW;exact HK.out);have hce: ∀q,wr.cell? q=W.cell? q:=fun q=>by rw[hW];rfl
    have hfr: ∀q,wr.frozen? q=W.frozen? q:=fun q=>by rw[hW];rfl
    rw[hce]at c0 c1 c2 c3 f1 f2 f3 f5 f7 f8 f9;rw[hfr]at f4 f6;clear hW hce hfr HS HB HK;simp only[List.take_succ_cons,List.take_zero,List.drop_succ_cons,List.drop_zero]
    repeat still_step
    still_call (least_any most l _ W HM.out)
    repeat still_step
    refine wpStill_nil ?_
    go_wp2_with fail
    refine(IH.out k1 (by omega) HP1.out w0 W HY.out hyn HBase.out HB2.out HS2.out).mono ?_;rintro e2 w2 ⟨rfl,hb2,hk2,hs2⟩;have HB3:=Aside0.mk hb2;have HK3:=Aside0.mk (Kept.then_ HK2.out hk2 (fun _ h=> .inl h));have HS3:=Aside0.mk hs2;clear hb2 hk2 hs2 HS2 HB2 HK2 c0 c1 c2 c3 f1 f2 f3 f4 f5 f6 f7 f8 f9;obtain⟨c0,c1,c2,c3⟩:=HS3.out.cells;obtain⟨g4,g4f⟩:=int_at HS3.out.x HX1.out;have hltx:=(List.getElem?_eq_some_iff.1 HX1.out).1;have e2:=(Kd.R_reads' HS3.out.x).1;have b9:x<nX:=by omega
    clear hltx e2
    go_wp2_with fail
    go_roundg k1
    case measure=>omega
    case rel=>exact⟨La,Xa.set x ((j1:Int)+1),HP2,⟨HS3.out.putX _ _⟩,⟨below_set HB3.out (by rw[HBase.out];exact HS3.out.baseX)⟩,⟨Kept.setCell HK3.out (.inl (.inr rfl)) _⟩,⟨by omega⟩⟩
  | @sent k1 _ _ _ _ row l a La Xa _ l1 l2 j e y h1 h2 h3 h4 h5 h6 h7 h8 hy hp h9 g1 g2 hr hl1 hl2 hb=>
   obtain⟨ad,c,⟨f1,f2,f3,f4,f5,f6,f7,f8,f9⟩,b1,b2,b3,b4,b5,b6,b7,b8⟩:=HS.out.at_ h1 h2 h3 h4 h5 h6 h7;have ht:decide ((j:Int)<(row.length:Int))=true:=decide_eq_true (by omega);have ht2:decide (j<row.length)=true:=decide_eq_true b7;have ha:=HV.out x a h6;have hyn:y<n:=by have q:=(List.getElem?_eq_some_iff.1 h7).1;have q2:=HVL.out;omega
   have q1:(l==0)=false:=by simpa using h8
   have q2:(a+1 !=a+1)=false:=by simp
   have HPQ:=hp;have HY:=Aside0.mk hy;have HG1:=Aside0.mk g1;have HG2:=Aside0.mk g2;have HNL:=Aside0.mk hnL;have hkk:=HKQ.out;clear HP h1 h2 h3 h4 h5 h6 h7 h8 hp g1 g2
   rcases Int.lt_or_le l most with hm|hm
   ·have HM:=Aside0.mk (Int.min_eq_right (Int.le_of_lt hm));rw[HM.out]at HPQ;have HP1:=Aside0.mk HPQ;clear HPQ;go_wp2
    go_quiet(fail)
    go_wp2
    go_quiet(fail)
    go_wp2
    go_quiet(fail)
    go_wp2;refine still_tail_ 19 (by kernel_rfl) (by kernel_rfl) (fun W hW=>?_);have HS2:=Aside0.mk (show SSt base g bE n cE bT nT cT bL nL cL bV nV cV bX nX cX E T V W L1 X1 from by subst hW;repeat(first|exact HS.out|apply SSt.drewN));have HB2:=Aside0.mk (show Below w0.heap.size w0 W from by subst hW;repeat(first|exact HB.out|apply pw_below_drewN));have HK2:=Aside0.mk (show Kept w W (fun k=>k=bL∨k=bX)from by subst hW;exact HK.out);have hce: ∀q,wr.cell? q=W.cell? q:=fun q=>by rw[hW];rfl
    have hfr: ∀q,wr.frozen? q=W.frozen? q:=fun q=>by rw[hW];rfl
    rw[hce]at c0 c1 c2 c3 f1 f2 f3 f5 f7 f8 f9;rw[hfr]at f4 f6;clear hW hce hfr HS HB HK;simp only[List.take_succ_cons,List.take_zero,List.drop_succ_cons,List.drop_zero]
    repeat still_step
    still_call (least_any most l _ W HM.out)
    repeat still_step
    refine wpStill_nil ?_
    go_wp2_with fail
    refine(IH.out k1 (by omega) HP1.out w0 W HY.out hyn HBase.out HB2.out HS2.out).mono ?_;rintro e2 w2 ⟨rfl,hb2,hk2,hs2⟩;have HB3:=Aside0.mk hb2;have HK3:=Aside0.mk (Kept.then_ HK2.out hk2 (fun _ h=> .inl h));have HS3:=Aside0.mk hs2;clear hb2 hk2 hs2 HS2 HB2 HK2 c0 c1 c2 c3 f1 f2 f3 f4 f5 f6 f7 f8 f9;obtain⟨c0,c1,c2,c3⟩:=HS3.out.cells;obtain⟨g1c,g1f⟩:=int_at HS3.out.l HG1.out;have hput:=HS3.out.putL e (l1-r);have hl2':(La.set e (l1-r))[par e]?=some l2:=by rw[List.getElem?_set_ne (fun h=>par_ne e h.symm)];exact HG2.out
    obtain⟨g2c,g2f⟩:=int_at hput.l hl2';have HPUT:=Aside0.mk hput;have bl1:e<nL:=by have q:=(List.getElem?_eq_some_iff.1 HG1.out).1;have q2:=(Kd.R_reads' HS3.out.l).1;omega
    have bl2:par e<nL:=by have q:=(List.getElem?_eq_some_iff.1 HG2.out).1;have q2:=(Kd.R_reads' HS3.out.l).1;omega
    have c2':=HPUT.out.cells.2.2.1;have hbits:=bits_xor1 e (by have:=HNL.out;omega);clear hput hl2'
    go_wp2_with fail
    go_ret
    exact⟨rfl,below_set (below_set HB3.out (by rw[HBase.out];exact HS3.out.baseL)) (by rw[HBase.out];exact HS3.out.baseL),Kept.setCell (Kept.setCell HK3.out (.inl (.inl rfl)) _) (.inl (.inl rfl)) _,by rw[sendL_eq HG1.out HG2.out];exact HPUT.out.putL _ _⟩
   ·have HM:=Aside0.mk (Int.min_eq_left hm);rw[HM.out]at HPQ;have HP1:=Aside0.mk HPQ;clear HPQ;go_wp2
    go_quiet(fail)
    go_wp2
    go_quiet(fail)
    go_wp2
    go_quiet(fail)
    go_wp2;refine still_tail_ 19 (by kernel_rfl) (by kernel_rfl) (fun W hW=>?_);have HS2:=Aside0.mk (show SSt base g bE n cE bT nT cT bL nL cL bV nV cV bX nX cX E T V W L1 X1 from by subst hW;repeat(first|exact HS.out|apply SSt.drewN));have HB2:=Aside0.mk (show Below w0.heap.size w0 W from by subst hW;repeat(first|exact HB.out|apply pw_below_drewN));have HK2:=Aside0.mk (show Kept w W (fun k=>k=bL∨k=bX)from by subst hW;exact HK.out);have hce: ∀q,wr.cell? q=W.cell? q:=fun q=>by rw[hW];rfl
    have hfr: ∀q,wr.frozen? q=W.frozen? q:=fun q=>by rw[hW];rfl
    rw[hce]at c0 c1 c2 c3 f1 f2 f3 f5 f7 f8 f9;rw[hfr]at f4 f6;clear hW hce hfr HS HB HK;simp only[List.take_succ_cons,List.take_zero,List.drop_succ_cons,List.drop_zero]
    repeat still_step
    still_call (least_any most l _ W HM.out)
    repeat still_step
    refine wpStill_nil ?_
    go_wp2_with fail
    refine(IH.out k1 (by omega) HP1.out w0 W HY.out hyn HBase.out HB2.out HS2.out).mono ?_;rintro e2 w2 ⟨rfl,hb2,hk2,hs2⟩;have HB3:=Aside0.mk hb2;have HK3:=Aside0.mk (Kept.then_ HK2.out hk2 (fun _ h=> .inl h));have HS3:=Aside0.mk hs2;clear hb2 hk2 hs2 HS2 HB2 HK2 c0 c1 c2 c3 f1 f2 f3 f4 f5 f6 f7 f8 f9;obtain⟨c0,c1,c2,c3⟩:=HS3.out.cells;obtain⟨g1c,g1f⟩:=int_at HS3.out.l HG1.out;have hput:=HS3.out.putL e (l1-r);have hl2':(La.set e (l1-r))[par e]?=some l2:=by rw[List.getElem?_set_ne (fun h=>par_ne e h.symm)];exact HG2.out
    obtain⟨g2c,g2f⟩:=int_at hput.l hl2';have HPUT:=Aside0.mk hput;have bl1:e<nL:=by have q:=(List.getElem?_eq_some_iff.1 HG1.out).1;have q2:=(Kd.R_reads' HS3.out.l).1;omega
    have bl2:par e<nL:=by have q:=(List.getElem?_eq_some_iff.1 HG2.out).1;have q2:=(Kd.R_reads' HS3.out.l).1;omega
    have c2':=HPUT.out.cells.2.2.1;have hbits:=bits_xor1 e (by have:=HNL.out;omega);clear hput hl2'
    go_wp2_with fail
    go_ret
    exact⟨rfl,below_set (below_set HB3.out (by rw[HBase.out];exact HS3.out.baseL)) (by rw[HBase.out];exact HS3.out.baseL),Kept.setCell (Kept.setCell HK3.out (.inl (.inl rfl)) _) (.inl (.inl rfl)) _,by rw[sendL_eq HG1.out HG2.out];exact HPUT.out.putL _ _⟩
  | @sink k1 _ _ _ _ row l a l2 j e y h1 h2 h3 h4 h5 h6 h7 h8 hy hmin hl1 g2 hl2 hb=>
   obtain⟨ad,c,⟨f1,f2,f3,f4,f5,f6,f7,f8,f9⟩,b1,b2,b3,b4,b5,b6,b7,b8⟩:=HS.out.at_ h1 h2 h3 h4 h5 h6 h7;have ht:decide ((j:Int)<(row.length:Int))=true:=decide_eq_true (by omega);have ht2:decide (j<row.length)=true:=decide_eq_true b7;have ha:=HV.out x a h6;have hyn:y<n:=by have q:=(List.getElem?_eq_some_iff.1 h7).1;have q2:=HVL.out;omega
   have q1:(l==0)=false:=by simpa using h8
   have q2:(a+1 !=a+1)=false:=by simp
   have HY:=Aside0.mk hy;have HG1:=Aside0.mk h5;have HG2:=Aside0.mk g2;have HNL:=Aside0.mk hnL;clear HP h1 h2 h3 h4 h5 h6 h7 h8 g2 hy
   rcases Int.lt_or_le l most with hm|hm
   ·have HM:=Aside0.mk (Int.min_eq_right (Int.le_of_lt hm));rw[HM.out]at hmin hb;have HMN:=Aside0.mk hmin;have HBN:=Aside0.mk hb;clear hmin hb;go_wp2
    go_quiet(fail)
    go_wp2
    go_quiet(fail)
    go_wp2
    go_quiet(fail)
    go_wp2;refine still_tail_ 19 (by kernel_rfl) (by kernel_rfl) (fun W hW=>?_);have HS2:=Aside0.mk (show SSt base g bE n cE bT nT cT bL nL cL bV nV cV bX nX cX E T V W L1 X' from by subst hW;repeat(first|exact HS.out|apply SSt.drewN));have HB2:=Aside0.mk (show Below w0.heap.size w0 W from by subst hW;repeat(first|exact HB.out|apply pw_below_drewN));have HK2:=Aside0.mk (show Kept w W (fun k=>k=bL∨k=bX)from by subst hW;exact HK.out);have hce: ∀q,wr.cell? q=W.cell? q:=fun q=>by rw[hW];rfl
    have hfr: ∀q,wr.frozen? q=W.frozen? q:=fun q=>by rw[hW];rfl
    rw[hce]at c0 c1 c2 c3 f1 f2 f3 f5 f7 f8 f9;rw[hfr]at f4 f6;clear hW hce hfr HS HB HK;simp only[List.take_succ_cons,List.take_zero,List.drop_succ_cons,List.drop_zero]
    repeat still_step
    still_call (least_any most l _ W HM.out)
    repeat still_step
    refine wpStill_nil ?_
    go_wp2_with fail
    refine(spush_sink hn2 hn3 y HY.out _ W HS2.out).mono ?_;rintro e2 w2 ⟨rfl,rfl⟩;clear c0 c1 c2 c3 f1 f2 f3 f4 f5 f6 f7 f8 f9;obtain⟨c0,c1,c2,c3⟩:=HS2.out.cells;have hmin:=HMN.out;have hb:=HBN.out;obtain⟨g1c,g1f⟩:=int_at HS2.out.l HG1.out;have hput:=HS2.out.putL e (0:Int);have hl2':(L1.set e (0:Int))[par e]?=some l2:=by rw[List.getElem?_set_ne (fun h=>par_ne e h.symm)];exact HG2.out
    obtain⟨g2c,g2f⟩:=int_at hput.l hl2';have HPUT:=Aside0.mk hput;have bl1:e<nL:=by have q:=(List.getElem?_eq_some_iff.1 HG1.out).1;have q2:=(Kd.R_reads' HS2.out.l).1;omega
    have bl2:par e<nL:=by have q:=(List.getElem?_eq_some_iff.1 HG2.out).1;have q2:=(Kd.R_reads' HS2.out.l).1;omega
    have c2':=HPUT.out.cells.2.2.1;have hbits:=bits_xor1 e (by have:=HNL.out;omega);clear hput hl2'
    go_wp2_with fail
    go_ret
    exact⟨by rw[HM.out];rfl,below_set (below_set HB2.out (by rw[HBase.out];exact HS2.out.baseL)) (by rw[HBase.out];exact HS2.out.baseL),Kept.setCell (Kept.setCell HK2.out (.inl (.inl rfl)) _) (.inl (.inl rfl)) _,by rw[HM.out,sendL_eq HG1.out HG2.out,Int.sub_self];exact HPUT.out.putL _ _⟩
   ·have HM:=Aside0.mk (Int.min_eq_left hm);rw[HM.out]at hmin hb;have HMN:=Aside0.mk hmin;have HBN:=Aside0.mk hb;clear hmin hb;go_wp2
    go_quiet(fail)
    go_wp2
    go_quiet(fail)
    go_wp2
    go_quiet(fail)
    go_wp2;refine still_tail_ 19 (by kernel_rfl) (by kernel_rfl) (fun W hW=>?_);have HS2:=Aside0.mk (show SSt base g bE n cE bT nT cT bL nL cL bV nV cV bX nX cX E T V W L1 X' from by subst hW;repeat(first|exact HS.out|apply SSt.drewN));have HB2:=Aside0.mk (show Below w0.heap.size w0 W from by subst hW;repeat(first|exact HB.out|apply pw_below_drewN));have HK2:=Aside0.mk (show Kept w W (fun k=>k=bL∨k=bX)from by subst hW;exact HK.out);have hce: ∀q,wr.cell? q=W.cell? q:=fun q=>by rw[hW];rfl
    have hfr: ∀q,wr.frozen? q=W.frozen? q:=fun q=>by rw[hW];rfl
    rw[hce]at c0 c1 c2 c3 f1 f2 f3 f5 f7 f8 f9;rw[hfr]at f4 f6;clear hW hce hfr HS HB HK;simp only[List.take_succ_cons,List.take_zero,List.drop_succ_cons,List.drop_zero]
    repeat still_step
    still_call (least_any most l _ W HM.out)
    repeat still_step
    refine wpStill_nil ?_
    go_wp2_with fail
    refine(spush_sink hn2 hn3 y HY.out _ W HS2.out).mono ?_;rintro e2 w2 ⟨rfl,rfl⟩;clear c0 c1 c2 c3 f1 f2 f3 f4 f5 f6 f7 f8 f9;obtain⟨c0,c1,c2,c3⟩:=HS2.out.cells;have hmin:=HMN.out;have hb:=HBN.out;obtain⟨g1c,g1f⟩:=int_at HS2.out.l HG1.out;have hput:=HS2.out.putL e (l-most);have hl2':(L1.set e (l-most))[par e]?=some l2:=by rw[List.getElem?_set_ne (fun h=>par_ne e h.symm)];exact HG2.out
    obtain⟨g2c,g2f⟩:=int_at hput.l hl2';have HPUT:=Aside0.mk hput;have bl1:e<nL:=by have q:=(List.getElem?_eq_some_iff.1 HG1.out).1;have q2:=(Kd.R_reads' HS2.out.l).1;omega
    have bl2:par e<nL:=by have q:=(List.getElem?_eq_some_iff.1 HG2.out).1;have q2:=(Kd.R_reads' HS2.out.l).1;omega
    have c2':=HPUT.out.cells.2.2.1;have hbits:=bits_xor1 e (by have:=HNL.out;omega);clear hput hl2'
    go_wp2_with fail
    go_ret
    exact⟨by rw[HM.out];rfl,below_set (below_set HB2.out (by rw[HBase.out];exact HS2.out.baseL)) (by rw[HBase.out];exact HS2.out.baseL),Kept.setCell (Kept.setCell HK2.out (.inl (.inl rfl)) _) (.inl (.inl rfl)) _,by rw[HM.out,sendL_eq HG1.out HG2.out];exact HPUT.out.putL _ _⟩
end Go.Proofs.Ytlkppimbbbdmbaa.SRes
namespace Go.Proofs.Ytlkppimbbbdmbaa.SRes
open Go.RowKit Go.Proofs.YtlkppimbbbdmbaaW.PrintWords Go.Proofs.YtlkppimbbbdmbaaW.PrintLast Go.Proofs.YtlkppimbbbdmbaaW.PrintMore Go.Proofs.Ytlkppimbbbdmbaa.Flow Go.Proofs.Ytlkppimbbbdmbaa.Res
set_option linter.unusedVariables false
set_option linter.unusedSimpArgs false
structure SRs (N base g bE n cE bT nT cT bL nL cL:Nat) (E:List (List Int)) (T:List Int) (w:World) (L:List Int):Prop where
 box:w.heap[g]?=some (.cells #[.int .i64 (n:Int),.slice (sl nT bT) nT cT,.slice (sl nL bL) nL cL,.slice (some ⟨bE,0,none⟩) n cE] 132 (0,0))
 e:Kd.R (Kd.slice 3 (Kd.int .i64)) 24 w base (fun k=>k≠bL∧k<N) (.slice (some ⟨bE,0,none⟩) n cE) E
 t:Kd.R (Kd.int .i64) 3 w base (fun k=>k≠bL∧k<N) (.slice (sl nT bT) nT cT) T
 l:Kd.R (Kd.int .i64) 3 w base (fun k=>k=bL) (.slice (sl nL bL) nL cL) L
 gL:g≠bL
 gN:g<N
 LN:nL≠0→bL<N
 gb:base≤g
 NS:N≤w.heap.size
section
variable {N base g bE n cE bT nT cT bL nL cL:Nat} {E:List (List Int)} {T L:List Int} {w w1:World}
theorem SRs.move (S:SRs N base g bE n cE bT nT cT bL nL cL E T w L) (hm: ∀k,k<N→w1.heap[k]?=w.heap[k]?) (hs:w.heap.size≤w1.heap.size):SRs N base g bE n cE bT nT cT bL nL cL E T w1 L:=
 ⟨(hm g S.gN).trans S.box,Kd.R_move S.e (fun k hk=>hm k hk.2),Kd.R_move S.t (fun k hk=>hm k hk.2),R_sl S.l (fun h0=>hm bL (S.LN h0)),S.gL,S.gN,S.LN,S.gb,Nat.le_trans S.NS hs⟩
theorem SRs.grown (S:SRs N base g bE n cE bT nT cT bL nL cL E T w L) {row:Option Nat} (hg:w.grownBy w1 row) (hr: ∀k,row=some k→N≤k):SRs N base g bE n cE bT nT cT bL nL cL E T w1 L:=
 S.move (fun k hk=>hg.block k (Nat.lt_of_lt_of_le hk S.NS) (fun he=>by have:=hr k he.symm;omega)) hg.size
theorem SRs.below (S:SRs N base g bE n cE bT nT cT bL nL cL E T w L) (hb:Below w.heap.size w w1):SRs N base g bE n cE bT nT cT bL nL cL E T w1 L:=
 S.move (fun k hk=>hb.block k (Nat.lt_of_lt_of_le hk S.NS)) hb.size
theorem SRs.far (S:SRs N base g bE n cE bT nT cT bL nL cL E T w L) {b i:Nat} (hb:N≤b) (u:Value):SRs N base g bE n cE bT nT cT bL nL cL E T (w.setCell ⟨b,i,none⟩ u) L:=
 S.move (fun k hk=>Below.heap_setCell w ⟨b,i,none⟩ u k (by show k≠b;omega)) (by simp[World.setCell])
theorem SRs.cells (S:SRs N base g bE n cE bT nT cT bL nL cL E T w L):
  w.cell? ⟨g,0,none⟩=some (.int .i64 (n:Int))∧w.cell? ⟨g,1,none⟩=some (.slice (sl nT bT) nT cT)∧w.cell? ⟨g,2,none⟩=some (.slice (sl nL bL) nL cL)∧w.cell? ⟨g,3,none⟩=some (.slice (some ⟨bE,0,none⟩) n cE):=
 ⟨blk_cell S.box 0,blk_cell S.box 1,blk_cell S.box 2,blk_cell S.box 3⟩
theorem SRs.ltE (S:SRs N base g bE n cE bT nT cT bL nL cL E T w L):bE<N:=(S.e.1 bE (by simp[Value.ownBlock])).2
theorem SRs.row (S:SRs N base g bE n cE bT nT cT bL nL cL E T w L) {x c:Nat} {row:List Int} {A:Option Addr} (h1:E[x]?=some row) (hc:w.cell? ⟨bE,x,none⟩=some (.slice A row.length c)):(Kd.int .i64).C w A row.length row:=by
 obtain⟨A',c',hA,_,hC⟩:=row_at S.e h1;rw[hc]at hA
 injection hA with hA
 injection hA with hA
 subst hA;exact hC
end
def LevPost (N g bE n cE bT nT cT bL nL cL:Nat) (E:List (List Int)) (T L:List Int) (w0 w:World) (B:List Bool) (V:List Int) (e:Ending) (w':World):Prop:=
 ∃bD cD,e= .returned (.slice (some ⟨bD,0,none⟩) n cD)∧Kd.R (Kd.int .i64) 3 w' w0.heap.size (fun k=>k=bD) (.slice (some ⟨bD,0,none⟩) n cD) (dOf n B V)∧w.heap.size≤bD∧
  SRs N w0.heap.size g bE n cE bT nT cT bL nL cL E T w' L∧Below w0.heap.size w0 w'∧Kept w w' (fun _=>False)
set_option maxHeartbeats 8000000 in
set_option maxRecDepth 100000 in
theorem levels_calls {N g bE n cE bT nT cT bL nL cL:Nat} {E:List (List Int)} {T L:List Int} (hn1:1≤n) (hn3:n≤1000000) (w0 w:World) (hB:Below w0.heap.size w0 w) (hS:SRs N w0.heap.size g bE n cE bT nT cT bL nL cL E T w L) {k:Nat} {B:List Bool} {V:List Int} (h:Bfs E T L k (B0 n) (List.replicate n 0) [0] B V):
  Calls Try.prog 147 #[.pointer (some ⟨g,0,none⟩)] w (LevPost N g bE n cE bT nT cT bL nL cL E T L w0 w B V):=by
 obtain⟨c0,c1,c2,c3⟩:=hS.cells;have HS:=Aside0.mk hS;have HB:=Aside0.mk hB;have H:=Aside0.mk h;have HN:=Aside0.mk hS.NS;have HBN:=Aside0.mk (show w0.heap.size≤w.heap.size from hB.size);clear hS hB h
 go_enter Try.func147,Try.ntmps147
 go_wp2_with(first
  |((with_reducible refine gate_dst (N:=13) rfl ?_);refine Kd.R_make (Kd.int .i64) (w0:=w0) w0.heap.size 3 rfl (N:=13) rfl 24 _ _ rfl (n:Int) rfl rfl Try.underlying24 (.int .i64 0) 8 infoI rfl (by decide) (by omega) 0 (ok:=fun k=>w.heap.size≤k) (okp:=fun _=>False) rfl (fun _ hk=>hk.elim) (Nat.le_refl _) (by omega) (by omega) HB.out HBN.out ?_;intro v1 w1 ho hb hg hnew;
    rw[Int.toNat_natCast]at ho;obtain⟨bD,cD,e1,hv1,hv2,_⟩:=Kd.R_form ho (by rw[List.length_replicate];omega);rw[List.length_replicate]at e1;subst e1;have HS1:=Aside0.mk (HS.out.grown hg (fun _ h=>by cases h));have HD1:=Aside0.mk (Kd.R_mono (ok':=fun k=>k=bD) (Kd.R_tight rfl ho) (fun k hk=>by simpa [Value.ownBlock]using hk));have HB1:=Aside0.mk hb;have HbD:=Aside0.mk (show w.heap.size≤bD from ho.1 bD (by simp[Value.ownBlock]));have HK1:=Aside0.mk (Kept.of_grown hg (Kept.refl w (fun _=>False)) (fun _ h=>by cases h));clear ho hb hg hnew hv1 hv2 c0 c1 c2 c3 HS HB))
 go_loopg [16] n (fun kq v16 w'=> ∃i:Nat,i+kq=n∧v16= .int .i64 (i:Int)∧Aside0 (SRs N w0.heap.size g bE n cE bT nT cT bL nL cL E T w' L)∧Aside0 (Kd.R (Kd.int .i64) 3 w' w0.heap.size (fun k=>k=bD) (.slice (some ⟨bD,0,none⟩) n cD) (List.replicate i (-1)++List.replicate kq 0))∧Aside0 (Below w0.heap.size w0 w')∧Aside0 (Kept w w' (fun _=>False)))
 case atStart=>exact⟨0,by omega,rfl,HS1,HD1,HB1,HK1⟩
 case round=>
  clear HS1 HD1 HB1 HK1;obtain⟨i,hi,rfl,HS,HD,HB,HK⟩:=hrel;cases gk with
  |succ q=>
   have ht:decide ((i:Int)<(n:Int))=true:=decide_eq_true (by omega);have ht2:decide (i<n)=true:=decide_eq_true (by omega);obtain⟨_,gf⟩:=int_at HD.out (i:=i) (v:=0) (by rw[List.getElem?_append_right (by simp),List.length_replicate,Nat.sub_self];rfl);have hin:i<n:=by omega
   have HI:=Aside0.mk hi;clear hi;go_wp2
   go_roundg q
   case measure=>omega
   case rel=>exact⟨i+1,by have:=HI.out;omega,by go_num,⟨HS.out.far (b:=bD) (i:=i) (Nat.le_trans HN.out HbD.out) (.int .i64 (-1))⟩,⟨by
    have:=Kd.R_putn (enc:=Value.int .i64) HD.out (i:Int) (-1)
    have e:=(show(List.replicate i (-1:Int)++List.replicate (q+1) 0).set (i:Int).toNat (-1)=List.replicate (i+1) (-1)++List.replicate q 0 by
     rw[Int.toNat_natCast,List.set_append_right _ _ (by simp),List.length_replicate,Nat.sub_self,List.replicate_succ (n:=q),List.set_cons_zero,List.replicate_succ',List.append_assoc];rfl)
    rw[e,Int.toNat_natCast]at this;exact this⟩,⟨below_set HB.out (Nat.le_trans HBN.out HbD.out)⟩,⟨Kept.setCell HK.out (.inr HbD.out) _⟩⟩
  |zero=>
   have ht:decide ((i:Int)<(n:Int))=false:=decide_eq_false (by omega);have ht2:decide (i<n)=false:=decide_eq_false (by omega);have hin:i=n:=by omega
   subst hin;obtain⟨_,gf⟩:=int_at HD.out (i:=0) (v:= -1) (by rw[List.getElem?_append_left (by simp;omega),List.getElem?_replicate,if_pos (by omega)]);clear hi;go_wp2;clear gf;have HS4:=Aside0.mk (HS.out.far (b:=bD) (i:=0) (Nat.le_trans HN.out HbD.out) (.int .i64 0));have HD4:=Aside0.mk (show Kd.R (Kd.int .i64) 3 (wr.setCell ⟨bD,0,none⟩ (.int .i64 0)) w0.heap.size (fun k=>k=bD) (.slice (some ⟨bD,0,none⟩) i cD) (dOf i (B0 i) (List.replicate i 0))from by
    have:=Kd.R_putn (enc:=Value.int .i64) HD.out (0:Int) 0
    rw[dOf_start (by omega)];rw[List.replicate_zero,List.append_nil]at this;exact this)
   have HB4:=Aside0.mk (below_set (j:=0) (v:= .int .i64 0) HB.out (Nat.le_trans HBN.out HbD.out));have HK4:=Aside0.mk (Kept.setCell HK.out (p:=⟨bD,0,none⟩) (.inr HbD.out) (.int .i64 0));clear HS HD HB HK;have HL5:=Aside0.mk (show Kd.R (Kd.int .i64) 3 ((wr.setCell ⟨bD,0,none⟩ (.int .i64 0)).alloc (.cells #[.int .i64 0] 3)) w0.heap.size (fun k=>w.heap.size≤k∧k≠bD) (.slice (some ⟨(wr.setCell ⟨bD,0,none⟩ (.int .i64 0)).heap.size,0,none⟩) 1 1) [0]from
    Kd.R_of_own (enc:=Value.int .i64) (xs:=[0]) (own_lit (wr.setCell ⟨bD,0,none⟩ (.int .i64 0)) w0.heap.size 3 .i64 [0] (below_size HB4.out) (by simp)) (fun k hk=>by
     have e1:(wr.setCell ⟨bD,0,none⟩ (.int .i64 0)).heap.size=k:=by simpa [Value.ownBlock]using hk
     have e2:=Kd.R_lt HD4.out bD (by simp[Value.ownBlock]);have e3:=HK4.out.1;exact⟨by omega,by omega⟩))
   have hsz:(wr.setCell ⟨bD,0,none⟩ (.int .i64 0)).heap.size=wr.heap.size:=by simp[World.setCell]
   rw[hsz]at HL5;clear hsz;have HS5:=Aside0.mk (HS4.out.below (below_alloc (Below.refl _ _) (.cells #[.int .i64 0] 3)));have HD5:=Aside0.mk (Kd.R_alloc HD4.out (.cells #[.int .i64 0] 3));have HB5:=Aside0.mk (below_alloc HB4.out (.cells #[.int .i64 0] 3));have HK5:=Aside0.mk (Kept.alloc HK4.out (.cells #[.int .i64 0] 3));clear HS4 HD4 HB4 HK4;obtain⟨wo,rfl⟩: ∃wo:World,wo=wr:=⟨_,rfl⟩
   go_loopg [5,6] k (fun kq v5 v6 w'=> ∃(done:List Int) (Bc:List Bool) (Vc Qc:List Int),v6= .int .i64 (done.length:Int)∧Aside0 (Bfs E T L kq Bc Vc Qc B V)∧Aside0 (done.length+Qc.length=cnt Bc∧Bc.length=i∧Vc.length=i)∧Aside0 (Kd.R (Kd.int .i64) 3 w' w0.heap.size (fun k=>w.heap.size≤k∧k≠bD) v5 (done++Qc))∧Aside0 (SRs N w0.heap.size g bE i cE bT nT cT bL nL cL E T w' L)∧Aside0 (Kd.R (Kd.int .i64) 3 w' w0.heap.size (fun k=>k=bD) (.slice (some ⟨bD,0,none⟩) i cD) (dOf i Bc Vc))∧Aside0 (Below w0.heap.size w0 w')∧Aside0 (Kept w w' (fun _=>False)))
   case atStart=>exact⟨[],B0 i,List.replicate i 0,[0],rfl,H,⟨by show 0+1=cnt (B0 i);unfold B0;rw[cnt_set _ 0 (by simp;omega) (by unfold isB;rw[List.getD_eq_getElem?_getD,List.getElem?_replicate];split<;>rfl)];have:cnt (List.replicate i false)=0:=(by unfold cnt;simp);omega,by simp[B0],by simp⟩,HL5,HS5,HD5,HB5,HK5⟩
   case round=>
    clear HL5 HS5 HD5 HB5 HK5 H;obtain⟨done,Bc,Vc,Qc,rfl,H,HC,HL,HS,HD,HB,HK⟩:=hrel;obtain⟨A5,c5,e5,hc5,hC5⟩:=Kd.R_reads HL.out;subst e5;cases H.out with
    |done=>
     have ht:decide ((done.length:Int)<(done.length:Int))=false:=decide_eq_false (by omega);rw[List.append_nil]at hc5 hC5;simp only[List.append_nil];clear hc5 hC5;go_wp2
     go_ret
     exact⟨bD,cD,rfl,HD.out,HbD.out,HS.out,HB.out,HK.out⟩
    | @step k1 _ _ Qr B1 V1 Q1 _ _ row x h1 h2 h3=>
     have hxl:(done++(x:Int)::Qr)[done.length]?=some (x:Int):=by rw[List.getElem?_append_right (Nat.le_refl _),Nat.sub_self];rfl
     obtain⟨ad5,rfl,hx0⟩:=elem_at hC5 hxl;obtain⟨m,hm⟩: ∃m,m=(done++(x:Int)::Qr).length:=⟨_,rfl⟩;have hdm:done.length<m:=by rw[hm,List.length_append,List.length_cons];omega
     have ht:decide ((done.length:Int)<(m:Int))=true:=decide_eq_true (by omega);have ht2:decide (done.length<m)=true:=decide_eq_true hdm;rw[←hm];have hmm:m≤9223372036854775807:=by rw[hm];exact Kd.C_max hC5
     have HL2:=HL;have H1:=Aside0.mk h1;have H2:=Aside0.mk h2;have H3:=Aside0.mk h3;obtain⟨A,c,hA,hAc,hAC⟩:=row_at HS.out.e h1;have hxn:x<i:=by have q:=(List.getElem?_eq_some_iff.1 h1).1;have q2:=(Kd.R_reads' HS.out.e).1;omega
     have HA:=Aside0.mk hA;have HM:=Aside0.mk hm;have HC2:=Aside0.mk (show done.length+1+Qr.length=cnt Bc∧Bc.length=i∧Vc.length=i from by have:=HC.out;rw[List.length_cons]at this;exact⟨by omega,this.2⟩);obtain⟨c0,c1,c2,c3⟩:=HS.out.cells;clear H hc5 hC5 hxl h1 h2 h3 hAC hAc hm HC HL;go_wp2
     go_quiet(fail)
     go_wp2;have HL3:=Aside0.mk (show Kd.R (Kd.int .i64) 3 (wr.drewN nq) w0.heap.size (fun k=>w.heap.size≤k∧k≠bD) (.slice (some ad5) m c5) (done++(x:Int)::Qr)from by rw[HM.out];exact Kd.R_drewN HL2.out _);have HS3:=Aside0.mk (HS.out.below (pw_below_drewN (Below.refl _ _) nq));have HD3:=Aside0.mk (Kd.R_drewN HD.out nq);have HB3:=Aside0.mk (pw_below_drewN HB.out nq);have HK3:=Aside0.mk (Kept.drewN HK.out nq);have HA3:=Aside0.mk (show(wr.drewN nq).cell? ⟨bE,x,none⟩=some (.slice A row.length c)from HA.out);clear c0 c1 c2 c3 hx0 hA HL2 HS HD HB HK HA HM;obtain⟨wo,rfl⟩: ∃wo:World,wo=wr:=⟨_,rfl⟩
     go_loopg [5,43] row.length (fun kq v5 v43 w'=> ∃(pre suf:List Int) (Bc:List Bool) (Vc Qc:List Int),v43= .int .i64 (pre.length:Int)∧Aside0 (row=pre++suf)∧Aside0 (kq=suf.length)∧Aside0 (Scan T L x suf Bc Vc Qc B1 V1 Q1)∧Aside0 (done.length+1+Qc.length=cnt Bc∧Bc.length=i∧Vc.length=i)∧Aside0 (Kd.R (Kd.int .i64) 3 w' w0.heap.size (fun k=>w.heap.size≤k∧k≠bD) v5 (done++(x:Int)::Qc))∧Aside0 (SRs N w0.heap.size g bE i cE bT nT cT bL nL cL E T w' L)∧Aside0 (Kd.R (Kd.int .i64) 3 w' w0.heap.size (fun k=>k=bD) (.slice (some ⟨bD,0,none⟩) i cD) (dOf i Bc Vc))∧Aside0 (Below w0.heap.size w0 w')∧Aside0 (Kept w w' (fun _=>False))∧Aside0 (w'.cell? ⟨bE,x,none⟩=some (.slice A row.length c)))
     case atStart=>exact⟨[],row,Bc,Vc,Qr,rfl,⟨rfl⟩,⟨rfl⟩,H2,HC2,HL3,HS3,HD3,HB3,HK3,HA3⟩
     case round=>
      clear HL3 HS3 HD3 HB3 HK3 HA3 HC2 H2;obtain⟨pre,suf,Bc,Vc,Qc,rfl,HR,HM,H2,HC,HL,HS,HD,HB,HK,HA⟩:=hrel;cases H2.out with
      |nil=>
       have hl:row.length=pre.length:=by rw[HR.out,List.length_append,List.length_nil];omega
       have ht:decide ((pre.length:Int)<(row.length:Int))=false:=decide_eq_false (by omega);have ht2:decide (pre.length<row.length)=false:=decide_eq_false (by omega);clear hl;go_wp2
       go_roundg k1
       case measure=>omega
       case rel=>exact⟨done++[(x:Int)],B1,V1,Q1,by rw[List.length_append];rfl,H3,⟨by rw[List.length_append];exact HC.out⟩,⟨by rw[List.append_assoc];exact HL.out⟩,HS,HD,HB,HK⟩
      | @skip e y es _ _ _ _ _ _ l b h1 h2 h3 h4 hvy h5=>
       have hC:=HS.out.row H1.out HA.out;have hrow:row[pre.length]?=some (e:Int):=by rw[HR.out,List.getElem?_append_right (Nat.le_refl _),Nat.sub_self];rfl
       obtain⟨ade,rfl,hee⟩:=elem_at hC hrow;have hlt:pre.length<row.length:=(List.getElem?_eq_some_iff.1 hrow).1;have hmx:row.length≤9223372036854775807:=Kd.C_max hC;have ht:decide ((pre.length:Int)<(row.length:Int))=true:=decide_eq_true (by omega);have ht2:decide (pre.length<row.length)=true:=decide_eq_true hlt;obtain⟨c0,c1,c2,c3⟩:=HS.out.cells;rw[sl_of HS.out.t h2]at c1;rw[sl_of HS.out.l h1]at c2;obtain⟨gl,_⟩:=int_at' HS.out.l h1;obtain⟨gt,_⟩:=int_at' HS.out.t h2;have hyB:=bO h3;have be1:e<nL:=by have q:=(List.getElem?_eq_some_iff.1 h1).1;have q2:=(Kd.R_reads' HS.out.l).1;omega
       have be2:e<nT:=by have q:=(List.getElem?_eq_some_iff.1 h2).1;have q2:=(Kd.R_reads' HS.out.t).1;omega
       have be3:y<i:=by have q:=hyB.2;have q2:=HC.out.2.1;omega
       obtain⟨dv,hdv⟩: ∃dv,(dOf i Bc Vc)[y]?=some dv:=⟨_,dOf_get be3⟩;obtain⟨gb,_⟩:=int_at HD.out hdv;have H5:=Aside0.mk h5
       by_cases hl:l≤0
       ·have q1:decide (0<l)=false:=decide_eq_false (by omega);have q2:decide (l>0)=false:=decide_eq_false (by omega);clear hC hrow h1 h2 h3 h5 H2 hvy hyB hdv h4;go_wp2
        go_roundg es.length
        case measure=>have:=HM.out;rw[this,List.length_cons];omega
        case rel=>exact⟨pre++[(e:Int)],es,Bc,Vc,Qc,by rw[List.length_append];rfl,⟨by rw[HR.out,List.append_assoc];rfl⟩,⟨rfl⟩,H5,HC,HL,HS,HD,HB,HK,HA⟩
       ·have hb:b=true:=h4.resolve_left hl;subst hb;have hdv0:0≤dv:=by
         rw[dOf_get be3,if_pos hyB.1]at hdv;injection hdv with hdv;omega
        have q1:decide (0<l)=true:=decide_eq_true (by omega);have q2:decide (l>0)=true:=decide_eq_true (by omega);have q3:decide (dv<0)=false:=decide_eq_false (by omega);clear hC hrow h1 h2 h3 h5 H2 hvy hyB hdv h4 hl;go_wp2
        go_roundg es.length
        case measure=>have:=HM.out;rw[this,List.length_cons];omega
        case rel=>exact⟨pre++[(e:Int)],es,Bc,Vc,Qc,by rw[List.length_append];rfl,⟨by rw[HR.out,List.append_assoc];rfl⟩,⟨rfl⟩,H5,HC,HL,HS,HD,HB,HK,HA⟩
      | @take e y es _ _ _ _ _ _ l a h1 h2 h3 h4 h5 h6 h7 h8 hbx h9 h10 h11=>
       have hC:=HS.out.row H1.out HA.out;have hrow:row[pre.length]?=some (e:Int):=by rw[HR.out,List.getElem?_append_right (Nat.le_refl _),Nat.sub_self];rfl
       obtain⟨ade,rfl,hee⟩:=elem_at hC hrow;have hlt:pre.length<row.length:=(List.getElem?_eq_some_iff.1 hrow).1;have hmx:row.length≤9223372036854775807:=Kd.C_max hC;have ht:decide ((pre.length:Int)<(row.length:Int))=true:=decide_eq_true (by omega);have ht2:decide (pre.length<row.length)=true:=decide_eq_true hlt;obtain⟨c0,c1,c2,c3⟩:=HS.out.cells;rw[sl_of HS.out.t h2]at c1;rw[sl_of HS.out.l h1]at c2;obtain⟨gl,_⟩:=int_at' HS.out.l h1;obtain⟨gt,_⟩:=int_at' HS.out.t h2;have hyB:=bO h3;have be1:e<nL:=by have q:=(List.getElem?_eq_some_iff.1 h1).1;have q2:=(Kd.R_reads' HS.out.l).1;omega
       have be2:e<nT:=by have q:=(List.getElem?_eq_some_iff.1 h2).1;have q2:=(Kd.R_reads' HS.out.t).1;omega
       have be3:y<i:=by have q:=hyB.2;have q2:=HC.out.2.1;omega
       have hdy:(dOf i Bc Vc)[y]?=some (-1):=by rw[dOf_get be3,if_neg (by rw[hyB.1];simp)]
       have hdx:(dOf i Bc Vc)[x]?=some a:=by rw[dOf_get hxn,if_pos (bO hbx).1,(gO h5).1]
       obtain⟨gb,gbf⟩:=int_at HD.out hdy;obtain⟨gx,_⟩:=int_at HD.out hdx;have q1:decide (0<l)=true:=decide_eq_true h4;have q2:decide (l>0)=true:=decide_eq_true h4;have H11:=Aside0.mk h11;have HH2:=Aside0.mk h2;obtain⟨A6,c6,e6,hc6,hC6⟩:=Kd.R_reads HL.out;have hxl:(done++(x:Int)::Qc)[done.length]?=some (x:Int):=by rw[List.getElem?_append_right (Nat.le_refl _),Nat.sub_self];rfl
       obtain⟨ad6,rfl,hx6⟩:=elem_at hC6 hxl;obtain⟨m6,hm6⟩: ∃m,m=(done++(x:Int)::Qc).length:=⟨_,rfl⟩;rw[←hm6]at e6;subst e6;have hdm6:done.length<m6:=by rw[hm6,List.length_append,List.length_cons];omega
       have HM6:=Aside0.mk (show m6≤1000000 from by have q1:=HC.out;have q2:=cnt_le Bc;rw[hm6,List.length_append,List.length_cons];omega);have HMM:=Aside0.mk hm6;have HC6:=Aside0.mk (show done.length+1+(Qc++[(y:Int)]).length=cnt (Bc.set y true)∧(Bc.set y true).length=i∧(Vc.set y (a+1)).length=i from by
        have q1:=HC.out;rw[cnt_set Bc y hyB.2 hyB.1,List.length_append,List.length_set,List.length_set];exact⟨by simp;omega,q1.2⟩)
       have HDS:=Aside0.mk (dOf_set (n:=i) (a:=a+1) hyB.2 h10 be3);clear hC hrow h1 h2 h3 h5 h11 H2 h8 hbx h10 hc6 hC6 hxl hm6 hyB hdy hdx;go_wp2;refine still_tail_ 16 (by kernel_rfl) (by kernel_rfl) (fun W hW=>?_);have HS2:=Aside0.mk (show SRs N w0.heap.size g bE i cE bT nT cT bL nL cL E T W L from by rw[hW];exact HS.out.below (pw_below_drewN (Below.refl _ _) _));have HD2:=Aside0.mk (show Kd.R (Kd.int .i64) 3 W w0.heap.size (fun k=>k=bD) (.slice (some ⟨bD,0,none⟩) i cD) (dOf i Bc Vc)from by rw[hW];exact Kd.R_drewN HD.out _);have HL2:=Aside0.mk (show Kd.R (Kd.int .i64) 3 W w0.heap.size (fun k=>w.heap.size≤k∧k≠bD) (.slice (some ad6) m6 c6) (done++(x:Int)::Qc)from by rw[hW];exact Kd.R_drewN HL.out _);have HB2:=Aside0.mk (show Below w0.heap.size w0 W from by rw[hW];exact pw_below_drewN HB.out _);have HK2:=Aside0.mk (show Kept w W (fun _=>False)from by rw[hW];exact HK.out);have HA2:=Aside0.mk (show W.cell? ⟨bE,x,none⟩=some (.slice (some ade) row.length c)from by rw[hW];exact HA.out);have hce: ∀q,wr.cell? q=W.cell? q:=fun q=>by rw[hW];rfl
       have hfr: ∀q,wr.frozen? q=W.frozen? q:=fun q=>by rw[hW];rfl
       rw[hce]at c0 c1 c2 c3 gl gt gb gx hx6 hee;rw[hfr]at gbf;clear hW hce hfr HS HD HL HB HK HA;have HNV:=Aside0.mk (Nat.le_trans HN.out HbD.out);have HS3:=Aside0.mk (HS2.out.far (b:=bD) (i:=y) HNV.out (.int .i64 (a+1)));have HD3:=Aside0.mk (show Kd.R (Kd.int .i64) 3 (W.setCell ⟨bD,y,none⟩ (.int .i64 (a+1))) w0.heap.size (fun k=>k=bD) (.slice (some ⟨bD,0,none⟩) i cD) (dOf i (Bc.set y true) (Vc.set y (a+1)))from by
        rw[HDS.out];exact Kd.R_putn (enc:=Value.int .i64) HD2.out (y:Int) (a+1))
       have HL3:=Aside0.mk (Kd.R_far HL2.out (p:=⟨bD,y,none⟩) (fun k hk=>hk.2) (.int .i64 (a+1)));have HB3:=Aside0.mk (below_set (j:=y) (v:= .int .i64 (a+1)) HB2.out (Nat.le_trans HBN.out HbD.out));have HK3:=Aside0.mk (Kept.setCell HK2.out (p:=⟨bD,y,none⟩) (.inr HbD.out) (.int .i64 (a+1)));have HA3:=Aside0.mk (Go.Proofs.Ytlkppimbbbdmbaa.Res.cell_far (b:=bD) (i:=y) (u:= .int .i64 (a+1)) HA2.out (by have:=HS2.out.ltE;have:=HNV.out;show bE≠bD;omega));have hwr:IntKind.i64.wrap (a+1)=a+1:=by rw[i64_w];unfold wrap64;omega
       simp only[List.take_succ_cons,List.take_zero,List.drop_succ_cons,List.drop_zero]
       repeat still_step
       refine wpStill_nil ?_;clear hwr
       go_wp2_with(first
        |((with_reducible refine gate_store (t:=3) (p:=84) rfl ?_);refine store_event (t:=3) (p:=84) (v:=?vo_w3) (w1:=(W.setCell ⟨bD,y,none⟩ (.int .i64 (a+1)))) ?hg ?ho ?hn ?hr ?_;(case ho=>rfl);(case hg=>rfl);(case hn=>rfl);(case hr=>first|(go_simp;done)|(go_simp;rfl));
          intro W3 hw;rw[←hw]at HS3 HD3 HL3 HB3 HK3 HA3;clear hw HS2 HD2 HL2 HB2 HK2 HA2 c0 c1 c2 c3 gl gt gb gbf gx hx6 hee;obtain⟨e0,e1,e2,e3⟩:=HS3.out.cells;rw[sl_of HS3.out.t HH2.out]at e1;obtain⟨gt2,_⟩:=int_at' HS3.out.t HH2.out;have HF:=Aside0.mk (show∀k,W3.heap.size≤k→w.heap.size≤k∧k≠bD from fun k hk=>(by
           have q1:=Kd.R_lt HD3.out bD (by simp[Value.ownBlock]);have q3:=HK3.out.1;exact⟨by omega,by omega⟩)))
        |((with_reducible refine gate_builtin (b:= .append) (xs:= #[.tmp 85,.tmp 93]) rfl ?_);at_builtin;
          refine Kd.R_append (Kd.int .i64) (w0:=w0) w0.heap.size rfl (.tmp 85) (.tmp 93) 24 3 (.int .i64 0) 8 rfl Try.underlying24 infoI rfl (by decide) (by omega) (.slice (some ad6) m6 c6) (done++(x:Int)::Qc) (y:Int) [.int .i64 (y:Int)] (fun k=>w.heap.size≤k∧k≠bD) (fun _=>False) rfl rfl rfl (fun _ hk=>hk.elim) HF.out HL3.out HB3.out (below_size HB3.out) (by rw[←HMM.out];have:=HM6.out;omega) ?_;intro v5 w5 ho hb hg hat;have HS5:=Aside0.mk (HS3.out.grown hg (fun k hk=>Nat.le_trans HN.out (HL3.out.1 k hk).1));have HD5:=Aside0.mk (Kd.R_grown HD3.out hg (fun k hk he=>(HL3.out.1 k he.symm).2 hk));have HA5:=Aside0.mk (Go.Proofs.Ytlkppimbbbdmbaa.Res.cell_gr HA3.out hg (fun he=>(by have q1:=(HL3.out.1 bE he.symm).1;have q2:=HS3.out.ltE;have q3:=HN.out;omega)));have HK5:=Aside0.mk (Kept.of_grown hg HK3.out (fun k hk=> .inr (HL3.out.1 k hk).1));have HL5:=Aside0.mk ho;have HB5:=Aside0.mk hb;clear ho hb hg hat HS3 HD3 HA3 HK3 HL3 HB3 HF e0 e1 e2 e3 gt2))
       go_roundg es.length
       case measure=>have:=HM.out;rw[this,List.length_cons];omega
       case rel=>exact⟨pre++[(e:Int)],es,Bc.set y true,Vc.set y (a+1),Qc++[(y:Int)],by rw[List.length_append];rfl,⟨by rw[HR.out,List.append_assoc];rfl⟩,⟨rfl⟩,H11,HC6,⟨by have:=HL5.out;rw[List.append_assoc]at this;exact this⟩,HS5,HD5,HB5,HK5,HA5⟩
end Go.Proofs.Ytlkppimbbbdmbaa.SRes
namespace Go.Proofs.Ytlkppimbbbdmbaa.SRes
open Go.RowKit Go.Proofs.YtlkppimbbbdmbaaW.PrintWords Go.Proofs.YtlkppimbbbdmbaaW.PrintLast Go.Proofs.YtlkppimbbbdmbaaW.PrintMore Go.Proofs.Ytlkppimbbbdmbaa.Flow Go.Proofs.Ytlkppimbbbdmbaa.Res
set_option linter.unusedVariables false
set_option linter.unusedSimpArgs false
section
variable {N base g bE n cE bT nT cT bL nL cL bV cV bX cX:Nat} {E:List (List Int)} {T V L L2 X:List Int} {w w1:World}
theorem SRs.toSt (S:SRs N base g bE n cE bT nT cT bL nL cL E T w L) (hv:Kd.R (Kd.int .i64) 3 w base (fun k=>k=bV) (.slice (some ⟨bV,0,none⟩) n cV) V) (hx:Kd.R (Kd.int .i64) 3 w base (fun k=>k=bX) (.slice (some ⟨bX,0,none⟩) n cX) X) (hV:N≤bV) (hX:N≤bX) (hne:bV≠bX) (h0:nT≠0∧nL≠0):
  SSt base g bE n cE bT nT cT bL nL cL bV n cV bX n cX E T V w L X:=
 by
 obtain⟨s1,s2,s3,s4,s5,s6,s7,s8,s9⟩:=S;rw[sl_pos h0.1]at s1 s3;rw[sl_pos h0.2]at s1 s4;exact⟨s1,Kd.R_mono s2 (fun k hk=>⟨hk.1,by have:=hk.2;omega⟩),Kd.R_mono s3 (fun k hk=>⟨hk.1,by have:=hk.2;omega⟩),s4,Kd.R_mono hv (fun k hk=>by have:=s7 h0.2;exact⟨by omega,by omega⟩),hx,s5,by have:=s6;omega,by have:=s7 h0.2;omega⟩
theorem SRs.push (S:SRs N base g bE n cE bT nT cT bL nL cL E T w L) (hk:Kept w w1 (fun k=>k=bL∨k=bX)) (hS:SSt base g bE n cE bT nT cT bL nL cL bV n cV bX n cX E T V w1 L2 X) (hX:N≤bX) (h0:nT≠0∧nL≠0):
  SRs N base g bE n cE bT nT cT bL nL cL E T w1 L2:=
 ⟨by rw[sl_pos h0.1,sl_pos h0.2];exact hS.box,Kd.R_kept S.e hk (fun k h1 h2=>by have:=h1.2;rcases h2 with h2|h2<;>omega),Kd.R_kept S.t hk (fun k h1 h2=>by have:=h1.2;rcases h2 with h2|h2<;>omega),by rw[sl_pos h0.2];exact hS.l,S.gL,S.gN,S.LN,S.gb,Nat.le_trans S.NS hk.1⟩
end
def SRunPost (N g bE n cE bT nT cT bL nL cL:Nat) (E:List (List Int)) (T L':List Int) (s':Int) (w0 w:World) (e:Ending) (w':World):Prop:=
 e= .returned (.int .i64 s')∧SRs N w0.heap.size g bE n cE bT nT cT bL nL cL E T w' L'∧Below w0.heap.size w0 w'∧Kept w w' (fun k=>k=bL)
set_option maxHeartbeats 8000000 in
set_option maxRecDepth 100000 in
theorem srun_calls {N g bE n cE bT nT cT bL nL cL:Nat} {E:List (List Int)} {T L:List Int} (hn2:2≤n) (hn3:n≤1000000) (hnL:nL≤4000000) (w0 w:World) (hB:Below w0.heap.size w0 w) (hS:SRs N w0.heap.size g bE n cE bT nT cT bL nL cL E T w L) {k:Nat} {L':List Int} {s':Int} (h:Run n E T (fun B V=>dOf n B V) 1125899906842624 k L 0 L' s'):
  Calls Try.prog 146 #[.pointer (some ⟨g,0,none⟩)] w (SRunPost N g bE n cE bT nT cT bL nL cL E T L' s' w0 w):=by
 have HS:=Aside0.mk hS;have HB:=Aside0.mk hB;have H:=Aside0.mk h;have HK:=Aside0.mk (Kept.refl w (fun k=>k=bL));clear hS hB h
 go_enter Try.func146,Try.ntmps146
 go_wp2
 go_loopg [3] k (fun kq v3 w'=> ∃(Lc:List Int) (sc:Int),v3= .int .i64 sc∧Aside0 (Run n E T (fun B V=>dOf n B V) 1125899906842624 kq Lc sc L' s')∧Aside0 (SRs N w0.heap.size g bE n cE bT nT cT bL nL cL E T w' Lc)∧Aside0 (Below w0.heap.size w0 w')∧Aside0 (Kept w w' (fun k=>k=bL)))
 case atStart=>exact⟨L,0,rfl,H,HS,HB,HK⟩
 case round=>
  clear HS HB HK H;obtain⟨Lc,sc,rfl,H,HS,HB,HK⟩:=hrel;have hBfs: ∃(k1:Nat) (B:List Bool) (V:List Int) (b:Bool),Bfs E T Lc k1 (B0 n) (List.replicate n 0) [0] B V∧B[n-1]?=some b∧((b=false∧Lc=L'∧sc=s')∨(b=true∧0≤V.getD (n-1) 0∧(∀(z:Nat) (a:Int),(dOf n B V)[z]?=some a→ -1≤a∧a≤1000000)∧(dOf n B V).length=n∧ ∃L1 s1 kq,kq<gk∧Phase n E T (dOf n B V) 1125899906842624 kq Lc (List.replicate n 0) sc L1 s1∧Run n E T (fun B V=>dOf n B V) 1125899906842624 kq L1 s1 L' s')):=by
   cases H.out with
   |stop h1 h2=>exact⟨_,_,_,_,h1,h2,.inl ⟨rfl,rfl,rfl⟩⟩
   |more h1 h2 h2' h3 h4 h5 h6=>exact⟨_,_,_,_,h1,h2,.inr ⟨rfl,h2',h3,h4,_,_,_,Nat.lt_succ_self _,h5,h6⟩⟩
  obtain⟨k1,B,V,b,hbf,hBn,hcase⟩:=hBfs;have HC:=Aside0.mk hcase;have HBF:=Aside0.mk hbf;have HBN:=Aside0.mk hBn;have HNE:=Aside0.mk (show b=true→nT≠0∧nL≠0 from fun hb=>by
   subst hb;have q:=bfs_some hn2 hbf hBn;have e1:=(Kd.R_reads' HS.out.t).1;have e2:=(Kd.R_reads' HS.out.l).1;exact⟨by omega,by omega⟩)
  clear hcase hbf hBn H
  go_wp2_with fail
  refine(levels_calls (by omega) hn3 w0 _ HB.out HS.out HBF.out).mono ?_;rintro e2 w2 ⟨bV,cV,rfl,hv,hbV,hs,hB2,hK2⟩;have HK2:=Aside0.mk (Kept.then_ HK.out hK2 (fun _ h=>h.elim));have HNW:=Aside0.mk HS.out.NS;have HV2:=Aside0.mk hv;have HbV:=Aside0.mk hbV;have HS2:=Aside0.mk hs;have HB2:=Aside0.mk hB2;clear hv hbV hs hB2 hK2 HS HB HK;obtain⟨dv,hdv⟩: ∃dv,(dOf n B V)[n-1]?=some dv:=⟨_,dOf_get (by omega)⟩;have HDV:=Aside0.mk hdv;obtain⟨hcell,_⟩:=int_at HV2.out hdv;have hi0:0≤(n:Int)-1:=by omega
  have hi2:((n:Int)-1).toNat=n-1:=by omega
  have hi3:decide ((n:Int)-1<(n:Int))=true:=decide_eq_true (by omega);have hi5:(1:Int)≤(n:Int):=by omega
  obtain⟨c0,c1,c2,c3⟩:=HS2.out.cells;clear hdv
  rcases HC.out with⟨rfl,rfl,rfl⟩|⟨rfl,hpos,hVb,hVl,L1,s1,kq,hkq,hph,hrun⟩
  ·have hneg:dv= -1:=by
    have:=HDV.out
    rw[dOf_get (by omega),if_neg (by rw[(bO HBN.out).1];simp)]at this
    injection this with this;omega
   subst hneg
   go_wp2_with fail
   go_ret
   exact⟨rfl,HS2.out,HB2.out,HK2.out⟩
  ·have hnn:0≤dv:=by
    have:=HDV.out
    rw[dOf_get (by omega),if_pos (bO HBN.out).1]at this
    injection this with this;omega
   have q3:decide (dv<0)=false:=decide_eq_false (by omega);have HVb:=Aside0.mk hVb;have HVl:=Aside0.mk hVl;have HPH:=Aside0.mk hph;have HRUN:=Aside0.mk hrun;clear hVb hVl hph hrun HC hpos
   go_wp2_with(first
    |((with_reducible refine gate_dst (N:=23) rfl ?_);refine Kd.R_make (Kd.int .i64) (w0:=w0) w0.heap.size 3 rfl (N:=23) rfl 24 _ _ rfl (n:Int) rfl rfl Try.underlying24 (.int .i64 0) 8 infoI rfl (by decide) (by omega) 0 (ok:=fun k=>w2.heap.size≤k) (okp:=fun _=>False) rfl (fun _ hk=>hk.elim) (Nat.le_refl _) (by omega) (by omega) HB2.out (below_size HB2.out) ?_;intro v3 w3 ho hb hg hnew;
      rw[Int.toNat_natCast]at ho;obtain⟨bX,cX,e1,hv1,hv2,_⟩:=Kd.R_form ho (by rw[List.length_replicate];omega);rw[List.length_replicate]at e1;subst e1;have hbX:=ho.1 bX (by simp[Value.ownBlock]);have HS4:=Aside0.mk (HS2.out.grown hg (fun _ h=>by cases h));have HV4:=Aside0.mk (Kd.R_grown HV2.out hg (fun _ _ h=>by cases h));have HX4:=Aside0.mk (Kd.R_mono (ok':=fun k=>k=bX) (Kd.R_tight rfl ho) (fun k hk=>by simpa [Value.ownBlock]using hk));have HB4:=Aside0.mk hb;have HK4:=Aside0.mk (Kept.of_grown hg HK2.out (fun _ h=>by cases h));have HbX:=Aside0.mk (show N≤bX∧bV≠bX∧w.heap.size≤bX from⟨Nat.le_trans HS2.out.NS hbX,fun he=>(by have:=Kd.R_lt HV2.out bV (by simp[Value.ownBlock]);omega),Nat.le_trans HK2.out.1 hbX⟩);clear ho hb hg hnew hv1 hv2 hbX c0 c1 c2 c3 hcell HS2 HV2 HB2 HK2))
   have HbVN:=Aside0.mk (Nat.le_trans HNW.out HbV.out);have HT4:=Aside0.mk (HS4.out.toSt HV4.out HX4.out HbVN.out HbX.out.1 HbX.out.2.1 (HNE.out (by simp)));clear HV4 HX4 q3 hnn hi0 hi2 hi3 hi5
   go_loopg [3] kq (fun kq v3 w'=> ∃(Lc Xc:List Int) (sc:Int),v3= .int .i64 sc∧Aside0 (Phase n E T (dOf n B V) 1125899906842624 kq Lc Xc sc L1 s1)∧Aside0 (SSt w0.heap.size g bE n cE bT nT cT bL nL cL bV n cV bX n cX E T (dOf n B V) w' Lc Xc)∧Aside0 (SRs N w0.heap.size g bE n cE bT nT cT bL nL cL E T w' Lc)∧Aside0 (Below w0.heap.size w0 w')∧Aside0 (Kept w w' (fun k=>k=bL)))
   case atStart=>exact⟨Lc,List.replicate n 0,sc,rfl,HPH,HT4,HS4,HB4,HK4⟩
   case round=>
    clear HPH HT4 HS4 HB4 HK4;obtain⟨wo,rfl⟩: ∃wo:World,wo=wr:=⟨_,rfl⟩;obtain⟨Lc,Xc,sc,rfl,HPH,HT,HS,HB,HK⟩:=hrel;cases HPH.out with
    |stop hp=>
     have HP:=Aside0.mk hp;clear hp HPH
     go_wp2_with fail
     refine(show Calls Try.prog 153 #[.pointer (some ⟨g,0,none⟩),.int .i64 0,.int .i64 1125899906842624,.slice (some ⟨bV,0,none⟩) n cV,.slice (some ⟨bX,0,none⟩) n cX] wo _ from spush_calls hn2 hn3 HVb.out HVl.out hnL HP.out w0 wo (by omega) (by omega) rfl HB.out HT.out).mono ?_;rintro e3 w4 ⟨rfl,hb,hk,hs⟩;have HS5:=Aside0.mk (HS.out.push hk hs HbX.out.1 (HNE.out (by simp)));have HB5:=Aside0.mk hb;have HK5:=Aside0.mk (Kept.then_ HK.out hk (fun k h=>h.elim (fun h=> .inl h) (fun h=> .inr (by rw[h];exact HbX.out.2.2))));clear hb hk hs HB HT HS HK
     go_wp2_with fail
     go_roundg kq
     case measure=>exact hkq
     case rel=>exact⟨L1,s1,rfl,HRUN,HS5,HB5,HK5⟩
    | @more k2 _ _ _ r L2 X2 _ _ hp h0 h1 h2 h3=>
     have HP:=Aside0.mk hp;have H3:=Aside0.mk h3;have hr0:(r==0)=false:=by rw[beq_eq_false_iff_ne];omega
     clear hp h3 HPH
     go_wp2_with fail
     refine(show Calls Try.prog 153 #[.pointer (some ⟨g,0,none⟩),.int .i64 0,.int .i64 1125899906842624,.slice (some ⟨bV,0,none⟩) n cV,.slice (some ⟨bX,0,none⟩) n cX] wo _ from spush_calls hn2 hn3 HVb.out HVl.out hnL HP.out w0 wo (by omega) (by omega) rfl HB.out HT.out).mono ?_;rintro e3 w4 ⟨rfl,hb,hk,hs⟩;have HS5:=Aside0.mk (HS.out.push hk hs HbX.out.1 (HNE.out (by simp)));have HB5:=Aside0.mk hb;have HT5:=Aside0.mk hs;have HK5:=Aside0.mk (Kept.then_ HK.out hk (fun k h=>h.elim (fun h=> .inl h) (fun h=> .inr (by rw[h];exact HbX.out.2.2))));clear hb hk hs HB HT HS HK
     go_wp2_with fail
     go_roundg k2
     case measure=>omega
     case rel=>exact⟨L2,X2,sc+r,rfl,H3,HT5,HS5,HB5,HK5⟩
end Go.Proofs.Ytlkppimbbbdmbaa.SRes
