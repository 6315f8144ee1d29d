/- The pushes of the program's and the reference's flow: what one call does to the memory is what the relation PushL says. -/
import Derived.Test.YtlkppimbbbdmbaaFlA
import Derived.Test.YtlkppimbbbdmbaaWMore
import Derived.Test.YtlkppimbbbdmbaaProg
import Derived.StillTailTactics
import Derived.BigQuiet
import Derived.Test.YtlkppimbbbdmbaaWTight
namespace Go.Proofs.Ytlkppimbbbdmbaa.Res
open Go.RowKit Go.Proofs.YtlkppimbbbdmbaaW.PrintWords Go.Proofs.YtlkppimbbbdmbaaW.PrintLast Go.Proofs.YtlkppimbbbdmbaaW.PrintMore Go.Proofs.Ytlkppimbbbdmbaa.Flow
set_option linter.unusedVariables false
set_option linter.unusedSimpArgs false
attribute [local go_sem] max2_int min2_int max_two min_two
theorem xor_one (e:Nat):e ^^^ 1=par e:=by
 have h1:(e ^^^ 1)/ 2=e / 2:=by rw[Nat.xor_div_two];exact Nat.xor_zero _
 have h2:(e ^^^ 1)% 2=(e+1)% 2:=by
  have h:=Nat.xor_mod_two_pow (a:=e) (b:=1) (n:=1);rw[Nat.pow_one]at h;rw[h]
  rcases Nat.mod_two_eq_zero_or_one e with q|q
  ·rw[q,show(e+1)% 2=1 by omega];rfl
  ·rw[q,show(e+1)% 2=0 by omega];rfl
 unfold par
 split<;>omega
theorem bits_xor1 (e:Nat) (h:e<4611686018427387904):Go.bits .xor .i64 (e:Int) 1=((par e:Nat):Int):=by
 have hp:par e<9223372036854775808:=by unfold par;split<;>omega
 have hx:e ^^^ 1=par e:=xor_one e
 show IntKind.i64.wrap ((BitVec.ofInt 64 (e:Int)^^^ BitVec.ofInt 64 1).toNat:Int)=_
 have h1:(BitVec.ofInt 64 (e:Int)).toNat=e:=by
  rw[BitVec.ofInt_natCast,BitVec.toNat_ofNat];exact Nat.mod_eq_of_lt (by omega)
 have h2:(BitVec.ofInt 64 1).toNat=1:=by decide
 rw[BitVec.toNat_xor,h1,h2,hx]
 simp[IntKind.wrap,IntKind.bits,IntKind.signed]
 omega
theorem row_at {e e' base bE n cE:Nat} {w:World} {ok:Nat→Prop} {E:List (List Int)} (h:Kd.R (Kd.slice e (Kd.int .i64)) e' w base ok (.slice (some ⟨bE,0,none⟩) n cE) E) {x:Nat} {row:List Int} (hx:E[x]?=some row):
  ∃A c,w.cell? ⟨bE,x,none⟩=some (.slice A row.length c)∧row.length≤c∧(Kd.int .i64).C w A row.length row:=by
 have hlt:=(List.getElem?_eq_some_iff.1 hx).1;obtain⟨hn,_,hC⟩:=Kd.R_reads' h;obtain⟨ad,c,he,hcl,⟨A,cc,hK,hle,hr⟩,hcell⟩:=Kd.C_get hC [] (x:Int) (Int.natCast_nonneg _) (by omega)
 injection he with he
 subst he;rw[Int.toNat_natCast,show E.getD x []=row by rw[List.getD_eq_getElem?_getD,hx];rfl]at hK hle hr;have h1:=hcell 0 (.slice A row.length cc) (by rw[hK];rfl);rw[Int.toNat_natCast]at h1;have:(⟨bE,0,none⟩:Addr).add (x*(Kd.slice e (Kd.int .i64)).sz+0)=⟨bE,x,none⟩:=by
  show(⟨bE,0,none⟩:Addr).add (x*1+0)=_
  rw[Nat.mul_one,Nat.add_zero,add_plain]
 rw[this]at h1;exact⟨A,cc,h1,hle,hr⟩
theorem int_at {e base b n c:Nat} {w:World} {ok:Nat→Prop} {L:List Int} (h:Kd.R (Kd.int .i64) e w base ok (.slice (some ⟨b,0,none⟩) n c) L) {i:Nat} {v:Int} (hi:L[i]?=some v):
  w.cell? ⟨b,i,none⟩=some (.int .i64 v)∧w.frozen? ⟨b,i,none⟩=false:=by
 have hlt:=(List.getElem?_eq_some_iff.1 hi).1;obtain⟨hn,_,_⟩:=Kd.R_reads' h;subst hn
 have:=Kd.R_cell (0:Int) h (i:Int) (Int.natCast_nonneg _) (by omega)
 rw[Int.toNat_natCast]at this;have e1:rdOf (0:Int) L (i:Int)=v:=by unfold rdOf;rw[Int.toNat_natCast,List.getD_eq_getElem?_getD,hi];rfl
 rw[e1]at this;exact this
theorem elem_at {w:World} {A:Option Addr} {row:List Int} (h:(Kd.int .i64).C w A row.length row) {j:Nat} {v:Int} (hj:row[j]?=some v): ∃ad,A=some ad∧w.cell? (ad.add j)=some (.int .i64 v):=by
 have hlt:=(List.getElem?_eq_some_iff.1 hj).1;obtain⟨ad,he,hc⟩:=Kd.at_int h (j:Int) (Int.natCast_nonneg _) (by omega);rw[Int.toNat_natCast]at hc;have e1:rd row (j:Int)=v:=by unfold rd;rw[Int.toNat_natCast,List.getD_eq_getElem?_getD,hj];rfl
 rw[e1]at hc;exact⟨ad,he,hc⟩
structure St (base g bE n cE bT nT cT bL nL cL bV nV cV bX nX cX:Nat) (E:List (List Int)) (T V:List Int) (w:World) (L X:List Int):Prop where
 box:w.heap[g]?=some (.cells #[.slice (some ⟨bE,0,none⟩) n cE,.slice (some ⟨bT,0,none⟩) nT cT,.slice (some ⟨bL,0,none⟩) nL cL,.slice (some ⟨bV,0,none⟩) nV cV,.slice (some ⟨bX,0,none⟩) nX cX] 116 (0,0))
 e:Kd.R (Kd.slice 3 (Kd.int .i64)) 24 w base (fun k=>k≠bL∧k≠bX) (.slice (some ⟨bE,0,none⟩) n cE) E
 t:Kd.R (Kd.int .i64) 3 w base (fun k=>k≠bL∧k≠bX) (.slice (some ⟨bT,0,none⟩) nT cT) T
 l:Kd.R (Kd.int .i64) 3 w base (fun k=>k=bL) (.slice (some ⟨bL,0,none⟩) nL cL) L
 v:Kd.R (Kd.int .i64) 3 w base (fun k=>k≠bL∧k≠bX) (.slice (some ⟨bV,0,none⟩) nV cV) V
 x:Kd.R (Kd.int .i64) 3 w base (fun k=>k=bX) (.slice (some ⟨bX,0,none⟩) nX cX) X
 gL:g≠bL
 gX:g≠bX
 LX:bL≠bX
theorem St.cells {base g bE n cE bT nT cT bL nL cL bV nV cV bX nX cX:Nat} {E:List (List Int)} {T V:List Int} {w:World} {L X:List Int} (S:St base g bE n cE bT nT cT bL nL cL bV nV cV bX nX cX E T V w L X):
  w.cell? ⟨g,0,none⟩=some (.slice (some ⟨bE,0,none⟩) n cE)∧w.cell? ⟨g,1,none⟩=some (.slice (some ⟨bT,0,none⟩) nT cT)∧w.cell? ⟨g,2,none⟩=some (.slice (some ⟨bL,0,none⟩) nL cL)∧w.cell? ⟨g,3,none⟩=some (.slice (some ⟨bV,0,none⟩) nV cV)∧w.cell? ⟨g,4,none⟩=some (.slice (some ⟨bX,0,none⟩) nX cX):=
 ⟨blk_cell S.box 0,blk_cell S.box 1,blk_cell S.box 2,blk_cell S.box 3,blk_cell S.box 4⟩
theorem sendL_eq {L:List Int} {e:Nat} {r l1 l2:Int} (h1:L[e]?=some l1) (h2:L[par e]?=some l2):sendL L e r=(L.set e (l1-r)).set (par e) (l2+r):=by
 unfold sendL
 rw[(gO h1).1,getD_set (gO h1).2,if_neg (fun h=>par_ne e h.symm),(gO h2).1]
theorem still_tail_ {P:Program} {id:Nat} {Q:Exit→Act→World→Prop} {a:Act} {w:World} {l:List Oper} (n:Nat) (hm:P.follows .mixedOrders=true) (hB:Region.lexTailB .any l.toArray n=true)
  (h: ∀W,W=w.drewN 1→wpStill P l.toArray W (fun a'=>wpList P l.toArray Q (l.drop n) a' W) (l.take n) a):(Code.region id l.toArray true).wp P Q a w:=wp_region_still_tail n hm hB (h _ rfl)
section
variable {base g bE n cE bT nT cT bL nL cL bV nV cV bX nX cX:Nat} {E:List (List Int)} {T V:List Int} {w w1 w0:World} {L X:List Int}
theorem St.below (S:St base g bE n cE bT nT cT bL nL cL bV nV cV bX nX cX E T V w L X) (hb:Below w.heap.size w w1):St base g bE n cE bT nT cT bL nL cL bV nV cV bX nX cX E T V w1 L X:=
 ⟨blk_below S.box hb,Kd.R_below S.e hb,Kd.R_below S.t hb,Kd.R_below S.l hb,Kd.R_below S.v hb,Kd.R_below S.x hb,S.gL,S.gX,S.LX⟩
theorem St.drewN (S:St base g bE n cE bT nT cT bL nL cL bV nV cV bX nX cX E T V w L X) (m:Nat):St base g bE n cE bT nT cT bL nL cL bV nV cV bX nX cX E T V (w.drewN m) L X:=S.below (pw_below_drewN (Below.refl _ _) m)
theorem St.putX (S:St base g bE n cE bT nT cT bL nL cL bV nV cV bX nX cX E T V w L X) (i:Nat) (v:Int):St base g bE n cE bT nT cT bL nL cL bV nV cV bX nX cX E T V (w.setCell ⟨bX,i,none⟩ (.int .i64 v)) L (X.set i v):=by
 have h:=Kd.R_putn S.x (i:Int) v;rw[Int.toNat_natCast]at h;exact⟨blk_far S.box S.gX _,Kd.R_far S.e (p:=⟨bX,i,none⟩) (fun _ hk=>hk.2) _,Kd.R_far S.t (p:=⟨bX,i,none⟩) (fun _ hk=>hk.2) _,Kd.R_far S.l (p:=⟨bX,i,none⟩) (fun _ hk he=>S.LX (hk.symm.trans he)) _,Kd.R_far S.v (p:=⟨bX,i,none⟩) (fun _ hk=>hk.2) _,h,S.gL,S.gX,S.LX⟩
theorem St.putL (S:St base g bE n cE bT nT cT bL nL cL bV nV cV bX nX cX E T V w L X) (i:Nat) (v:Int):St base g bE n cE bT nT cT bL nL cL bV nV cV bX nX cX E T V (w.setCell ⟨bL,i,none⟩ (.int .i64 v)) (L.set i v) X:=by
 have h:=Kd.R_putn S.l (i:Int) v;rw[Int.toNat_natCast]at h;exact⟨blk_far S.box S.gL _,Kd.R_far S.e (p:=⟨bL,i,none⟩) (fun _ hk=>hk.1) _,Kd.R_far S.t (p:=⟨bL,i,none⟩) (fun _ hk=>hk.1) _,h,Kd.R_far S.v (p:=⟨bL,i,none⟩) (fun _ hk=>hk.1) _,Kd.R_far S.x (p:=⟨bL,i,none⟩) (fun _ hk he=>S.LX (he.symm.trans hk)) _,S.gL,S.gX,S.LX⟩
theorem St.baseL (S:St base g bE n cE bT nT cT bL nL cL bV nV cV bX nX cX E T V w L X):base≤bL:=Kd.R_base S.l bL (by simp[Value.ownBlock])
theorem St.baseX (S:St base g bE n cE bT nT cT bL nL cL bV nV cV bX nX cX E T V w L X):base≤bX:=Kd.R_base S.x bX (by simp[Value.ownBlock])
theorem St.at_ (S:St base g bE n cE bT nT cT bL nL cL bV nV cV bX nX cX E T V w L X) {x e y j:Nat} {row:List Int} {l a b:Int} (h1:E[x]?=some row) (h2:X[x]?=some (j:Int)) (h3:row[j]?=some (e:Int)) (h4:T[e]?=some (y:Int)) (h5:L[e]?=some l) (h6:V[x]?=some a) (h7:V[y]?=some b):
  ∃ad c,(w.cell? ⟨bE,x,none⟩=some (.slice (some ad) row.length c)∧w.cell? (ad.add j)=some (.int .i64 (e:Int))∧w.cell? ⟨bX,x,none⟩=some (.int .i64 (j:Int))∧w.frozen? ⟨bX,x,none⟩=false∧w.cell? ⟨bL,e,none⟩=some (.int .i64 l)∧w.frozen? ⟨bL,e,none⟩=false∧w.cell? ⟨bT,e,none⟩=some (.int .i64 (y:Int))∧w.cell? ⟨bV,x,none⟩=some (.int .i64 a)∧w.cell? ⟨bV,y,none⟩=some (.int .i64 b))∧x<n∧x<nX∧e<nL∧e<nT∧x<nV∧y<nV∧j<row.length∧row.length≤9223372036854775807:=by
 obtain⟨A,c,hA,_,hC⟩:=row_at S.e h1;obtain⟨ad,rfl,hj⟩:=elem_at hC h3;have q1:=(List.getElem?_eq_some_iff.1 h1).1;have q2:=(List.getElem?_eq_some_iff.1 h2).1;have q3:=(List.getElem?_eq_some_iff.1 h3).1;have q4:=(List.getElem?_eq_some_iff.1 h4).1;have q5:=(List.getElem?_eq_some_iff.1 h5).1;have q6:=(List.getElem?_eq_some_iff.1 h6).1;have q7:=(List.getElem?_eq_some_iff.1 h7).1;have e1:=(Kd.R_reads' S.e).1;have e2:=(Kd.R_reads' S.x).1;have e3:=(Kd.R_reads' S.l).1;have e4:=(Kd.R_reads' S.t).1;have e5:=(Kd.R_reads' S.v).1;exact⟨ad,c,⟨hA,hj,(int_at S.x h2).1,(int_at S.x h2).2,(int_at S.l h5).1,(int_at S.l h5).2,(int_at S.t h4).1,(int_at S.v h6).1,(int_at S.v h7).1⟩,by omega,by omega,by omega,by omega,by omega,by omega,q3,Kd.C_max hC⟩
end
set_option maxHeartbeats 8000000 in
set_option maxRecDepth 100000 in
theorem push_sink {base g bE n cE bT nT cT bL nL cL bV nV cV bX nX cX:Nat} {E:List (List Int)} {T V:List Int} (hn2:2≤n) (hn3:n≤1000000) {L X:List Int} (y:Nat) (hy:y=n-1) (most:Int) (w:World) (hS:St base g bE n cE bT nT cT bL nL cL bV nV cV bX nX cX E T V w L X):
  Calls Try.prog 139 #[.pointer (some ⟨g,0,none⟩),.int .i64 (y:Int),.int .i64 most] w fun e w'=>e= .returned (.int .i64 most)∧w=w':=by
 obtain⟨c0,c1,c2,c3,c4⟩:=hS.cells;have hxs:((y:Int)==(n:Int)-1)=true:=by rw[beq_iff_eq];omega
 clear hS hy
 go_enter Try.func139,Try.ntmps139
 go_wp2
 go_ret
 exact⟨rfl,rfl⟩
set_option maxHeartbeats 8000000 in
set_option maxRecDepth 100000 in
theorem push_calls {base g bE n cE bT nT cT bL nL cL bV nV cV bX nX cX:Nat} {E:List (List Int)} {T V:List Int} (hn2:2≤n) (hn3:n≤1000000) (hV: ∀(z:Nat) (a:Int),V[z]?=some a→ -1≤a∧a≤1000000) (hVl:V.length=n) (hnL:nL≤4000000):
  ∀ {k x:Nat} {most r:Int} {L X L' X':List Int},PushL n E T V k x most L X r L' X'→ ∀(w0 w:World),x≠n-1→x<n→w0.heap.size=base→Below w0.heap.size w0 w→St base g bE n cE bT nT cT bL nL cL bV nV cV bX nX cX E T V w L X→
   Calls Try.prog 139 #[.pointer (some ⟨g,0,none⟩),.int .i64 (x:Int),.int .i64 most] w fun e w'=>e= .returned (.int .i64 r)∧Below w0.heap.size w0 w'∧Kept w w' (fun k=>k=bL∨k=bX)∧St base g bE n cE bT nT cT bL nL cL bV nV cV bX nX cX E T V w' L' X':=by
 intro k
 induction k using Nat.strongRecOn with
 |_ k ih=>
 intro x most r L X L' X' hp w0 w hx hxn hbase hB hS;obtain⟨c0,c1,c2,c3,c4⟩:=hS.cells;have HP:=Aside0.mk hp;have HS:=Aside0.mk hS;have HB:=Aside0.mk hB;have HBase:=Aside0.mk hbase;have HV:=Aside0.mk hV;have HVL:=Aside0.mk hVl;have HK:=Aside0.mk (Kept.refl w (fun k=>k=bL∨k=bX));have hxs:((x:Int)==(n:Int)-1)=false:=by rw[beq_eq_false_iff_ne];omega
 have IH:=Aside0.mk ih;clear hp hS hB hbase hV hVl ih
 go_enter Try.func139,Try.ntmps139
 go_wp2;clear c0 c1 c2 c3 c4 hxs
 go_loopg [] k (fun kq w'=> ∃(L1 X1:List Int),Aside0 (PushL n E T V kq x most L1 X1 r L' X')∧Aside0 (St base g bE n cE bT nT cT bL nL cL bV nV cV bX nX cX E T V w' L1 X1)∧Aside0 (Below w0.heap.size w0 w')∧Aside0 (Kept w w' (fun k=>k=bL∨k=bX))∧Aside0 (kq≤k))
 case atStart=>exact⟨L,X,HP,HS,HB,HK,⟨Nat.le_refl _⟩⟩
 case round=>
  clear HP HS HB HK;obtain⟨L1,X1,HP,HS,HB,HK,HKQ⟩:=hrel;obtain⟨c0,c1,c2,c3,c4⟩:=HS.out.cells;cases HP.out with
  | @done _ _ _ _ _ row j h1 h2 h3=>
   obtain⟨A,c,hA,_,_⟩:=row_at HS.out.e h1;have hX:=(int_at HS.out.x h2).1;have ht:decide ((j:Int)<(row.length:Int))=false:=decide_eq_false (by omega);have hlt:=(List.getElem?_eq_some_iff.1 h1).1;have ht2:decide (j<row.length)=false:=decide_eq_false (by omega);have e1:=(Kd.R_reads' HS.out.e).1;have e2:=(Kd.R_reads' HS.out.x).1;have hltx:=(List.getElem?_eq_some_iff.1 h2).1;have b1:x<nX:=by omega
   clear HP h1 h2 h3 hlt e1 e2 hltx;go_wp2
   go_quiet(fail)
   go_wp2
   go_ret
   exact⟨rfl,pw_below_drewN HB.out _,Kept.drewN HK.out _,HS.out.drewN _⟩
  | @skip k1 _ _ _ _ _ _ _ row l a b j e y h1 h2 h3 h4 h5 h6 h7 h8 h9=>
   obtain⟨ad,c,⟨f1,f2,f3,f4,f5,f6,f7,f8,f9⟩,b1,b2,b3,b4,b5,b6,b7,b8⟩:=HS.out.at_ h1 h2 h3 h4 h5 h6 h7;have ht:decide ((j:Int)<(row.length:Int))=true:=decide_eq_true (by omega);have ht2:decide (j<row.length)=true:=decide_eq_true b7;have ha:=HV.out x a h6;have HP2:=Aside0.mk (show PushL n E T V k1 x most L1 (X1.set x ((j:Int)+1)) r L' X' from h9);clear HP h1 h2 h3 h4 h5 h6 h7 h9
   by_cases hl:l=0
   ·subst hl;clear h8;go_wp2
    go_quiet(fail)
    go_wp2
    go_quiet(fail)
    go_wp2
    go_quiet(fail)
    go_wp2
    go_roundg k1
    case measure=>omega
    case rel=>exact⟨L1,X1.set x ((j:Int)+1),HP2,⟨(HS.out.drewN _).putX _ _⟩,⟨below_set (pw_below_drewN HB.out _) (by rw[HBase.out];exact HS.out.baseX)⟩,⟨Kept.setCell (Kept.drewN HK.out _) (.inl (.inr rfl)) _⟩,⟨by have:=HKQ.out;omega⟩⟩
   ·have q1:(l==0)=false:=by simpa using hl
    have hb:b≠a+1:=h8.resolve_left hl;have q2:(b !=a+1)=true:=by simpa using hb
    have q3:(b==a+1)=false:=by simpa using hb
    clear h8 hb hl;go_wp2
    go_quiet(fail)
    go_wp2
    go_quiet(fail)
    go_wp2
    go_quiet(fail)
    go_wp2
    go_roundg k1
    case measure=>omega
    case rel=>exact⟨L1,X1.set x ((j:Int)+1),HP2,⟨(HS.out.drewN _).putX _ _⟩,⟨below_set (pw_below_drewN HB.out _) (by rw[HBase.out];exact HS.out.baseX)⟩,⟨Kept.setCell (Kept.drewN HK.out _) (.inl (.inr rfl)) _⟩,⟨by have:=HKQ.out;omega⟩⟩
  | @fail k1 _ _ _ _ _ _ _ row l a La Xa j1 j e y h1 h2 h3 h4 h5 h6 h7 h8 hy hp h9 hj hp2=>
   obtain⟨ad,c,⟨f1,f2,f3,f4,f5,f6,f7,f8,f9⟩,b1,b2,b3,b4,b5,b6,b7,b8⟩:=HS.out.at_ h1 h2 h3 h4 h5 h6 h7;have ht:decide ((j:Int)<(row.length:Int))=true:=decide_eq_true (by omega);have ht2:decide (j<row.length)=true:=decide_eq_true b7;have ha:=HV.out x a h6;have hyn:y<n:=by have q:=(List.getElem?_eq_some_iff.1 h7).1;have q2:=HVL.out;omega
   have q1:(l==0)=false:=by simpa using h8
   have q2:(a+1 !=a+1)=false:=by simp
   have HPQ:=hp;have HP2:=Aside0.mk (show PushL n E T V k1 x most La (Xa.set x ((j1:Int)+1)) r L' X' from hp2);have HY:=Aside0.mk hy;have HX1:=Aside0.mk h9;have hkk:=HKQ.out;clear HP h1 h2 h3 h4 h5 h6 h7 h8 hp hp2 h9
   rcases Int.lt_or_le l most with hm|hm
   ·rw[Int.min_eq_right (Int.le_of_lt hm)]at HPQ;have HP1:=Aside0.mk HPQ;clear HPQ;go_wp2
    go_quiet(fail)
    go_wp2
    go_quiet(fail)
    go_wp2
    go_quiet(fail)
    go_wp2;refine still_tail_ 17 (by kernel_rfl) (by kernel_rfl) (fun W hW=>?_);have HS2:=Aside0.mk (show St base g bE n cE bT nT cT bL nL cL bV nV cV bX nX cX E T V W L1 X1 from by subst hW;repeat(first|exact HS.out|apply St.drewN));have HB2:=Aside0.mk (show Below w0.heap.size w0 W from by subst hW;repeat(first|exact HB.out|apply pw_below_drewN));have HK2:=Aside0.mk (show Kept w W (fun k=>k=bL∨k=bX)from by subst hW;exact HK.out);have hce: ∀q,wr.cell? q=W.cell? q:=fun q=>by rw[hW];rfl
    have hfr: ∀q,wr.frozen? q=W.frozen? q:=fun q=>by rw[hW];rfl
    rw[hce]at c0 c1 c2 c3 c4 f1 f2 f3 f5 f7 f8 f9;rw[hfr]at f4 f6;clear hW hce hfr HS HB HK;simp only[List.take_succ_cons,List.take_zero,List.drop_succ_cons,List.drop_zero]
    repeat still_step
    refine wpStill_nil ?_
    go_wp2_with fail
    refine(IH.out k1 (by omega) HP1.out w0 W HY.out hyn HBase.out HB2.out HS2.out).mono ?_;rintro e2 w2 ⟨rfl,hb2,hk2,hs2⟩;have HB3:=Aside0.mk hb2;have HK3:=Aside0.mk (Kept.then_ HK2.out hk2 (fun _ h=> .inl h));have HS3:=Aside0.mk hs2;clear hb2 hk2 hs2 HS2 HB2 HK2 c0 c1 c2 c3 c4 f1 f2 f3 f4 f5 f6 f7 f8 f9;obtain⟨c0,c1,c2,c3,c4⟩:=HS3.out.cells;obtain⟨g4,g4f⟩:=int_at HS3.out.x HX1.out;have hltx:=(List.getElem?_eq_some_iff.1 HX1.out).1;have e2:=(Kd.R_reads' HS3.out.x).1;have b9:x<nX:=by omega
    clear hltx e2
    go_wp2_with fail
    go_roundg k1
    case measure=>omega
    case rel=>exact⟨La,Xa.set x ((j1:Int)+1),HP2,⟨HS3.out.putX _ _⟩,⟨below_set HB3.out (by rw[HBase.out];exact HS3.out.baseX)⟩,⟨Kept.setCell HK3.out (.inl (.inr rfl)) _⟩,⟨by omega⟩⟩
   ·rw[Int.min_eq_left hm]at HPQ;have HP1:=Aside0.mk HPQ;clear HPQ;go_wp2
    go_quiet(fail)
    go_wp2
    go_quiet(fail)
    go_wp2
    go_quiet(fail)
    go_wp2;refine still_tail_ 17 (by kernel_rfl) (by kernel_rfl) (fun W hW=>?_);have HS2:=Aside0.mk (show St base g bE n cE bT nT cT bL nL cL bV nV cV bX nX cX E T V W L1 X1 from by subst hW;repeat(first|exact HS.out|apply St.drewN));have HB2:=Aside0.mk (show Below w0.heap.size w0 W from by subst hW;repeat(first|exact HB.out|apply pw_below_drewN));have HK2:=Aside0.mk (show Kept w W (fun k=>k=bL∨k=bX)from by subst hW;exact HK.out);have hce: ∀q,wr.cell? q=W.cell? q:=fun q=>by rw[hW];rfl
    have hfr: ∀q,wr.frozen? q=W.frozen? q:=fun q=>by rw[hW];rfl
    rw[hce]at c0 c1 c2 c3 c4 f1 f2 f3 f5 f7 f8 f9;rw[hfr]at f4 f6;clear hW hce hfr HS HB HK;simp only[List.take_succ_cons,List.take_zero,List.drop_succ_cons,List.drop_zero]
    repeat still_step
    refine wpStill_nil ?_
    go_wp2_with fail
    refine(IH.out k1 (by omega) HP1.out w0 W HY.out hyn HBase.out HB2.out HS2.out).mono ?_;rintro e2 w2 ⟨rfl,hb2,hk2,hs2⟩;have HB3:=Aside0.mk hb2;have HK3:=Aside0.mk (Kept.then_ HK2.out hk2 (fun _ h=> .inl h));have HS3:=Aside0.mk hs2;clear hb2 hk2 hs2 HS2 HB2 HK2 c0 c1 c2 c3 c4 f1 f2 f3 f4 f5 f6 f7 f8 f9;obtain⟨c0,c1,c2,c3,c4⟩:=HS3.out.cells;obtain⟨g4,g4f⟩:=int_at HS3.out.x HX1.out;have hltx:=(List.getElem?_eq_some_iff.1 HX1.out).1;have e2:=(Kd.R_reads' HS3.out.x).1;have b9:x<nX:=by omega
    clear hltx e2
    go_wp2_with fail
    go_roundg k1
    case measure=>omega
    case rel=>exact⟨La,Xa.set x ((j1:Int)+1),HP2,⟨HS3.out.putX _ _⟩,⟨below_set HB3.out (by rw[HBase.out];exact HS3.out.baseX)⟩,⟨Kept.setCell HK3.out (.inl (.inr rfl)) _⟩,⟨by omega⟩⟩
  | @sent k1 _ _ _ _ row l a La Xa _ l1 l2 j e y h1 h2 h3 h4 h5 h6 h7 h8 hy hp h9 g1 g2 hr hl1 hl2 hb=>
   obtain⟨ad,c,⟨f1,f2,f3,f4,f5,f6,f7,f8,f9⟩,b1,b2,b3,b4,b5,b6,b7,b8⟩:=HS.out.at_ h1 h2 h3 h4 h5 h6 h7;have ht:decide ((j:Int)<(row.length:Int))=true:=decide_eq_true (by omega);have ht2:decide (j<row.length)=true:=decide_eq_true b7;have ha:=HV.out x a h6;have hyn:y<n:=by have q:=(List.getElem?_eq_some_iff.1 h7).1;have q2:=HVL.out;omega
   have q1:(l==0)=false:=by simpa using h8
   have q2:(a+1 !=a+1)=false:=by simp
   have HPQ:=hp;have HY:=Aside0.mk hy;have HG1:=Aside0.mk g1;have HG2:=Aside0.mk g2;have HNL:=Aside0.mk hnL;have hkk:=HKQ.out;clear HP h1 h2 h3 h4 h5 h6 h7 h8 hp g1 g2
   rcases Int.lt_or_le l most with hm|hm
   ·have HM:=Aside0.mk (Int.min_eq_right (Int.le_of_lt hm));rw[HM.out]at HPQ;have HP1:=Aside0.mk HPQ;clear HPQ;go_wp2
    go_quiet(fail)
    go_wp2
    go_quiet(fail)
    go_wp2
    go_quiet(fail)
    go_wp2;refine still_tail_ 17 (by kernel_rfl) (by kernel_rfl) (fun W hW=>?_);have HS2:=Aside0.mk (show St base g bE n cE bT nT cT bL nL cL bV nV cV bX nX cX E T V W L1 X1 from by subst hW;repeat(first|exact HS.out|apply St.drewN));have HB2:=Aside0.mk (show Below w0.heap.size w0 W from by subst hW;repeat(first|exact HB.out|apply pw_below_drewN));have HK2:=Aside0.mk (show Kept w W (fun k=>k=bL∨k=bX)from by subst hW;exact HK.out);have hce: ∀q,wr.cell? q=W.cell? q:=fun q=>by rw[hW];rfl
    have hfr: ∀q,wr.frozen? q=W.frozen? q:=fun q=>by rw[hW];rfl
    rw[hce]at c0 c1 c2 c3 c4 f1 f2 f3 f5 f7 f8 f9;rw[hfr]at f4 f6;clear hW hce hfr HS HB HK;simp only[List.take_succ_cons,List.take_zero,List.drop_succ_cons,List.drop_zero]
    repeat still_step
    refine wpStill_nil ?_
    go_wp2_with fail
    refine(IH.out k1 (by omega) HP1.out w0 W HY.out hyn HBase.out HB2.out HS2.out).mono ?_;rintro e2 w2 ⟨rfl,hb2,hk2,hs2⟩;have HB3:=Aside0.mk hb2;have HK3:=Aside0.mk (Kept.then_ HK2.out hk2 (fun _ h=> .inl h));have HS3:=Aside0.mk hs2;clear hb2 hk2 hs2 HS2 HB2 HK2 c0 c1 c2 c3 c4 f1 f2 f3 f4 f5 f6 f7 f8 f9;obtain⟨c0,c1,c2,c3,c4⟩:=HS3.out.cells;obtain⟨g1c,g1f⟩:=int_at HS3.out.l HG1.out;have hput:=HS3.out.putL e (l1-r);have hl2':(La.set e (l1-r))[par e]?=some l2:=by rw[List.getElem?_set_ne (fun h=>par_ne e h.symm)];exact HG2.out
    obtain⟨g2c,g2f⟩:=int_at hput.l hl2';have HPUT:=Aside0.mk hput;have bl1:e<nL:=by have q:=(List.getElem?_eq_some_iff.1 HG1.out).1;have q2:=(Kd.R_reads' HS3.out.l).1;omega
    have bl2:par e<nL:=by have q:=(List.getElem?_eq_some_iff.1 HG2.out).1;have q2:=(Kd.R_reads' HS3.out.l).1;omega
    have c2':=HPUT.out.cells.2.2.1;have hbits:=bits_xor1 e (by have:=HNL.out;omega);clear hput hl2'
    go_wp2_with fail
    go_ret
    exact⟨rfl,below_set (below_set HB3.out (by rw[HBase.out];exact HS3.out.baseL)) (by rw[HBase.out];exact HS3.out.baseL),Kept.setCell (Kept.setCell HK3.out (.inl (.inl rfl)) _) (.inl (.inl rfl)) _,by rw[sendL_eq HG1.out HG2.out];exact HPUT.out.putL _ _⟩
   ·have HM:=Aside0.mk (Int.min_eq_left hm);rw[HM.out]at HPQ;have HP1:=Aside0.mk HPQ;clear HPQ;go_wp2
    go_quiet(fail)
    go_wp2
    go_quiet(fail)
    go_wp2
    go_quiet(fail)
    go_wp2;refine still_tail_ 17 (by kernel_rfl) (by kernel_rfl) (fun W hW=>?_);have HS2:=Aside0.mk (show St base g bE n cE bT nT cT bL nL cL bV nV cV bX nX cX E T V W L1 X1 from by subst hW;repeat(first|exact HS.out|apply St.drewN));have HB2:=Aside0.mk (show Below w0.heap.size w0 W from by subst hW;repeat(first|exact HB.out|apply pw_below_drewN));have HK2:=Aside0.mk (show Kept w W (fun k=>k=bL∨k=bX)from by subst hW;exact HK.out);have hce: ∀q,wr.cell? q=W.cell? q:=fun q=>by rw[hW];rfl
    have hfr: ∀q,wr.frozen? q=W.frozen? q:=fun q=>by rw[hW];rfl
    rw[hce]at c0 c1 c2 c3 c4 f1 f2 f3 f5 f7 f8 f9;rw[hfr]at f4 f6;clear hW hce hfr HS HB HK;simp only[List.take_succ_cons,List.take_zero,List.drop_succ_cons,List.drop_zero]
    repeat still_step
    refine wpStill_nil ?_
    go_wp2_with fail
    refine(IH.out k1 (by omega) HP1.out w0 W HY.out hyn HBase.out HB2.out HS2.out).mono ?_;rintro e2 w2 ⟨rfl,hb2,hk2,hs2⟩;have HB3:=Aside0.mk hb2;have HK3:=Aside0.mk (Kept.then_ HK2.out hk2 (fun _ h=> .inl h));have HS3:=Aside0.mk hs2;clear hb2 hk2 hs2 HS2 HB2 HK2 c0 c1 c2 c3 c4 f1 f2 f3 f4 f5 f6 f7 f8 f9;obtain⟨c0,c1,c2,c3,c4⟩:=HS3.out.cells;obtain⟨g1c,g1f⟩:=int_at HS3.out.l HG1.out;have hput:=HS3.out.putL e (l1-r);have hl2':(La.set e (l1-r))[par e]?=some l2:=by rw[List.getElem?_set_ne (fun h=>par_ne e h.symm)];exact HG2.out
    obtain⟨g2c,g2f⟩:=int_at hput.l hl2';have HPUT:=Aside0.mk hput;have bl1:e<nL:=by have q:=(List.getElem?_eq_some_iff.1 HG1.out).1;have q2:=(Kd.R_reads' HS3.out.l).1;omega
    have bl2:par e<nL:=by have q:=(List.getElem?_eq_some_iff.1 HG2.out).1;have q2:=(Kd.R_reads' HS3.out.l).1;omega
    have c2':=HPUT.out.cells.2.2.1;have hbits:=bits_xor1 e (by have:=HNL.out;omega);clear hput hl2'
    go_wp2_with fail
    go_ret
    exact⟨rfl,below_set (below_set HB3.out (by rw[HBase.out];exact HS3.out.baseL)) (by rw[HBase.out];exact HS3.out.baseL),Kept.setCell (Kept.setCell HK3.out (.inl (.inl rfl)) _) (.inl (.inl rfl)) _,by rw[sendL_eq HG1.out HG2.out];exact HPUT.out.putL _ _⟩
  | @sink k1 _ _ _ _ row l a l2 j e y h1 h2 h3 h4 h5 h6 h7 h8 hy hmin hl1 g2 hl2 hb=>
   obtain⟨ad,c,⟨f1,f2,f3,f4,f5,f6,f7,f8,f9⟩,b1,b2,b3,b4,b5,b6,b7,b8⟩:=HS.out.at_ h1 h2 h3 h4 h5 h6 h7;have ht:decide ((j:Int)<(row.length:Int))=true:=decide_eq_true (by omega);have ht2:decide (j<row.length)=true:=decide_eq_true b7;have ha:=HV.out x a h6;have hyn:y<n:=by have q:=(List.getElem?_eq_some_iff.1 h7).1;have q2:=HVL.out;omega
   have q1:(l==0)=false:=by simpa using h8
   have q2:(a+1 !=a+1)=false:=by simp
   have HY:=Aside0.mk hy;have HG1:=Aside0.mk h5;have HG2:=Aside0.mk g2;have HNL:=Aside0.mk hnL;clear HP h1 h2 h3 h4 h5 h6 h7 h8 g2 hy
   rcases Int.lt_or_le l most with hm|hm
   ·have HM:=Aside0.mk (Int.min_eq_right (Int.le_of_lt hm));rw[HM.out]at hmin hb;have HMN:=Aside0.mk hmin;have HBN:=Aside0.mk hb;clear hmin hb;go_wp2
    go_quiet(fail)
    go_wp2
    go_quiet(fail)
    go_wp2
    go_quiet(fail)
    go_wp2;refine still_tail_ 17 (by kernel_rfl) (by kernel_rfl) (fun W hW=>?_);have HS2:=Aside0.mk (show St base g bE n cE bT nT cT bL nL cL bV nV cV bX nX cX E T V W L1 X' from by subst hW;repeat(first|exact HS.out|apply St.drewN));have HB2:=Aside0.mk (show Below w0.heap.size w0 W from by subst hW;repeat(first|exact HB.out|apply pw_below_drewN));have HK2:=Aside0.mk (show Kept w W (fun k=>k=bL∨k=bX)from by subst hW;exact HK.out);have hce: ∀q,wr.cell? q=W.cell? q:=fun q=>by rw[hW];rfl
    have hfr: ∀q,wr.frozen? q=W.frozen? q:=fun q=>by rw[hW];rfl
    rw[hce]at c0 c1 c2 c3 c4 f1 f2 f3 f5 f7 f8 f9;rw[hfr]at f4 f6;clear hW hce hfr HS HB HK;simp only[List.take_succ_cons,List.take_zero,List.drop_succ_cons,List.drop_zero]
    repeat still_step
    refine wpStill_nil ?_
    go_wp2_with fail
    refine(push_sink hn2 hn3 y HY.out _ W HS2.out).mono ?_;rintro e2 w2 ⟨rfl,rfl⟩;clear c0 c1 c2 c3 c4 f1 f2 f3 f4 f5 f6 f7 f8 f9;obtain⟨c0,c1,c2,c3,c4⟩:=HS2.out.cells;have hmin:=HMN.out;have hb:=HBN.out;obtain⟨g1c,g1f⟩:=int_at HS2.out.l HG1.out;have hput:=HS2.out.putL e (0:Int);have hl2':(L1.set e (0:Int))[par e]?=some l2:=by rw[List.getElem?_set_ne (fun h=>par_ne e h.symm)];exact HG2.out
    obtain⟨g2c,g2f⟩:=int_at hput.l hl2';have HPUT:=Aside0.mk hput;have bl1:e<nL:=by have q:=(List.getElem?_eq_some_iff.1 HG1.out).1;have q2:=(Kd.R_reads' HS2.out.l).1;omega
    have bl2:par e<nL:=by have q:=(List.getElem?_eq_some_iff.1 HG2.out).1;have q2:=(Kd.R_reads' HS2.out.l).1;omega
    have c2':=HPUT.out.cells.2.2.1;have hbits:=bits_xor1 e (by have:=HNL.out;omega);clear hput hl2'
    go_wp2_with fail
    go_ret
    exact⟨by rw[HM.out];rfl,below_set (below_set HB2.out (by rw[HBase.out];exact HS2.out.baseL)) (by rw[HBase.out];exact HS2.out.baseL),Kept.setCell (Kept.setCell HK2.out (.inl (.inl rfl)) _) (.inl (.inl rfl)) _,by rw[HM.out,sendL_eq HG1.out HG2.out,Int.sub_self];exact HPUT.out.putL _ _⟩
   ·have HM:=Aside0.mk (Int.min_eq_left hm);rw[HM.out]at hmin hb;have HMN:=Aside0.mk hmin;have HBN:=Aside0.mk hb;clear hmin hb;go_wp2
    go_quiet(fail)
    go_wp2
    go_quiet(fail)
    go_wp2
    go_quiet(fail)
    go_wp2;refine still_tail_ 17 (by kernel_rfl) (by kernel_rfl) (fun W hW=>?_);have HS2:=Aside0.mk (show St base g bE n cE bT nT cT bL nL cL bV nV cV bX nX cX E T V W L1 X' from by subst hW;repeat(first|exact HS.out|apply St.drewN));have HB2:=Aside0.mk (show Below w0.heap.size w0 W from by subst hW;repeat(first|exact HB.out|apply pw_below_drewN));have HK2:=Aside0.mk (show Kept w W (fun k=>k=bL∨k=bX)from by subst hW;exact HK.out);have hce: ∀q,wr.cell? q=W.cell? q:=fun q=>by rw[hW];rfl
    have hfr: ∀q,wr.frozen? q=W.frozen? q:=fun q=>by rw[hW];rfl
    rw[hce]at c0 c1 c2 c3 c4 f1 f2 f3 f5 f7 f8 f9;rw[hfr]at f4 f6;clear hW hce hfr HS HB HK;simp only[List.take_succ_cons,List.take_zero,List.drop_succ_cons,List.drop_zero]
    repeat still_step
    refine wpStill_nil ?_
    go_wp2_with fail
    refine(push_sink hn2 hn3 y HY.out _ W HS2.out).mono ?_;rintro e2 w2 ⟨rfl,rfl⟩;clear c0 c1 c2 c3 c4 f1 f2 f3 f4 f5 f6 f7 f8 f9;obtain⟨c0,c1,c2,c3,c4⟩:=HS2.out.cells;have hmin:=HMN.out;have hb:=HBN.out;obtain⟨g1c,g1f⟩:=int_at HS2.out.l HG1.out;have hput:=HS2.out.putL e (l-most);have hl2':(L1.set e (l-most))[par e]?=some l2:=by rw[List.getElem?_set_ne (fun h=>par_ne e h.symm)];exact HG2.out
    obtain⟨g2c,g2f⟩:=int_at hput.l hl2';have HPUT:=Aside0.mk hput;have bl1:e<nL:=by have q:=(List.getElem?_eq_some_iff.1 HG1.out).1;have q2:=(Kd.R_reads' HS2.out.l).1;omega
    have bl2:par e<nL:=by have q:=(List.getElem?_eq_some_iff.1 HG2.out).1;have q2:=(Kd.R_reads' HS2.out.l).1;omega
    have c2':=HPUT.out.cells.2.2.1;have hbits:=bits_xor1 e (by have:=HNL.out;omega);clear hput hl2'
    go_wp2_with fail
    go_ret
    exact⟨by rw[HM.out];rfl,below_set (below_set HB2.out (by rw[HBase.out];exact HS2.out.baseL)) (by rw[HBase.out];exact HS2.out.baseL),Kept.setCell (Kept.setCell HK2.out (.inl (.inl rfl)) _) (.inl (.inl rfl)) _,by rw[HM.out,sendL_eq HG1.out HG2.out];exact HPUT.out.putL _ _⟩
end Go.Proofs.Ytlkppimbbbdmbaa.Res
namespace Go.Proofs.Ytlkppimbbbdmbaa.Res
open Go.RowKit Go.Proofs.YtlkppimbbbdmbaaW.PrintWords Go.Proofs.YtlkppimbbbdmbaaW.PrintLast Go.Proofs.YtlkppimbbbdmbaaW.PrintMore Go.Proofs.Ytlkppimbbbdmbaa.Flow
set_option linter.unusedVariables false
set_option linter.unusedSimpArgs false
theorem infoI:(Try.prog.info? 3).map (fun i=>(i.zero,i.size,i.bytes))=some (some (.int .i64 0),1,8):=by kernel_rfl
theorem infoB:(Try.prog.info? 4).map (fun i=>(i.zero,i.size,i.bytes))=some (some (.bool false),1,1):=by kernel_rfl
def sl (n b:Nat):Option Addr:=if n=0 then none else some ⟨b,0,none⟩
theorem sl_pos {n b:Nat} (h:n≠0):sl n b=some ⟨b,0,none⟩:=if_neg h
theorem sl_of {e base n b c:Nat} {w:World} {ok:Nat→Prop} {L:List Int} (h:Kd.R (Kd.int .i64) e w base ok (.slice (sl n b) n c) L) {i:Nat} {v:Int} (hi:L[i]?=some v):sl n b=some ⟨b,0,none⟩:=
 sl_pos (by have q:=(List.getElem?_eq_some_iff.1 hi).1;have q2:=(Kd.R_reads' h).1;omega)
theorem int_at' {e base n b c:Nat} {w:World} {ok:Nat→Prop} {L:List Int} (h:Kd.R (Kd.int .i64) e w base ok (.slice (sl n b) n c) L) {i:Nat} {v:Int} (hi:L[i]?=some v):
  w.cell? ⟨b,i,none⟩=some (.int .i64 v)∧w.frozen? ⟨b,i,none⟩=false:=by
 have q:=sl_of h hi;rw[q]at h;exact int_at h hi
theorem R_sl {e base n b c:Nat} {w w1:World} {L:List Int} (h:Kd.R (Kd.int .i64) e w base (fun k=>k=b) (.slice (sl n b) n c) L) (hm:n≠0→w1.heap[b]?=w.heap[b]?):Kd.R (Kd.int .i64) e w1 base (fun k=>k=b) (.slice (sl n b) n c) L:=by
 by_cases h0:n=0
 ·refine Kd.R_mono (Kd.R_move (Kd.R_tight rfl h) (fun k hk=>?_)) (fun k hk=>?_)<;>
  ·subst h0;cases hk
 ·exact Kd.R_move h (fun k hk=>by rw[hk];exact hm h0)
structure Rs (N base g bE n cE bT nT cT bL nL cL:Nat) (E:List (List Int)) (T:List Int) (vV vX:Value) (w:World) (L:List Int):Prop where
 box:w.heap[g]?=some (.cells #[.slice (some ⟨bE,0,none⟩) n cE,.slice (sl nT bT) nT cT,.slice (sl nL bL) nL cL,vV,vX] 116 (0,0))
 e:Kd.R (Kd.slice 3 (Kd.int .i64)) 24 w base (fun k=>k≠bL∧k<N) (.slice (some ⟨bE,0,none⟩) n cE) E
 t:Kd.R (Kd.int .i64) 3 w base (fun k=>k≠bL∧k<N) (.slice (sl nT bT) nT cT) T
 l:Kd.R (Kd.int .i64) 3 w base (fun k=>k=bL) (.slice (sl nL bL) nL cL) L
 gL:g≠bL
 gN:g<N
 LN:nL≠0→bL<N
 gb:base≤g
 NS:N≤w.heap.size
section
variable {N base g bE n cE bT nT cT bL nL cL:Nat} {E:List (List Int)} {T L:List Int} {vV vX:Value} {w w1:World}
theorem Rs.move (S:Rs N base g bE n cE bT nT cT bL nL cL E T vV vX w L) (hm: ∀k,k<N→w1.heap[k]?=w.heap[k]?) (hs:w.heap.size≤w1.heap.size):Rs N base g bE n cE bT nT cT bL nL cL E T vV vX w1 L:=
 ⟨(hm g S.gN).trans S.box,Kd.R_move S.e (fun k hk=>hm k hk.2),Kd.R_move S.t (fun k hk=>hm k hk.2),R_sl S.l (fun h0=>hm bL (S.LN h0)),S.gL,S.gN,S.LN,S.gb,Nat.le_trans S.NS hs⟩
theorem Rs.grown (S:Rs N base g bE n cE bT nT cT bL nL cL E T vV vX w L) {row:Option Nat} (hg:w.grownBy w1 row) (hr: ∀k,row=some k→N≤k):Rs N base g bE n cE bT nT cT bL nL cL E T vV vX w1 L:=
 S.move (fun k hk=>hg.block k (Nat.lt_of_lt_of_le hk S.NS) (fun he=>by have:=hr k he.symm;omega)) hg.size
theorem Rs.below (S:Rs N base g bE n cE bT nT cT bL nL cL E T vV vX w L) (hb:Below w.heap.size w w1):Rs N base g bE n cE bT nT cT bL nL cL E T vV vX w1 L:=
 S.move (fun k hk=>hb.block k (Nat.lt_of_lt_of_le hk S.NS)) hb.size
theorem Rs.far (S:Rs N base g bE n cE bT nT cT bL nL cL E T vV vX w L) {b i:Nat} (hb:N≤b) (u:Value):Rs N base g bE n cE bT nT cT bL nL cL E T vV vX (w.setCell ⟨b,i,none⟩ u) L:=
 S.move (fun k hk=>Below.heap_setCell w ⟨b,i,none⟩ u k (by show k≠b;omega)) (by simp[World.setCell])
theorem Rs.setV (S:Rs N base g bE n cE bT nT cT bL nL cL E T vV vX w L) (u:Value):Rs N base g bE n cE bT nT cT bL nL cL E T u vX (w.setCell ⟨g,3,none⟩ u) L:=
 ⟨blk_put S.box 3 u rfl,Kd.R_set S.e S.box (by decide) 3 u,Kd.R_set S.t S.box (by decide) 3 u,Kd.R_set S.l S.box (by decide) 3 u,S.gL,S.gN,S.LN,S.gb,by have:=S.NS;simpa [World.setCell]using this⟩
theorem Rs.setX (S:Rs N base g bE n cE bT nT cT bL nL cL E T vV vX w L) (u:Value):Rs N base g bE n cE bT nT cT bL nL cL E T vV u (w.setCell ⟨g,4,none⟩ u) L:=
 ⟨blk_put S.box 4 u rfl,Kd.R_set S.e S.box (by decide) 4 u,Kd.R_set S.t S.box (by decide) 4 u,Kd.R_set S.l S.box (by decide) 4 u,S.gL,S.gN,S.LN,S.gb,by have:=S.NS;simpa [World.setCell]using this⟩
theorem Rs.cells (S:Rs N base g bE n cE bT nT cT bL nL cL E T vV vX w L):
  w.cell? ⟨g,0,none⟩=some (.slice (some ⟨bE,0,none⟩) n cE)∧w.cell? ⟨g,1,none⟩=some (.slice (sl nT bT) nT cT)∧w.cell? ⟨g,2,none⟩=some (.slice (sl nL bL) nL cL)∧w.cell? ⟨g,3,none⟩=some vV∧w.cell? ⟨g,4,none⟩=some vX:=
 ⟨blk_cell S.box 0,blk_cell S.box 1,blk_cell S.box 2,blk_cell S.box 3,blk_cell S.box 4⟩
theorem Rs.free (S:Rs N base g bE n cE bT nT cT bL nL cL E T vV vX w L) (i:Nat):w.frozen? ⟨g,i,none⟩=false:=by
 have:=S.box
 simp[World.frozen?,this]
theorem Rs.ltE (S:Rs N base g bE n cE bT nT cT bL nL cL E T vV vX w L):bE<N:=(S.e.1 bE (by simp[Value.ownBlock])).2
theorem Rs.row (S:Rs N base g bE n cE bT nT cT bL nL cL E T vV vX w L) {x c:Nat} {row:List Int} {A:Option Addr} (h1:E[x]?=some row) (hc:w.cell? ⟨bE,x,none⟩=some (.slice A row.length c)):(Kd.int .i64).C w A row.length row:=by
 obtain⟨A',c',hA,_,hC⟩:=row_at S.e h1;rw[hc]at hA
 injection hA with hA
 injection hA with hA
 subst hA;exact hC
end
theorem bool_at {e base b n c:Nat} {w:World} {ok:Nat→Prop} {B:List Bool} (h:Kd.R Kd.bool e w base ok (.slice (some ⟨b,0,none⟩) n c) B) {i:Nat} {v:Bool} (hi:B[i]?=some v):
  w.cell? ⟨b,i,none⟩=some (.bool v)∧w.frozen? ⟨b,i,none⟩=false:=by
 have hlt:=(List.getElem?_eq_some_iff.1 hi).1;obtain⟨hn,_,_⟩:=Kd.R_reads' h;subst hn
 have:=Kd.R_cell (enc:=Value.bool) false h (i:Int) (Int.natCast_nonneg _) (by omega)
 rw[Int.toNat_natCast]at this;have e1:rdOf false B (i:Int)=v:=by unfold rdOf;rw[Int.toNat_natCast,List.getD_eq_getElem?_getD,hi];rfl
 rw[e1]at this;exact this
theorem cell_far {w:World} {a:Addr} {b i:Nat} {u v:Value} (h:w.cell? a=some v) (hb:a.block≠b):(w.setCell ⟨b,i,none⟩ u).cell? a=some v:=by
 have:=Below.heap_setCell w ⟨b,i,none⟩ u a.block hb
 simpa [World.cell?,this]using h
theorem cell_gr {w w1:World} {a:Addr} {row:Option Nat} {v:Value} (h:w.cell? a=some v) (hg:w.grownBy w1 row) (hb:some a.block≠row):w1.cell? a=some v:=by
 have:=hg.block a.block (World.block_lt_of_cell? w a h) hb
 simpa [World.cell?,this]using h
def FromPost (N g bE n cE bT nT cT bL nL cL:Nat) (E:List (List Int)) (T L:List Int) (vX:Value) (w0 w:World) (B:List Bool) (V:List Int) (e:Ending) (w':World):Prop:=
 ∃vB bV cV,e= .returned vB∧Kd.R Kd.bool 4 w' w0.heap.size (fun k=>w.heap.size≤k) vB B∧Kd.R (Kd.int .i64) 3 w' w0.heap.size (fun k=>k=bV) (.slice (some ⟨bV,0,none⟩) n cV) V∧w.heap.size≤bV∧
  Rs N w0.heap.size g bE n cE bT nT cT bL nL cL E T (.slice (some ⟨bV,0,none⟩) n cV) vX w' L∧Below w0.heap.size w0 w'∧Kept w w' (fun k=>k=g)
set_option maxHeartbeats 8000000 in
set_option maxRecDepth 100000 in
theorem from_calls {N g bE n cE bT nT cT bL nL cL:Nat} {E:List (List Int)} {T L:List Int} {vV vX:Value} (hn1:1≤n) (hn3:n≤1000000) (w0 w:World) (hB:Below w0.heap.size w0 w) (hS:Rs N w0.heap.size g bE n cE bT nT cT bL nL cL E T vV vX w L) {k:Nat} {B:List Bool} {V:List Int} (h:Bfs E T L k (B0 n) (List.replicate n 0) [0] B V):
  Calls Try.prog 88 #[.pointer (some ⟨g,0,none⟩)] w (FromPost N g bE n cE bT nT cT bL nL cL E T L vX w0 w B V):=by
 obtain⟨c0,c1,c2,c3,c4⟩:=hS.cells;have HS:=Aside0.mk hS;have HB:=Aside0.mk hB;have H:=Aside0.mk h;have HN:=Aside0.mk hS.NS;have f3:=hS.free 3;have HBN:=Aside0.mk (show w0.heap.size≤w.heap.size from hB.size);clear hS hB h
 go_enter Try.func88,Try.ntmps88
 go_wp2_with(first
  |((with_reducible refine gate_dst (N:=14) rfl ?_);refine Kd.R_make (Kd.int .i64) (w0:=w0) w0.heap.size 3 rfl (N:=14) rfl 24 _ _ rfl (n:Int) rfl rfl Try.underlying24 (.int .i64 0) 8 infoI rfl (by decide) (by omega) 0 (ok:=fun k=>w.heap.size≤k) (okp:=fun _=>False) rfl (fun _ hk=>hk.elim) (Nat.le_refl _) (by omega) (by omega) HB.out HBN.out ?_;intro v1 w1 ho hb hg hnew;
    rw[Int.toNat_natCast]at ho;obtain⟨bV,cV,e1,hv1,hv2,_⟩:=Kd.R_form ho (by rw[List.length_replicate];omega);rw[List.length_replicate]at e1;subst e1;have HS1:=Aside0.mk (HS.out.grown hg (fun _ h=>by cases h));have HV1:=Aside0.mk (Kd.R_mono (ok':=fun k=>k=bV) (Kd.R_tight rfl ho) (fun k hk=>by simpa [Value.ownBlock]using hk));have HB1:=Aside0.mk hb;have HbV:=Aside0.mk (show w.heap.size≤bV from ho.1 bV (by simp[Value.ownBlock]));have HbV2:=Aside0.mk hv2;have HK1:=Aside0.mk (Kept.of_grown hg (Kept.refl w (fun k=>k=g)) (fun _ h=>by cases h));clear ho hb hg hnew hv1 hv2 c0 c1 c2 c3 c4 f3 HS HB;obtain⟨c0,c1,c2,c3,c4⟩:=HS1.out.cells;have f3:=HS1.out.free 3)
  |((with_reducible refine gate_dst (N:=22) rfl ?_);
    have HS2:=Aside0.mk (HS1.out.setV (.slice (some ⟨bV,0,none⟩) n cV));have HV2:=Aside0.mk (Kd.R_set HV1.out HS1.out.box (by decide) 3 (.slice (some ⟨bV,0,none⟩) n cV));have HB2:=Aside0.mk (below_set (j:=3) (v:= .slice (some ⟨bV,0,none⟩) n cV) HB1.out HS1.out.gb);have HK2:=Aside0.mk (Kept.setCell HK1.out (p:=⟨g,3,none⟩) (.inl rfl) (.slice (some ⟨bV,0,none⟩) n cV));have hbV2:bV<(w1.setCell ⟨g,3,none⟩ (.slice (some ⟨bV,0,none⟩) n cV)).heap.size:=(by have:=HbV2.out;simpa [World.setCell]using this);refine Kd.R_make Kd.bool (w0:=w0) w0.heap.size 4 rfl (N:=22) rfl 80 _ _ rfl (n:Int) rfl rfl Try.underlying80 (.bool false) 1 infoB rfl (by decide) (by omega) false (ok:=fun k=>w.heap.size≤k∧k≠bV) (okp:=fun _=>False) rfl (fun _ hk=>hk.elim) ⟨HK2.out.1,by omega⟩ (by omega) (by omega) HB2.out (below_size HB2.out) ?_;intro v2 w2 ho hb hg hnew;rw[Int.toNat_natCast]at ho;obtain⟨bB,cB,e1,hv1,hv2,_⟩:=Kd.R_form ho (by rw[List.length_replicate];omega);rw[List.length_replicate]at e1;subst e1;have HS3:=Aside0.mk (HS2.out.grown hg (fun _ h=>by cases h));have HV3:=Aside0.mk (Kd.R_grown HV2.out hg (fun _ _ h=>by cases h));have HBr:=Aside0.mk (Kd.R_mono (ok':=fun k=>k=bB) (Kd.R_tight rfl ho) (fun k hk=>by simpa [Value.ownBlock]using hk));have HB3:=Aside0.mk hb;have HbB:=Aside0.mk (show w.heap.size≤bB∧bB≠bV from ho.1 bB (by simp[Value.ownBlock]));have HbB2:=Aside0.mk hv2;have HK3:=Aside0.mk (Kept.of_grown hg HK2.out (fun _ h=>by cases h));clear ho hb hg hnew hv1 hv2 c0 c1 c2 c3 c4 f3 HS1 HV1 HB1 HK1 HS2 HV2 HB2 HK2 hbV2 HbV2;obtain⟨fr0,fr1⟩:=bool_at HBr.out (i:=0) (v:=false) (by rw[List.getElem?_replicate,if_pos (by omega)])))
 have HS4:=Aside0.mk (HS3.out.far (b:=bB) (i:=0) (Nat.le_trans HN.out HbB.out.1) (.bool true));have HV4:=Aside0.mk (Kd.R_far HV3.out (p:=⟨bB,0,none⟩) (fun k hk he=>HbB.out.2 (he.symm.trans hk)) (.bool true));have HB4r:=Aside0.mk (show Kd.R Kd.bool 4 (w2.setCell ⟨bB,0,none⟩ (.bool true)) w0.heap.size (fun k=>k=bB) (.slice (some ⟨bB,0,none⟩) n cB) (B0 n)from Kd.R_putn (enc:=Value.bool) HBr.out 0 true);have HB4:=Aside0.mk (below_set (j:=0) (v:= .bool true) HB3.out (Nat.le_trans HBN.out HbB.out.1));have HK4:=Aside0.mk (Kept.setCell HK3.out (p:=⟨bB,0,none⟩) (.inr HbB.out.1) (.bool true));clear HS3 HV3 HBr HB3 HK3 fr0 fr1;have HQ5:=Aside0.mk (show Kd.Q (Kd.int .i64) 3 ((w2.setCell ⟨bB,0,none⟩ (.bool true)).alloc (.cells #[.int .i64 0] 3)) w0.heap.size (fun k=>w.heap.size≤k∧k≠bV∧k≠bB) (.slice (some ⟨(w2.setCell ⟨bB,0,none⟩ (.bool true)).heap.size,0,none⟩) 1 1) [0]from
  Kd.Q_of_R (Kd.R_of_own (enc:=Value.int .i64) (xs:=[0]) (own_lit (w2.setCell ⟨bB,0,none⟩ (.bool true)) w0.heap.size 3 .i64 [0] (below_size HB4.out) (by simp)) (fun k hk=>by
   have e1:(w2.setCell ⟨bB,0,none⟩ (.bool true)).heap.size=k:=by simpa [Value.ownBlock]using hk
   have e2:=Kd.R_lt HV4.out bV (by simp[Value.ownBlock]);have e3:=HK4.out.1;have e4:=Kd.R_lt HB4r.out bB (by simp[Value.ownBlock]);exact⟨by omega,by omega,by omega⟩)))
 have hsz:(w2.setCell ⟨bB,0,none⟩ (.bool true)).heap.size=w2.heap.size:=by simp[World.setCell]
 rw[hsz]at HQ5;clear hsz;have HS5:=Aside0.mk (HS4.out.below (below_alloc (Below.refl _ _) (.cells #[.int .i64 0] 3)));have HV5:=Aside0.mk (Kd.R_alloc HV4.out (.cells #[.int .i64 0] 3));have HB5r:=Aside0.mk (Kd.R_alloc HB4r.out (.cells #[.int .i64 0] 3));have HB5:=Aside0.mk (below_alloc HB4.out (.cells #[.int .i64 0] 3));have HK5:=Aside0.mk (Kept.alloc HK4.out (.cells #[.int .i64 0] 3));clear HS4 HV4 HB4r HB4 HK4
 go_loopg [4] k (fun kq v4 w'=> ∃(Bc:List Bool) (Vc Qc:List Int),Aside0 (Bfs E T L kq Bc Vc Qc B V)∧Aside0 (Rs N w0.heap.size g bE n cE bT nT cT bL nL cL E T (.slice (some ⟨bV,0,none⟩) n cV) vX w' L)∧Aside0 (Kd.R (Kd.int .i64) 3 w' w0.heap.size (fun k=>k=bV) (.slice (some ⟨bV,0,none⟩) n cV) Vc)∧Aside0 (Kd.R Kd.bool 4 w' w0.heap.size (fun k=>k=bB) (.slice (some ⟨bB,0,none⟩) n cB) Bc)∧Aside0 (Kd.Q (Kd.int .i64) 3 w' w0.heap.size (fun k=>w.heap.size≤k∧k≠bV∧k≠bB) v4 Qc)∧Aside0 (Below w0.heap.size w0 w')∧Aside0 (Kept w w' (fun k=>k=g)))
 case atStart=>exact⟨B0 n,List.replicate n 0,[0],H,HS5,HV5,HB5r,HQ5,HB5,HK5⟩
 case round=>
  clear HS5 HV5 HB5r HQ5 HB5 HK5 H;obtain⟨Bc,Vc,Qc,H,HS,HV,HBr,HQ,HB,HK⟩:=hrel;obtain⟨A4,c4,e4,hc4,hC4⟩:=Kd.Q_reads HQ.out;subst e4;cases H.out with
  |done=>
   have ht:decide ((0:Nat)<0)=false:=rfl;clear hc4 hC4;go_wp2
   go_ret
   exact⟨_,bV,cV,rfl,Kd.R_mono HBr.out (fun k hk=>by rw[hk];exact HbB.out.1),HV.out,HbV.out,HS.out,HB.out,HK.out⟩
  | @step k1 _ _ Qr B1 V1 Q1 _ _ row x h1 h2 h3=>
   obtain⟨ad,rfl,hx0⟩:=elem_at (j:=0) (v:=(x:Int)) hC4 rfl;rw[Addr.add_zero']at hx0;have hq0:(1:Int)≤(((x:Int)::Qr).length:Int):=by rw[List.length_cons];omega
   obtain⟨i0,hi0,hz0,hsz0,hby0⟩:=info_parts infoI;have hcut:=cut_from (P:=Try.prog) 24 3 .i64 Try.underlying24 hi0 1 hsz0 (some ad) ((x:Int)::Qr).length c4 1 (by omega) hq0;have hr:=Kd.Q_drop (k:=1) HQ.out (by rw[List.length_cons];omega);obtain⟨A5,hA5⟩: ∃A1,A1=(if c4=1 then some ad else(some ad:Option Addr).map (·.add (1*1))):=⟨_,rfl⟩;have hr2:Kd.Q (Kd.int .i64) 3 wr w0.heap.size (fun k=>w.heap.size≤k∧k≠bV∧k≠bB) (.slice A5 Qr.length (c4-1)) Qr:=by rw[hA5];exact hr
   have hcut2: ∀W:World,(Instr.slice 24 (.slice (some ad) (Qr.length+1) c4) (some (.int .i64 1)) none none).run Try.prog W= .ok (.slice A5 Qr.length (c4-1)) W:=by intro W;rw[hA5];exact hcut W
   have HQ2:=Aside0.mk hr2;have H1:=Aside0.mk h1;have H2:=Aside0.mk h2;have H3:=Aside0.mk h3;obtain⟨A,c,hA,hAc,hAC⟩:=row_at HS.out.e h1;have hxn:x<n:=by have q:=(List.getElem?_eq_some_iff.1 h1).1;have q2:=(Kd.R_reads' HS.out.e).1;omega
   have HA:=Aside0.mk hA;obtain⟨c0,c1,c2,c3,c4'⟩:=HS.out.cells;clear H HQ hc4 hC4 hq0 hcut hr hr2 hA5 hi0 hsz0 hz0 hby0 i0 h1 h2 h3 hAC hAc;simp only[List.length_cons];go_wp2;clear c0 c1 c2 c3 c4' hx0 hcut2 hA;obtain⟨wo,rfl⟩: ∃wo:World,wo=wr:=⟨_,rfl⟩
   go_loopg [4,42] row.length (fun kq v4 v42 w'=> ∃(pre suf:List Int) (Bc:List Bool) (Vc Qc:List Int),v42= .int .i64 (pre.length:Int)∧Aside0 (row=pre++suf)∧Aside0 (kq=suf.length)∧Aside0 (Scan T L x suf Bc Vc Qc B1 V1 Q1)∧Aside0 (Rs N w0.heap.size g bE n cE bT nT cT bL nL cL E T (.slice (some ⟨bV,0,none⟩) n cV) vX w' L)∧Aside0 (Kd.R (Kd.int .i64) 3 w' w0.heap.size (fun k=>k=bV) (.slice (some ⟨bV,0,none⟩) n cV) Vc)∧Aside0 (Kd.R Kd.bool 4 w' w0.heap.size (fun k=>k=bB) (.slice (some ⟨bB,0,none⟩) n cB) Bc)∧Aside0 (Kd.Q (Kd.int .i64) 3 w' w0.heap.size (fun k=>w.heap.size≤k∧k≠bV∧k≠bB) v4 Qc)∧Aside0 (Below w0.heap.size w0 w')∧Aside0 (Kept w w' (fun k=>k=g))∧Aside0 (w'.cell? ⟨bE,x,none⟩=some (.slice A row.length c)))
   case atStart=>exact⟨[],row,Bc,Vc,Qr,rfl,⟨rfl⟩,⟨rfl⟩,H2,HS,HV,HBr,HQ2,HB,HK,HA⟩
   case round=>
    clear HS HV HBr HQ2 HB HK HA H2;obtain⟨pre,suf,Bc,Vc,Qc,rfl,HR,HM,H2,HS,HV,HBr,HQ,HB,HK,HA⟩:=hrel;cases H2.out with
    |nil=>
     have hl:row.length=pre.length:=by rw[HR.out,List.length_append,List.length_nil];omega
     have ht:decide ((pre.length:Int)<(row.length:Int))=false:=decide_eq_false (by omega);have ht2:decide (pre.length<row.length)=false:=decide_eq_false (by omega);clear hl;go_wp2
     go_roundg k1
     case measure=>omega
     case rel=>exact⟨B1,V1,Q1,H3,HS,HV,HBr,HQ,HB,HK⟩
    | @skip e y es _ _ _ _ _ _ l b h1 h2 h3 h4 hvy h5=>
     have hC:=HS.out.row H1.out HA.out;have hrow:row[pre.length]?=some (e:Int):=by rw[HR.out,List.getElem?_append_right (Nat.le_refl _),Nat.sub_self];rfl
     obtain⟨ade,rfl,hee⟩:=elem_at hC hrow;have hlt:pre.length<row.length:=(List.getElem?_eq_some_iff.1 hrow).1;have hmx:row.length≤9223372036854775807:=Kd.C_max hC;have ht:decide ((pre.length:Int)<(row.length:Int))=true:=decide_eq_true (by omega);have ht2:decide (pre.length<row.length)=true:=decide_eq_true hlt;obtain⟨c0,c1,c2,c3,c4'⟩:=HS.out.cells;rw[sl_of HS.out.t h2]at c1;rw[sl_of HS.out.l h1]at c2;obtain⟨gl,_⟩:=int_at' HS.out.l h1;obtain⟨gt,_⟩:=int_at' HS.out.t h2;obtain⟨gb,gbf⟩:=bool_at HBr.out h3;have be1:e<nL:=by have q:=(List.getElem?_eq_some_iff.1 h1).1;have q2:=(Kd.R_reads' HS.out.l).1;omega
     have be2:e<nT:=by have q:=(List.getElem?_eq_some_iff.1 h2).1;have q2:=(Kd.R_reads' HS.out.t).1;omega
     have be3:y<n:=by have q:=(List.getElem?_eq_some_iff.1 h3).1;have q2:=(Kd.R_reads' HBr.out).1;omega
     have H5:=Aside0.mk h5;have fin: ∀ {Jn:Nat},True:=fun {_}=>trivial
     clear fin hC hrow h1 h2 h3 h5 H2 hvy
     by_cases hl:l≤0
     ·have q1:decide (0<l)=false:=decide_eq_false (by omega);have q2:decide (l>0)=false:=decide_eq_false (by omega);clear h4;go_wp2
      go_roundg es.length
      case measure=>have:=HM.out;rw[this,List.length_cons];omega
      case rel=>exact⟨pre++[(e:Int)],es,Bc,Vc,Qc,by rw[List.length_append];rfl,⟨by rw[HR.out,List.append_assoc];rfl⟩,⟨rfl⟩,H5,HS,HV,HBr,HQ,HB,HK,HA⟩
     ·have hb:b=true:=h4.resolve_left hl;subst hb;have q1:decide (0<l)=true:=decide_eq_true (by omega);have q2:decide (l>0)=true:=decide_eq_true (by omega);clear h4 hl;go_wp2
      go_roundg es.length
      case measure=>have:=HM.out;rw[this,List.length_cons];omega
      case rel=>exact⟨pre++[(e:Int)],es,Bc,Vc,Qc,by rw[List.length_append];rfl,⟨by rw[HR.out,List.append_assoc];rfl⟩,⟨rfl⟩,H5,HS,HV,HBr,HQ,HB,HK,HA⟩
    | @take e y es _ _ _ _ _ _ l a h1 h2 h3 h4 h5 h6 h7 h8 hbx h9 h10 h11=>
     have hC:=HS.out.row H1.out HA.out;have hrow:row[pre.length]?=some (e:Int):=by rw[HR.out,List.getElem?_append_right (Nat.le_refl _),Nat.sub_self];rfl
     obtain⟨ade,rfl,hee⟩:=elem_at hC hrow;have hlt:pre.length<row.length:=(List.getElem?_eq_some_iff.1 hrow).1;have hmx:row.length≤9223372036854775807:=Kd.C_max hC;have ht:decide ((pre.length:Int)<(row.length:Int))=true:=decide_eq_true (by omega);have ht2:decide (pre.length<row.length)=true:=decide_eq_true hlt;obtain⟨c0,c1,c2,c3,c4'⟩:=HS.out.cells;rw[sl_of HS.out.t h2]at c1;rw[sl_of HS.out.l h1]at c2;obtain⟨gl,_⟩:=int_at' HS.out.l h1;obtain⟨gt,_⟩:=int_at' HS.out.t h2;obtain⟨gb,gbf⟩:=bool_at HBr.out h3;have be1:e<nL:=by have q:=(List.getElem?_eq_some_iff.1 h1).1;have q2:=(Kd.R_reads' HS.out.l).1;omega
     have be2:e<nT:=by have q:=(List.getElem?_eq_some_iff.1 h2).1;have q2:=(Kd.R_reads' HS.out.t).1;omega
     have be3:y<n:=by have q:=(List.getElem?_eq_some_iff.1 h3).1;have q2:=(Kd.R_reads' HBr.out).1;omega
     have q1:decide (0<l)=true:=decide_eq_true h4;have q2:decide (l>0)=true:=decide_eq_true h4;have HH2:=Aside0.mk h2;have HH5:=Aside0.mk h5;have H11:=Aside0.mk h11;have HQl:=Aside0.mk h8;have hNB:N≤bB:=Nat.le_trans HN.out HbB.out.1
     have HS1:=Aside0.mk (HS.out.far (b:=bB) (i:=y) hNB (.bool true));have HV1:=Aside0.mk (Kd.R_far HV.out (p:=⟨bB,y,none⟩) (fun k hk he=>HbB.out.2 (he.symm.trans hk)) (.bool true));have HBr1:=Aside0.mk (show Kd.R Kd.bool 4 (wr.setCell ⟨bB,y,none⟩ (.bool true)) w0.heap.size (fun k=>k=bB) (.slice (some ⟨bB,0,none⟩) n cB) (Bc.set y true)from Kd.R_putn (enc:=Value.bool) HBr.out (y:Int) true);have HQ1:=Aside0.mk (Kd.Q_far HQ.out (p:=⟨bB,y,none⟩) (fun k hk=>hk.2.2) (.bool true));have HB1:=Aside0.mk (below_set (j:=y) (v:= .bool true) HB.out (Nat.le_trans HBN.out HbB.out.1));have HK1:=Aside0.mk (Kept.setCell HK.out (p:=⟨bB,y,none⟩) (.inr HbB.out.1) (.bool true));have HA1:=Aside0.mk (cell_far (b:=bB) (i:=y) (u:= .bool true) HA.out (by have:=HS.out.ltE;show bE≠bB;omega));obtain⟨d0,d1,d2,d3,d4⟩:=HS1.out.cells;rw[sl_of HS1.out.t h2]at d1;obtain⟨gt1,_⟩:=int_at' HS1.out.t h2;obtain⟨gv1,_⟩:=int_at HV1.out h5;have hxv:x<n:=hxn;clear hC hrow h1 h2 h3 h5 h11 H2 h8;clear hNB;go_wp2;refine still_tail_ 19 (by kernel_rfl) (by kernel_rfl) (fun W hW=>?_);have HS2:=Aside0.mk (show Rs N w0.heap.size g bE n cE bT nT cT bL nL cL E T (.slice (some ⟨bV,0,none⟩) n cV) vX W L from by rw[hW];exact HS1.out.below (pw_below_drewN (Below.refl _ _) _));have HV2:=Aside0.mk (show Kd.R (Kd.int .i64) 3 W w0.heap.size (fun k=>k=bV) (.slice (some ⟨bV,0,none⟩) n cV) Vc from by rw[hW];exact Kd.R_drewN HV1.out _);have HBr2:=Aside0.mk (show Kd.R Kd.bool 4 W w0.heap.size (fun k=>k=bB) (.slice (some ⟨bB,0,none⟩) n cB) (Bc.set y true)from by rw[hW];exact Kd.R_drewN HBr1.out _);have HQ2:=Aside0.mk (show Kd.Q (Kd.int .i64) 3 W w0.heap.size (fun k=>w.heap.size≤k∧k≠bV∧k≠bB) u4 Qc from by rw[hW];exact Kd.Q_drewN HQ1.out _);have HB2:=Aside0.mk (show Below w0.heap.size w0 W from by rw[hW];exact pw_below_drewN HB1.out _);have HK2:=Aside0.mk (show Kept w W (fun k=>k=g)from by rw[hW];exact HK1.out);have HA2:=Aside0.mk (show W.cell? ⟨bE,x,none⟩=some (.slice (some ade) row.length c)from by rw[hW];exact HA1.out);clear hW HS HV HBr HQ HB HK HA HS1 HV1 HBr1 HQ1 HB1 HK1 HA1 d0 d1 d2 d3 d4 gt1 gv1 c0 c1 c2 c3 c4' gl gt gb gbf hee;obtain⟨d0,d1,d2,d3,d4⟩:=HS2.out.cells;rw[sl_of HS2.out.t HH2.out]at d1;obtain⟨gt1,_⟩:=int_at' HS2.out.t HH2.out;obtain⟨gv1,_⟩:=int_at HV2.out HH5.out;obtain⟨_,gvf⟩:=int_at HV2.out (gG h10);have HNV:=Aside0.mk (Nat.le_trans HN.out HbV.out);have HS3:=Aside0.mk (HS2.out.far (b:=bV) (i:=y) HNV.out (.int .i64 (a+1)));have HV3:=Aside0.mk (show Kd.R (Kd.int .i64) 3 (W.setCell ⟨bV,y,none⟩ (.int .i64 (a+1))) w0.heap.size (fun k=>k=bV) (.slice (some ⟨bV,0,none⟩) n cV) (Vc.set y (a+1))from Kd.R_putn (enc:=Value.int .i64) HV2.out (y:Int) (a+1));have HBr3:=Aside0.mk (Kd.R_far HBr2.out (p:=⟨bV,y,none⟩) (fun k hk he=>HbB.out.2 (hk.symm.trans he)) (.int .i64 (a+1)));have HQ3:=Aside0.mk (Kd.Q_far HQ2.out (p:=⟨bV,y,none⟩) (fun k hk=>hk.2.1) (.int .i64 (a+1)));have HB3:=Aside0.mk (below_set (j:=y) (v:= .int .i64 (a+1)) HB2.out (Nat.le_trans HBN.out HbV.out));have HK3:=Aside0.mk (Kept.setCell HK2.out (p:=⟨bV,y,none⟩) (.inr HbV.out) (.int .i64 (a+1)));have HA3:=Aside0.mk (cell_far (b:=bV) (i:=y) (u:= .int .i64 (a+1)) HA2.out (by have:=HS2.out.ltE;have:=HNV.out;show bE≠bV;omega));have HH10:=Aside0.mk h10;have hwr:IntKind.i64.wrap (a+1)=a+1:=by rw[i64_w];unfold wrap64;omega
     clear h10;simp only[List.take_succ_cons,List.take_zero,List.drop_succ_cons,List.drop_zero]
     repeat still_step
     refine wpStill_nil ?_;clear hwr
     go_wp2_with(first
      |((with_reducible refine gate_store (t:=3) (p:=95) rfl ?_);refine store_event (t:=3) (p:=95) (v:=?vo_w3) (w1:=(W.setCell ⟨bV,y,none⟩ (.int .i64 (a+1)))) ?hg ?ho ?hn ?hr ?_;(case ho=>rfl);(case hg=>rfl);(case hn=>rfl);(case hr=>first|(go_simp;done)|(go_simp;rfl));
        intro W3 hw;rw[←hw]at HS3 HV3 HBr3 HQ3 HB3 HK3 HA3;clear hw HS2 HV2 HBr2 HQ2 HB2 HK2 HA2 d0 d1 d2 d3 d4 gt1 gv1 gvf;obtain⟨e0,e1,e2,e3,e4⟩:=HS3.out.cells;rw[sl_of HS3.out.t HH2.out]at e1;obtain⟨gt2,_⟩:=int_at' HS3.out.t HH2.out;have HF:=Aside0.mk (show∀k,W3.heap.size≤k→w.heap.size≤k∧k≠bV∧k≠bB from fun k hk=>(by
         have q1:=Kd.R_lt HV3.out bV (by simp[Value.ownBlock]);have q2:=Kd.R_lt HBr3.out bB (by simp[Value.ownBlock]);have q3:=HK3.out.1;exact⟨by omega,by omega,by omega⟩)))
      |((with_reducible refine gate_builtin (b:= .append) (xs:= #[.tmp 96,.tmp 104]) rfl ?_);at_builtin;
        refine Kd.Q_append (Kd.int .i64) (w0:=w0) w0.heap.size rfl (.tmp 96) (.tmp 104) 24 3 (.int .i64 0) 8 rfl Try.underlying24 infoI rfl (by decide) (by omega) u4 Qc (y:Int) [.int .i64 (y:Int)] (fun k=>w.heap.size≤k∧k≠bV∧k≠bB) (fun _=>False) rfl rfl rfl (fun _ hk=>hk.elim) HF.out HQ3.out HB3.out (below_size HB3.out) (by have:=HQl.out;omega) ?_;intro v5 w5 ho hb hg hat;have HS5:=Aside0.mk (HS3.out.grown hg (fun k hk=>Nat.le_trans HN.out (HQ3.out.1 k hk).1));have HV5:=Aside0.mk (Kd.R_grown HV3.out hg (fun k hk he=>(HQ3.out.1 k he.symm).2.1 hk));have HBr5:=Aside0.mk (Kd.R_grown HBr3.out hg (fun k hk he=>(HQ3.out.1 k he.symm).2.2 hk));have HA5:=Aside0.mk (cell_gr HA3.out hg (fun he=>(by have q1:=(HQ3.out.1 bE he.symm).1;have q2:=HS3.out.ltE;have q3:=HN.out;omega)));have HK5:=Aside0.mk (Kept.of_grown hg HK3.out (fun k hk=> .inr (HQ3.out.1 k hk).1));have HQ5:=Aside0.mk ho;have HB5:=Aside0.mk hb;clear ho hb hg hat HS3 HV3 HBr3 HA3 HK3 HQ3 HB3 HF e0 e1 e2 e3 e4 gt2))
     go_roundg es.length
     case measure=>have:=HM.out;rw[this,List.length_cons];omega
     case rel=>exact⟨pre++[(e:Int)],es,Bc.set y true,Vc.set y (a+1),Qc++[(y:Int)],by rw[List.length_append];rfl,⟨by rw[HR.out,List.append_assoc];rfl⟩,⟨rfl⟩,H11,HS5,HV5,HBr5,HQ5,HB5,HK5,HA5⟩
end Go.Proofs.Ytlkppimbbbdmbaa.Res
namespace Go.Proofs.Ytlkppimbbbdmbaa.Res
open Go.RowKit Go.Proofs.YtlkppimbbbdmbaaW.PrintWords Go.Proofs.YtlkppimbbbdmbaaW.PrintLast Go.Proofs.YtlkppimbbbdmbaaW.PrintMore Go.Proofs.Ytlkppimbbbdmbaa.Flow
set_option linter.unusedVariables false
set_option linter.unusedSimpArgs false
section
variable {N base g bE n cE bT nT cT bL nL cL bV cV bX cX:Nat} {E:List (List Int)} {T V L L2 X:List Int} {vV vX:Value} {w w1:World}
theorem Rs.toSt (S:Rs N base g bE n cE bT nT cT bL nL cL E T (.slice (some ⟨bV,0,none⟩) n cV) (.slice (some ⟨bX,0,none⟩) n cX) w L) (hv:Kd.R (Kd.int .i64) 3 w base (fun k=>k=bV) (.slice (some ⟨bV,0,none⟩) n cV) V) (hx:Kd.R (Kd.int .i64) 3 w base (fun k=>k=bX) (.slice (some ⟨bX,0,none⟩) n cX) X) (hV:N≤bV) (hX:N≤bX) (hne:bV≠bX) (h0:nT≠0∧nL≠0):
  St base g bE n cE bT nT cT bL nL cL bV n cV bX n cX E T V w L X:=
 by
 obtain⟨s1,s2,s3,s4,s5,s6,s7,s8,s9⟩:=S;rw[sl_pos h0.1]at s1 s3;rw[sl_pos h0.2]at s1 s4;exact⟨s1,Kd.R_mono s2 (fun k hk=>⟨hk.1,by have:=hk.2;omega⟩),Kd.R_mono s3 (fun k hk=>⟨hk.1,by have:=hk.2;omega⟩),s4,Kd.R_mono hv (fun k hk=>by have:=s7 h0.2;exact⟨by omega,by omega⟩),hx,s5,by have:=s6;omega,by have:=s7 h0.2;omega⟩
theorem Rs.push (S:Rs N base g bE n cE bT nT cT bL nL cL E T (.slice (some ⟨bV,0,none⟩) n cV) (.slice (some ⟨bX,0,none⟩) n cX) w L) (hk:Kept w w1 (fun k=>k=bL∨k=bX)) (hS:St base g bE n cE bT nT cT bL nL cL bV n cV bX n cX E T V w1 L2 X) (hX:N≤bX) (h0:nT≠0∧nL≠0):
  Rs N base g bE n cE bT nT cT bL nL cL E T (.slice (some ⟨bV,0,none⟩) n cV) (.slice (some ⟨bX,0,none⟩) n cX) w1 L2:=
 ⟨by rw[sl_pos h0.1,sl_pos h0.2];exact hS.box,Kd.R_kept S.e hk (fun k h1 h2=>by have:=h1.2;rcases h2 with h2|h2<;>omega),Kd.R_kept S.t hk (fun k h1 h2=>by have:=h1.2;rcases h2 with h2|h2<;>omega),by rw[sl_pos h0.2];exact hS.l,S.gL,S.gN,S.LN,S.gb,Nat.le_trans S.NS hk.1⟩
end
def RunPost (N g bE n cE bT nT cT bL nL cL:Nat) (E:List (List Int)) (T L':List Int) (s':Int) (w0 w:World) (e:Ending) (w':World):Prop:=
 ∃vV vX,e= .returned (.int .i64 s')∧Rs N w0.heap.size g bE n cE bT nT cT bL nL cL E T vV vX w' L'∧Below w0.heap.size w0 w'∧Kept w w' (fun k=>k=g∨k=bL)
set_option maxHeartbeats 8000000 in
set_option maxRecDepth 100000 in
theorem run_calls {N g bE n cE bT nT cT bL nL cL:Nat} {E:List (List Int)} {T L:List Int} {vV vX:Value} (hn2:2≤n) (hn3:n≤1000000) (hnL:nL≤4000000) (w0 w:World) (hB:Below w0.heap.size w0 w) (hS:Rs N w0.heap.size g bE n cE bT nT cT bL nL cL E T vV vX w L) {k:Nat} {L':List Int} {s':Int} (h:Run n E T (fun _ V=>V) 1152921504606846976 k L 0 L' s'):
  Calls Try.prog 87 #[.pointer (some ⟨g,0,none⟩)] w (RunPost N g bE n cE bT nT cT bL nL cL E T L' s' w0 w):=by
 have HS:=Aside0.mk hS;have HB:=Aside0.mk hB;have H:=Aside0.mk h;have HK:=Aside0.mk (Kept.refl w (fun k=>k=g∨k=bL));have HNw:=Aside0.mk (show w.heap.size≤w.heap.size from Nat.le_refl _);clear hS hB h
 go_enter Try.func87,Try.ntmps87
 go_wp2
 go_loopg [3] k (fun kq v3 w'=> ∃(Lc:List Int) (sc:Int) (vV vX:Value),v3= .int .i64 sc∧Aside0 (Run n E T (fun _ V=>V) 1152921504606846976 kq Lc sc L' s')∧Aside0 (Rs N w0.heap.size g bE n cE bT nT cT bL nL cL E T vV vX w' Lc)∧Aside0 (Below w0.heap.size w0 w')∧Aside0 (Kept w w' (fun k=>k=g∨k=bL)))
 case atStart=>exact⟨L,0,vV,vX,rfl,H,HS,HB,HK⟩
 case round=>
  clear HS HB HK H;obtain⟨Lc,sc,vV,vX,rfl,H,HS,HB,HK⟩:=hrel
  go_wp2_with fail
  have hHd:=HS.out.cells.1;refine start_ (n:=10) (S:=fun w'=>w'.cell? ⟨g,0,none⟩=some (.slice (some ⟨bE,0,none⟩) n cE)) (ds:=[9]) #[false,false,false,false,false,false,false,false,false,false] (by kernel_rfl) rfl rfl hHd (fun hHeld=>?_);clear hHd;have HS1:=Aside0.mk (HS.out.below (below_drew (Below.refl _ _)));have HB1:=Aside0.mk (below_drew HB.out);have HK1:=Aside0.mk (show Kept w wr.drew (fun k=>k=g∨k=bL)from HK.out);clear HS HB HK;generalize wr.drew=W at HS1 HB1 HK1 hHeld⊢;refine pv_ 0 (some 5) ?_;refine pv_ 2 (some 7) ?_;refine pv_ 3 (some 8) ?_;refine pv_ 4 (some 9) ?_;refine tv1_ hHeld 5 (some 10) ?_;refine pv_ 6 (some 11) ?_;refine pv_ 7 (some 12) ?_;refine ov_ 1 (some 6) (fun K hK=>?_);have hBfs: ∃(k1:Nat) (B:List Bool) (V:List Int) (b:Bool),Bfs E T Lc k1 (B0 n) (List.replicate n 0) [0] B V∧B[n-1]?=some b∧((b=false∧Lc=L'∧sc=s')∨(b=true∧(∀(z:Nat) (a:Int),V[z]?=some a→ -1≤a∧a≤1000000)∧V.length=n∧ ∃L1 s1 kq,kq<gk∧Phase n E T V 1152921504606846976 kq Lc (List.replicate n 0) sc L1 s1∧Run n E T (fun _ V=>V) 1152921504606846976 kq L1 s1 L' s')):=by
   cases H.out with
   |stop h1 h2=>exact⟨_,_,_,_,h1,h2,.inl ⟨rfl,rfl,rfl⟩⟩
   |more h1 h2 _ h3 h4 h5 h6=>exact⟨_,_,_,_,h1,h2,.inr ⟨rfl,h3,h4,_,_,_,Nat.lt_succ_self _,h5,h6⟩⟩
  obtain⟨k1,B,V,b,hbf,hBn,hcase⟩:=hBfs;have HC:=Aside0.mk hcase;have HBF:=Aside0.mk hbf;have HBN:=Aside0.mk hBn;have HNE:=Aside0.mk (show b=true→nT≠0∧nL≠0 from fun hb=>by
   subst hb;have q:=bfs_some hn2 hbf hBn;have e1:=(Kd.R_reads' HS1.out.t).1;have e2:=(Kd.R_reads' HS1.out.l).1;exact⟨by omega,by omega⟩)
  clear hcase hbf hBn H;refine goes_ Try.func88 (by kernel_rfl) rfl #[.pointer (some ⟨g,0,none⟩)] (by rfl) rfl rfl (by(try simp only[List.map_toArray,List.map_cons,List.map_nil]);first|done|rfl) ?_;refine(from_calls (by omega) hn3 w0 _ HB1.out HS1.out HBF.out).mono ?_;rintro e2 w2 ⟨vB,bV,cV,rfl,hb,hv,hbV,hs,hB2,hK2⟩;refine⟨_,rfl,?_⟩;refine hK.out _ _ hs.cells.1 (fun hHeld2=>?_);clear hK K hHeld;refine nr_ (some 6) ?_;have hlb:n-1<B.length:=(List.getElem?_eq_some_iff.1 HBN.out).1;obtain⟨bB,cB,eB,hB1,hB3,_⟩:=Kd.R_form hb (by omega);subst eB;have hcell:=(bool_at hb HBN.out).1;have hi0:0≤(n:Int)-1:=by omega
  have hi1:(n:Int)-1<(B.length:Int):=by omega
  have hi2:((n:Int)-1).toNat=n-1:=by omega
  have hi5:(1:Int)≤(n:Int):=by omega
  have hw64:wrap64 ((n:Int)-1)=(n:Int)-1:=by unfold wrap64;omega
  have hi3:decide ((n:Int)-1<(B.length:Int))=true:=decide_eq_true hi1;have hi4:decide (0≤(n:Int)-1)=true:=decide_eq_true hi0;have HV2:=Aside0.mk hv;have HbV:=Aside0.mk hbV;have HS2:=Aside0.mk hs;have HB2:=Aside0.mk hB2;have HK2:=Aside0.mk (Kept.then_ HK1.out hK2 (fun k h=> .inl (.inl h)));have HNW:=Aside0.mk HS1.out.NS;clear hv hbV hs hB2 hK2 HS1 HB1 HK1 hb hB1 hB3;refine pv_ 8 (some 13) ?_;refine last_ (i:=9) (N:=some 14) #[true,true,true,true,true,true,true,true,true,true] rfl rfl (by kernel_rfl) (by decide) (fun K hK=>?_);refine value_ (N:=some 14) (v:= .bool b) (w1:=w2) (by rfl) rfl (by first|(go_simp;done)|(go_simp;exact⟨rfl,rfl⟩)) ?_;refine hK.out _ _ ?_;clear hK K;refine nr_ (some 14) ?_;refine done_ (by kernel_rfl) ?_;clear hcell hi0 hi1 hi2 hi3 hi4 hi5 hw64
  rcases HC.out with⟨rfl,rfl,rfl⟩|⟨rfl,hVb,hVl,L1,s1,kq,hkq,hph,hrun⟩
  ·go_wp2_with fail
   go_ret
   exact⟨_,_,rfl,HS2.out,HB2.out,HK2.out⟩
  ·have HVb:=Aside0.mk hVb;have HVl:=Aside0.mk hVl;have HPH:=Aside0.mk hph;have HRUN:=Aside0.mk hrun;clear hVb hVl hph hrun HC;obtain⟨c0,c1,c2,c3,c4⟩:=HS2.out.cells;have f4:=HS2.out.free 4
   go_wp2_with(first
    |((with_reducible refine gate_dst (N:=21) rfl ?_);refine Kd.R_make (Kd.int .i64) (w0:=w0) w0.heap.size 3 rfl (N:=21) rfl 24 _ _ rfl (n:Int) rfl rfl Try.underlying24 (.int .i64 0) 8 infoI rfl (by decide) (by omega) 0 (ok:=fun k=>w2.heap.size≤k) (okp:=fun _=>False) rfl (fun _ hk=>hk.elim) (Nat.le_refl _) (by omega) (by omega) HB2.out (below_size HB2.out) ?_;intro v3 w3 ho hb hg hnew;
      rw[Int.toNat_natCast]at ho;obtain⟨bX,cX,e1,hv1,hv2,_⟩:=Kd.R_form ho (by rw[List.length_replicate];omega);rw[List.length_replicate]at e1;subst e1;have hbX:=ho.1 bX (by simp[Value.ownBlock]);have HS3:=Aside0.mk (HS2.out.grown hg (fun _ h=>by cases h));have HV3:=Aside0.mk (Kd.R_grown HV2.out hg (fun _ _ h=>by cases h));have HX3:=Aside0.mk (Kd.R_mono (ok':=fun k=>k=bX) (Kd.R_tight rfl ho) (fun k hk=>by simpa [Value.ownBlock]using hk));have HB3:=Aside0.mk hb;have HK3:=Aside0.mk (Kept.of_grown hg HK2.out (fun _ h=>by cases h));have HbX:=Aside0.mk (show N≤bX∧bV≠bX∧w.heap.size≤bX from⟨Nat.le_trans HS2.out.NS hbX,fun he=>(by have:=Kd.R_lt HV2.out bV (by simp[Value.ownBlock]);omega),Nat.le_trans HK2.out.1 hbX⟩);clear ho hb hg hnew hv1 hv2 hbX c0 c1 c2 c3 c4 f4 HS2 HV2 HB2 HK2;obtain⟨c0,c1,c2,c3,c4⟩:=HS3.out.cells;have f4:=HS3.out.free 4))
   have HS4:=Aside0.mk (HS3.out.setX (.slice (some ⟨bX,0,none⟩) n cX));have HV4:=Aside0.mk (Kd.R_set HV3.out HS3.out.box (by decide) 4 (.slice (some ⟨bX,0,none⟩) n cX));have HX4:=Aside0.mk (Kd.R_set HX3.out HS3.out.box (by decide) 4 (.slice (some ⟨bX,0,none⟩) n cX));have HB4:=Aside0.mk (below_set (j:=4) (v:= .slice (some ⟨bX,0,none⟩) n cX) HB3.out HS3.out.gb);have HK4:=Aside0.mk (Kept.setCell HK3.out (p:=⟨g,4,none⟩) (.inl (.inl rfl)) (.slice (some ⟨bX,0,none⟩) n cX));have HbVN:=Aside0.mk (Nat.le_trans HNW.out HbV.out);have HT4:=Aside0.mk (HS4.out.toSt HV4.out HX4.out HbVN.out HbX.out.1 HbX.out.2.1 (HNE.out (by simp)));clear c0 c1 c2 c3 c4 f4 HS3 HV3 HX3 HB3 HK3 HV4 HX4
   go_loopg [3] kq (fun kq v3 w'=> ∃(Lc Xc:List Int) (sc:Int),v3= .int .i64 sc∧Aside0 (Phase n E T V 1152921504606846976 kq Lc Xc sc L1 s1)∧Aside0 (St w0.heap.size g bE n cE bT nT cT bL nL cL bV n cV bX n cX E T V w' Lc Xc)∧Aside0 (Rs N w0.heap.size g bE n cE bT nT cT bL nL cL E T (.slice (some ⟨bV,0,none⟩) n cV) (.slice (some ⟨bX,0,none⟩) n cX) w' Lc)∧Aside0 (Below w0.heap.size w0 w')∧Aside0 (Kept w w' (fun k=>k=g∨k=bL)))
   case atStart=>exact⟨Lc,List.replicate n 0,sc,rfl,HPH,HT4,HS4,HB4,HK4⟩
   case round=>
    clear HPH HT4 HS4 HB4 HK4;obtain⟨wo,rfl⟩: ∃wo:World,wo=wr:=⟨_,rfl⟩;obtain⟨Lc,Xc,sc,rfl,HPH,HT,HS,HB,HK⟩:=hrel;cases HPH.out with
    |stop hp=>
     have HP:=Aside0.mk hp;clear hp HPH
     go_wp2_with fail
     refine(show Calls Try.prog 139 #[.pointer (some ⟨g,0,none⟩),.int .i64 0,.int .i64 1152921504606846976] wo _ from push_calls hn2 hn3 HVb.out HVl.out hnL HP.out w0 wo (by omega) (by omega) rfl HB.out HT.out).mono ?_;rintro e3 w4 ⟨rfl,hb,hk,hs⟩;have HS5:=Aside0.mk (HS.out.push hk hs HbX.out.1 (HNE.out (by simp)));have HB5:=Aside0.mk hb;have HT5:=Aside0.mk hs;have HK5:=Aside0.mk (Kept.then_ HK.out hk (fun k h=>h.elim (fun h=> .inl (.inr h)) (fun h=> .inr (by rw[h];exact HbX.out.2.2))));clear hb hk hs HB HT HS HK
     go_wp2_with fail
     go_roundg kq
     case measure=>exact hkq
     case rel=>exact⟨L1,s1,_,_,rfl,HRUN,HS5,HB5,HK5⟩
    | @more k2 _ _ _ r L2 X2 _ _ hp h0 h1 h2 h3=>
     have HP:=Aside0.mk hp;have H3:=Aside0.mk h3;have hr0:(r==0)=false:=by rw[beq_eq_false_iff_ne];omega
     clear hp h3 HPH
     go_wp2_with fail
     refine(show Calls Try.prog 139 #[.pointer (some ⟨g,0,none⟩),.int .i64 0,.int .i64 1152921504606846976] wo _ from push_calls hn2 hn3 HVb.out HVl.out hnL HP.out w0 wo (by omega) (by omega) rfl HB.out HT.out).mono ?_;rintro e3 w4 ⟨rfl,hb,hk,hs⟩;have HS5:=Aside0.mk (HS.out.push hk hs HbX.out.1 (HNE.out (by simp)));have HB5:=Aside0.mk hb;have HT5:=Aside0.mk hs;have HK5:=Aside0.mk (Kept.then_ HK.out hk (fun k h=>h.elim (fun h=> .inl (.inr h)) (fun h=> .inr (by rw[h];exact HbX.out.2.2))));clear hb hk hs HB HT HS HK
     go_wp2_with fail
     go_roundg k2
     case measure=>omega
     case rel=>exact⟨L2,X2,sc+r,rfl,H3,HT5,HS5,HB5,HK5⟩
end Go.Proofs.Ytlkppimbbbdmbaa.Res
