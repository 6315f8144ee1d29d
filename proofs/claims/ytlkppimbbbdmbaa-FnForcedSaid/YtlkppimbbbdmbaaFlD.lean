/- What a network's rows are while they are built: each block has a colour; an append to one row leaves the others. -/
import Derived.Test.YtlkppimbbbdmbaaFlB
import Derived.Test.YtlkppimbbbdmbaaWTight
namespace Go.Proofs.Ytlkppimbbbdmbaa.Res
open Go.RowKit Go.Proofs.YtlkppimbbbdmbaaW.PrintWords Go.Proofs.YtlkppimbbbdmbaaW.PrintLast Go.Proofs.YtlkppimbbbdmbaaW.PrintMore Go.Proofs.Ytlkppimbbbdmbaa.Flow
set_option linter.unusedVariables false
set_option linter.unusedSimpArgs false
structure Bd (base bE n cE:Nat) (col:Nat→Nat) (vT vL:Value) (E:List (List Int)) (T L:List Int) (w:World):Prop where
  s:Kd.S (Kd.slice 3 (Kd.int .i64)) 24 w base (fun k=>col k=0) (.slice (some ⟨bE,0,none⟩) n cE) E
  t:Kd.R (Kd.int .i64) 3 w base (fun k=>col k=1) vT T
  l:Kd.R (Kd.int .i64) 3 w base (fun k=>col k=2) vL L
def recol (col:Nat→Nat) (N x:Nat):Nat→Nat:=fun k=>if N≤k then x else col k
theorem recol_old {col:Nat→Nat} {N x k y:Nat} (h:k<N) (hc:col k=y):recol col N x k=y:=by unfold recol;rw[if_neg (by omega)];exact hc
theorem recol_new {col:Nat→Nat} {N x k:Nat} (h:N≤k):recol col N x k=x:=by unfold recol;rw[if_pos h]
section
variable {base bE n cE:Nat} {col:Nat→Nat} {vT vL vT1:Value} {E:List (List Int)} {T L T1:List Int} {w w1 W:World}
theorem Bd.below (S:Bd base bE n cE col vT vL E T L w) (hb:Below w.heap.size w w1):Bd base bE n cE col vT vL E T L w1:=⟨Kd.S_below S.s hb,Kd.R_below S.t hb,Kd.R_below S.l hb⟩
theorem Bd.typed (S:Bd base bE n cE col vT vL E T L w) {g t:Nat} {cells:Array Value} (hb:w.heap[g]?=some (.cells cells t (0,0))) (h1:24≠t) (h2:3≠t) (j:Nat) (u:Value):Bd base bE n cE col vT vL E T L (w.setCell ⟨g,j,none⟩ u):=
  ⟨Kd.S_set S.s hb (fun q hq=>by
      rcases List.mem_cons.1 hq with rfl|hq
      · exact h1
      · have:q=3:=by simpa [Kd.slice,Kd.int,Kd.scalar]using hq
        subst this;exact h2) j u,
   Kd.R_set S.t hb (fun q hq=>by
      have:q=3:=by simpa [Kd.int,Kd.scalar]using hq
      subst this;exact h2) j u,
   Kd.R_set S.l hb (fun q hq=>by
      have:q=3:=by simpa [Kd.int,Kd.scalar]using hq
      subst this;exact h2) j u⟩
theorem Bd.colE (S:Bd base bE n cE col vT vL E T L w):col bE=0:=(Kd.S_R S.s).1 bE (by simp[Value.ownBlock])
theorem Bd.len (S:Bd base bE n cE col vT vL E T L w):E.length=n:=((Kd.S_reads' S.s).1).symm
theorem Bd.appT (S:Bd base bE n cE col vT vL E T L W) (ho:Kd.R (Kd.int .i64) 3 w1 base (fun k=>col k=1∨W.heap.size≤k) vT1 T1) (hg:W.grownBy w1 vT.ownBlock):Bd base bE n cE (recol col W.heap.size 1) vT1 vL E T1 L w1:=by
  have hr: ∀k,vT.ownBlock=some k→col k=1:=fun k hk=>S.t.1 k hk
  refine⟨Kd.S_mono (Kd.S_grown (Kd.S_bound S.s) hg (fun k hk he=>by have:=hr k he.symm;have:=hk.1;omega)) (fun k hk=>recol_old hk.2.2.1 hk.1),Kd.R_mono (Kd.R_bound ho) (fun k hk=>?_),Kd.R_mono (Kd.R_grown (Kd.R_bound S.l) hg (fun k hk he=>by have:=hr k he.symm;have:=hk.1;omega)) (fun k hk=>recol_old hk.2.2.1 hk.1)⟩
  by_cases h:W.heap.size≤k
  · exact recol_new h
  · exact recol_old (by omega) (hk.1.resolve_right h)
theorem Bd.appL (S:Bd base bE n cE col vT vL E T L W) (ho:Kd.R (Kd.int .i64) 3 w1 base (fun k=>col k=2∨W.heap.size≤k) vT1 T1) (hg:W.grownBy w1 vL.ownBlock):Bd base bE n cE (recol col W.heap.size 2) vT vT1 E T T1 w1:=by
  have hr: ∀k,vL.ownBlock=some k→col k=2:=fun k hk=>S.l.1 k hk
  refine⟨Kd.S_mono (Kd.S_grown (Kd.S_bound S.s) hg (fun k hk he=>by have:=hr k he.symm;have:=hk.1;omega)) (fun k hk=>recol_old hk.2.2.1 hk.1),Kd.R_mono (Kd.R_grown (Kd.R_bound S.t) hg (fun k hk he=>by have:=hr k he.symm;have:=hk.1;omega)) (fun k hk=>recol_old hk.2.2.1 hk.1),Kd.R_mono (Kd.R_bound ho) (fun k hk=>?_)⟩
  by_cases h:W.heap.size≤k
  · exact recol_new h
  · exact recol_old (by omega) (hk.1.resolve_right h)
theorem Bd.lend (S:Bd base bE n cE col vT vL E T L W) {x:Nat} {row:List Int} (hx:E[x]?=some row):
    ∃(oki:Nat→Prop) (v:Value),Kd.R (Kd.int .i64) 3 W base oki v row∧W.cell? ⟨bE,x,none⟩=some v∧W.frozen? ⟨bE,x,none⟩=false∧(∀k,v.ownBlock=some k→col k=0∧k≠bE)∧
      ∀ {w1:World} {v1:Value} {row1:List Int},Kd.R (Kd.int .i64) 3 w1 base (fun k=>oki k∨W.heap.size≤k) v1 row1→W.grownBy w1 v.ownBlock→Bd base bE n cE (recol col W.heap.size 0) vT vL (E.set x row1) T L (w1.setCell ⟨bE,x,none⟩ v1):=by
  have hlt:=(List.getElem?_eq_some_iff.1 hx).1
  have hn:=S.len
  have S':Kd.S (Kd.slice 3 (Kd.int .i64)) 24 W base (fun k=>recol col W.heap.size 0 k=0) (.slice (some ⟨bE,0,none⟩) n cE) E:=Kd.S_mono (Kd.S_bound S.s) (fun k hk=>recol_old hk.2.2.1 hk.1)
  have h0:(0:Int)≤(x:Int):=Int.natCast_nonneg _
  have h1:(x:Int)<(n:Int):=by omega
  obtain⟨oki,c,hcl,hM,hcc,hfr,hoki,hH⟩:=Kd.S_elem S' [] (x:Int) h0 h1
  obtain⟨v,rfl,hR⟩:=hM
  rw[Int.toNat_natCast,show E.getD x []=row by rw[List.getD_eq_getElem?_getD,hx];rfl]at hR
  have hc0:=hcc 0 v rfl
  have hf0:=hfr 0
  rw[Int.toNat_natCast]at hc0 hf0
  have esz:x*(Kd.slice 3 (Kd.int .i64)).sz+0=x:=by show x*1+0=x;omega
  rw[esz]at hc0 hf0
  have hown: ∀k,v.ownBlock=some k→col k=0∧k≠bE:=fun k hk=>by
    have q1:=hoki k (hR.1 k hk)
    have q2:=Kd.R_lt hR k hk
    refine⟨?_,q1.2⟩
    have q3:=q1.1
    unfold recol at q3
    rwa [if_neg (by omega)]at q3
  have hbE:bE<W.heap.size:=Kd.S_lt S.s bE (by simp[Value.ownBlock])
  refine⟨oki,v,hR,hc0,hf0,hown,?_⟩
  intro w1 v1 row1 ho hg
  have k1:=Kd.H_widen hH
  have k2:=Kd.H_grown k1 hg (fun k hk=> .inl (hR.1 k hk))
  have k3:=(Kd.S_seg0 k2 h0 h1 (seg:=[v1]) (j:=0) (show 1≤1 by omega) (x':=row1) (okp:=fun k=>oki k∨W.heap.size≤k) (Kd.M_row ho) (fun k hk=>hk.imp_right fun h=>⟨recol_new h,h⟩)).1
  rw[Int.toNat_natCast,esz]at k3
  refine⟨k3,?_,?_⟩
  · have q:=Kd.R_grown (Kd.R_bound S.t) hg (fun k hk he=>by have:=(hown k he.symm).1;have:=hk.1;omega)
    exact Kd.R_mono (Kd.R_far q (p:=⟨bE,x,none⟩) (fun k hk he=>by
      have e1:k=bE:=he
      subst e1;have:=hk.1;have:=S.colE;omega) v1) (fun k hk=>recol_old hk.2.2.1 hk.1)
  · have q:=Kd.R_grown (Kd.R_bound S.l) hg (fun k hk he=>by have:=(hown k he.symm).1;have:=hk.1;omega)
    exact Kd.R_mono (Kd.R_far q (p:=⟨bE,x,none⟩) (fun k hk he=>by
      have e1:k=bE:=he
      subst e1;have:=hk.1;have:=S.colE;omega) v1) (fun k hk=>recol_old hk.2.2.1 hk.1)
end
end Go.Proofs.Ytlkppimbbbdmbaa.Res
namespace Go.Proofs.Ytlkppimbbbdmbaa.Res
open Go.RowKit Go.Proofs.YtlkppimbbbdmbaaW.PrintWords Go.Proofs.YtlkppimbbbdmbaaW.PrintLast Go.Proofs.YtlkppimbbbdmbaaW.PrintMore Go.Proofs.Ytlkppimbbbdmbaa.Flow
set_option linter.unusedVariables false
set_option linter.unusedSimpArgs false
theorem infoII:(Try.prog.info? 24).map (fun i=>(i.zero,i.size,i.bytes))=some (some (.slice none 0 0),1,24):=by kernel_rfl
def EdC (w:World) (A:Option Addr) (es:List Ed):Prop:=ReadsRow (fun(e:Ed) cs=>cs=[.int .i64 e.1,.int .i64 e.2.1,.int .i64 e.2.2]) 3 w A es.length es
theorem ed_at {w:World} {A:Option Addr} {es:List Ed} (h:EdC w A es) {j:Nat} {e:Ed} (hj:es[j]?=some e): ∃ad,A=some ad∧w.cell? (ad.add (j*3))=some (.int .i64 e.1)∧w.cell? ⟨(ad.add (j*3)).block,(ad.add (j*3)).off+1,none⟩=some (.int .i64 e.2.1)∧w.cell? ⟨(ad.add (j*3)).block,(ad.add (j*3)).off+2,none⟩=some (.int .i64 e.2.2):=by
  have hlt:=(List.getElem?_eq_some_iff.1 hj).1
  obtain⟨ad,c,e1,_,hK,hc0⟩:=ReadsRow.get_ h ((0,0,0):Ed) (j:Int) (Int.natCast_nonneg _) (by omega)
  rw[Int.toNat_natCast]at hK hc0
  rw[show es.getD j (0,0,0)=e by rw[List.getD_eq_getElem?_getD,hj];rfl]at hK
  subst hK
  have hc: ∀i u,([Value.int .i64 e.1,.int .i64 e.2.1,.int .i64 e.2.2]:List Value)[i]?=some u→w.cell? (ad.add (j*3+i))=some u:=hc0
  exact⟨ad,e1,hc 0 _ rfl,by rw[←add_field _ _ 1 (by omega)];exact hc 1 _ rfl,by rw[←add_field _ _ 2 (by omega)];exact hc 2 _ rfl⟩
theorem EdC.below {w w1:World} {A:Option Addr} {es:List Ed} (h:EdC w A es) (hb:Below w.heap.size w w1):EdC w1 A es:=ReadsRow.imp_ h hb (fun _ _ hp=>hp)
theorem Bd.fresh {base bE n cE:Nat} {col:Nat→Nat} {vT vL:Value} {E:List (List Int)} {T L:List Int} {w:World} (S:Bd base bE n cE col vT vL E T L w) (x:Nat):Bd base bE n cE (recol col w.heap.size x) vT vL E T L w:=
  ⟨Kd.S_mono (Kd.S_bound S.s) (fun k hk=>recol_old hk.2.2.1 hk.1),Kd.R_mono (Kd.R_bound S.t) (fun k hk=>recol_old hk.2.2.1 hk.1),Kd.R_mono (Kd.R_bound S.l) (fun k hk=>recol_old hk.2.2.1 hk.1)⟩
structure Cur (base g b7 bE n cE:Nat) (e:Ed) (col:Nat→Nat) (vT vL:Value) (E:List (List Int)) (T L:List Int) (w:World):Prop where
  bd:Bd base bE n cE col vT vL E T L w
  hg:w.heap[g]?=some (.cells #[.slice (some ⟨bE,0,none⟩) n cE,vT,vL,.slice none 0 0,.slice none 0 0] 116 (0,0))
  hb:w.heap[b7]?=some (.cells #[.int .i64 e.1,.int .i64 e.2.1,.int .i64 e.2.2] 87 (0,0))
  cg:col g=3
  cb:col b7=3
  gb:base≤g
  bb:base≤b7
section
variable {base g b7 bE n cE:Nat} {e:Ed} {col:Nat→Nat} {vT vL:Value} {E:List (List Int)} {T L:List Int} {w w1:World}
theorem Cur.below (S:Cur base g b7 bE n cE e col vT vL E T L w) (hb:Below w.heap.size w w1):Cur base g b7 bE n cE e col vT vL E T L w1:=
  ⟨S.bd.below hb,(hb.block g (Array.getElem?_eq_some_iff.1 S.hg).1).trans S.hg,(hb.block b7 (Array.getElem?_eq_some_iff.1 S.hb).1).trans S.hb,S.cg,S.cb,S.gb,S.bb⟩
theorem Cur.held (S:Cur base g b7 bE n cE e col vT vL E T L w) {x:Nat} {v:Value} (hv:w.cell? ⟨bE,x,none⟩=some v):w.cell? ⟨g,0,none⟩=some (.slice (some ⟨bE,0,none⟩) n cE)∧w.cell? ⟨g,1,none⟩=some vT∧w.cell? ⟨b7,0,none⟩=some (.int .i64 e.1)∧w.cell? ⟨b7,1,none⟩=some (.int .i64 e.2.1)∧w.cell? ⟨bE,x,none⟩=some v:=by
  have h1:=S.hg
  have h2:=S.hb
  refine⟨?_,?_,?_,?_,hv⟩<;>simp[World.cell?,h1,h2]
end
theorem cell_bl {w w1:World} {a:Addr} {v:Value} (h:w.cell? a=some v) (hb:Below w.heap.size w w1):w1.cell? a=some v:=by
  have:=hb.block a.block (World.block_lt_of_cell? w a h)
  simpa [World.cell?,this]using h
theorem frozen_gr {w w1:World} {a:Addr} {row:Option Nat} {v:Value} (hf:w.frozen? a=false) (h:w.cell? a=some v) (hg:w.grownBy w1 row) (hb:some a.block≠row):w1.frozen? a=false:=by
  have:=hg.block a.block (World.block_lt_of_cell? w a h) hb
  simpa [World.frozen?,this]using hf
theorem Cur.heldG {base g b7 bE n cE:Nat} {e:Ed} {col:Nat→Nat} {vT vL:Value} {E:List (List Int)} {T L:List Int} {w w1:World} (S:Cur base g b7 bE n cE e col vT vL E T L w) {x:Nat} {v:Value} {row:Option Nat} (hv:w.cell? ⟨bE,x,none⟩=some v) (hg:w.grownBy w1 row) (hr: ∀k,row=some k→col k=0∧k≠bE):w1.cell? ⟨g,0,none⟩=some (.slice (some ⟨bE,0,none⟩) n cE)∧w1.cell? ⟨g,1,none⟩=some vT∧w1.cell? ⟨b7,0,none⟩=some (.int .i64 e.1)∧w1.cell? ⟨b7,1,none⟩=some (.int .i64 e.2.1)∧w1.cell? ⟨bE,x,none⟩=some v:=by
  obtain⟨h0,h1,h2,h3,h4⟩:=S.held hv
  have n1:some g≠row:=fun he=>by have:=(hr g he.symm).1;have:=S.cg;omega
  have n2:some b7≠row:=fun he=>by have:=(hr b7 he.symm).1;have:=S.cb;omega
  exact⟨cell_gr h0 hg n1,cell_gr h1 hg n1,cell_gr h2 hg n2,cell_gr h3 hg n2,cell_gr h4 hg (fun he=>(hr bE he.symm).2 rfl)⟩
theorem Cur.be {base g b7 bE n cE:Nat} {e:Ed} {col:Nat→Nat} {vT vL:Value} {E:List (List Int)} {T L:List Int} {w:World} (S:Cur base g b7 bE n cE e col vT vL E T L w):base≤bE:=((Kd.S_R (Kd.S_bound S.bd.s)).1 bE rfl).2.1
theorem Cur.putE {base g b7 bE n cE:Nat} {e:Ed} {col:Nat→Nat} {vT vL:Value} {E:List (List Int)} {T L:List Int} {W:World} (S:Cur base g b7 bE n cE e col vT vL E T L W) {w1:World} {x:Nat} {v1:Value} {row:Option Nat} {E1:List (List Int)} (hbd:Bd base bE n cE (recol col W.heap.size 0) vT vL E1 T L (w1.setCell ⟨bE,x,none⟩ v1)) (hg:W.grownBy w1 row) (hr: ∀k,row=some k→col k=0∧k≠bE):Cur base g b7 bE n cE e (recol col W.heap.size 0) vT vL E1 T L (w1.setCell ⟨bE,x,none⟩ v1):=by
  have l1:=(Array.getElem?_eq_some_iff.1 S.hg).1
  have l2:=(Array.getElem?_eq_some_iff.1 S.hb).1
  have c0:=S.bd.colE
  have n1:some g≠row:=fun he=>by have:=(hr g he.symm).1;have:=S.cg;omega
  have n2:some b7≠row:=fun he=>by have:=(hr b7 he.symm).1;have:=S.cb;omega
  refine⟨hbd,?_,?_,recol_old l1 S.cg,recol_old l2 S.cb,S.gb,S.bb⟩
  · rw[Below.heap_setCell w1 ⟨bE,x,none⟩ v1 g (fun he=>by have e1:g=bE:=he;have:=S.cg;rw[e1]at this;omega),hg.block g l1 n1];exact S.hg
  · rw[Below.heap_setCell w1 ⟨bE,x,none⟩ v1 b7 (fun he=>by have e1:b7=bE:=he;have:=S.cb;rw[e1]at this;omega),hg.block b7 l2 n2];exact S.hb
theorem Cur.putT {base g b7 bE n cE:Nat} {e:Ed} {col:Nat→Nat} {vT vL vT1:Value} {E:List (List Int)} {T L T1:List Int} {W w1:World} (S:Cur base g b7 bE n cE e col vT vL E T L W) (ho:Kd.R (Kd.int .i64) 3 w1 base (fun k=>col k=1∨W.heap.size≤k) vT1 T1) (hg:W.grownBy w1 vT.ownBlock):Cur base g b7 bE n cE e (recol col W.heap.size 1) vT1 vL E T1 L (w1.setCell ⟨g,1,none⟩ vT1):=by
  have l1:=(Array.getElem?_eq_some_iff.1 S.hg).1
  have l2:=(Array.getElem?_eq_some_iff.1 S.hb).1
  have n1:some g≠vT.ownBlock:=fun he=>by have:=S.bd.t.1 g he.symm;have:=S.cg;omega
  have n2:some b7≠vT.ownBlock:=fun he=>by have:=S.bd.t.1 b7 he.symm;have:=S.cb;omega
  have k1:=(hg.block g l1 n1).trans S.hg
  have k2:=(hg.block b7 l2 n2).trans S.hb
  have hne:b7≠g:=fun he=>by rw[he]at k2;rw[k1]at k2;cases k2
  refine⟨(S.bd.appT ho hg).typed k1 (by decide) (by decide) 1 vT1,blk_put k1 1 vT1 rfl,?_,recol_old l1 S.cg,recol_old l2 S.cb,S.gb,S.bb⟩
  rw[Below.heap_setCell w1 ⟨g,1,none⟩ vT1 b7 hne];exact k2
theorem Cur.putL {base g b7 bE n cE:Nat} {e:Ed} {col:Nat→Nat} {vT vL vL1:Value} {E:List (List Int)} {T L L1:List Int} {W w1:World} (S:Cur base g b7 bE n cE e col vT vL E T L W) (ho:Kd.R (Kd.int .i64) 3 w1 base (fun k=>col k=2∨W.heap.size≤k) vL1 L1) (hg:W.grownBy w1 vL.ownBlock):Cur base g b7 bE n cE e (recol col W.heap.size 2) vT vL1 E T L1 (w1.setCell ⟨g,2,none⟩ vL1):=by
  have l1:=(Array.getElem?_eq_some_iff.1 S.hg).1
  have l2:=(Array.getElem?_eq_some_iff.1 S.hb).1
  have n1:some g≠vL.ownBlock:=fun he=>by have:=S.bd.l.1 g he.symm;have:=S.cg;omega
  have n2:some b7≠vL.ownBlock:=fun he=>by have:=S.bd.l.1 b7 he.symm;have:=S.cb;omega
  have k1:=(hg.block g l1 n1).trans S.hg
  have k2:=(hg.block b7 l2 n2).trans S.hb
  have hne:b7≠g:=fun he=>by rw[he]at k2;rw[k1]at k2;cases k2
  refine⟨(S.bd.appL ho hg).typed k1 (by decide) (by decide) 2 vL1,blk_put k1 2 vL1 rfl,?_,recol_old l1 S.cg,recol_old l2 S.cb,S.gb,S.bb⟩
  rw[Below.heap_setCell w1 ⟨g,2,none⟩ vL1 b7 hne];exact k2
theorem Cur.keepT {base g b7 bE n cE:Nat} {e:Ed} {col:Nat→Nat} {vT vL:Value} {E:List (List Int)} {T L:List Int} {W w1:World} (S:Cur base g b7 bE n cE e col vT vL E T L W) (hg:W.grownBy w1 vT.ownBlock):
    w1.heap[g]?=some (.cells #[.slice (some ⟨bE,0,none⟩) n cE,vT,vL,.slice none 0 0,.slice none 0 0] 116 (0,0))∧w1.heap[b7]?=some (.cells #[.int .i64 e.1,.int .i64 e.2.1,.int .i64 e.2.2] 87 (0,0)):=
  ⟨(hg.block g (Array.getElem?_eq_some_iff.1 S.hg).1 (fun he=>by have:=S.bd.t.1 g he.symm;have:=S.cg;omega)).trans S.hg,(hg.block b7 (Array.getElem?_eq_some_iff.1 S.hb).1 (fun he=>by have:=S.bd.t.1 b7 he.symm;have:=S.cb;omega)).trans S.hb⟩
theorem Cur.keepL {base g b7 bE n cE:Nat} {e:Ed} {col:Nat→Nat} {vT vL:Value} {E:List (List Int)} {T L:List Int} {W w1:World} (S:Cur base g b7 bE n cE e col vT vL E T L W) (hg:W.grownBy w1 vL.ownBlock):
    w1.heap[g]?=some (.cells #[.slice (some ⟨bE,0,none⟩) n cE,vT,vL,.slice none 0 0,.slice none 0 0] 116 (0,0))∧w1.heap[b7]?=some (.cells #[.int .i64 e.1,.int .i64 e.2.1,.int .i64 e.2.2] 87 (0,0)):=
  ⟨(hg.block g (Array.getElem?_eq_some_iff.1 S.hg).1 (fun he=>by have:=S.bd.l.1 g he.symm;have:=S.cg;omega)).trans S.hg,(hg.block b7 (Array.getElem?_eq_some_iff.1 S.hb).1 (fun he=>by have:=S.bd.l.1 b7 he.symm;have:=S.cb;omega)).trans S.hb⟩
theorem blk_free {w:World} {g i t:Nat} {cells:Array Value} (h:w.heap[g]?=some (.cells cells t (0,0))):w.frozen? ⟨g,i,none⟩=false:=by simp[World.frozen?,h]
theorem addE_rl {E:List (List Int)} {m:Nat} (h: ∀(x:Nat) (row:List Int),E[x]?=some row→row.length≤m) (y:Nat) (v:Int): ∀(x:Nat) (row:List Int),(addE E y v)[x]?=some row→row.length≤m+1:=by
  intro x row hx
  unfold addE at hx
  rw[List.getElem?_set]at hx
  split at hx
  · split at hx
    · injection hx with hx
      subst hx
      rw[List.length_append,List.length_singleton,List.getD_eq_getElem?_getD]
      rcases hy:E[y]? with _|r
      · simp
      · have:=h y r hy
        simp only[Option.getD_some]
        omega
    · cases hx
  · exact Nat.le_succ_of_le (h x row hx)
theorem netE_rl (n:Nat) (l:List Ed): ∀(x:Nat) (row:List Int),(netE n l)[x]?=some row→row.length≤2*l.length:=by
  induction l using snoc_ind with
  |h0=>
    intro x row hx
    rw[show netE n []=List.replicate n []from rfl,List.getElem?_replicate]at hx
    split at hx
    · injection hx with hx;subst hx;simp
    · cases hx
  |h l a ih=>
    intro x row hx
    rw[netE_snoc]at hx
    have:=addE_rl (addE_rl ih _ _) _ _ x row hx
    rw[List.length_append,List.length_singleton]
    omega
theorem row_len {n:Nat} {l:List Ed} (hl:l.length≤2000000) {x:Nat} {row:List Int} (h:(netE n l)[x]?=some row):(row.length+1)*8≤140737488355328:=by
  have:=netE_rl n l x row h
  omega
theorem row_len2 {n:Nat} {l:List Ed} (hl:l.length≤2000000) {y x:Nat} {v:Int} {row:List Int} (h:(addE (netE n l) y v)[x]?=some row):(row.length+1)*8≤140737488355328:=by
  have:=addE_rl (netE_rl n l) _ _ x row h
  omega
theorem lend_ok {E:List (List Int)} {x:Nat} (h:x<E.length):E[x]?=some (E[x]?.getD []):=by rw[List.getElem?_eq_getElem h];rfl
def NewPost (n:Nat) (es:List Ed) (w0:World) (e:Ending) (w':World):Prop:=
  ∃(g bE cE:Nat) (vT vL:Value) (col:Nat→Nat),e= .returned (.pointer (some ⟨g,0,none⟩))∧w'.heap[g]?=some (.cells #[.slice (some ⟨bE,0,none⟩) n cE,vT,vL,.slice none 0 0,.slice none 0 0] 116 (0,0))∧Bd w0.heap.size bE n cE col vT vL (netE n es) (netT es) (netL es) w'∧w0.heap.size≤g∧g<w'.heap.size∧Below w0.heap.size w0 w'∧col g=3∧(es=[]→vT= .slice none 0 0∧vL= .slice none 0 0)
set_option maxHeartbeats 8000000 in
set_option maxRecDepth 100000 in
theorem newres_calls {n:Nat} (hn1:1≤n) (hn3:n≤1000000) {es:List Ed} {C:Int} (hes:es.length≤2000000) (hok: ∀e∈es,edOk n C e) {A:Option Addr} {c:Nat} (w0 w:World) (hB:Below w0.heap.size w0 w) (hE:EdC w0 A es):
    Calls Try.prog 86 #[.int .i64 n,.slice A es.length c] w (NewPost n es w0):=by
  have HB:=Aside0.mk hB
  have HE:=Aside0.mk hE
  have HOK:=Aside0.mk hok
  have HBN:=Aside0.mk (show w0.heap.size≤w.heap.size from hB.size)
  clear hB hE hok
  go_enter Try.func86,Try.ntmps86
  go_wp2_with(first
    |((with_reducible refine gate_dst (N:=9) rfl ?_);refine Kd.S_make (Kd.slice 3 (Kd.int .i64)) (w0:=w0) w0.heap.size 24 rfl (N:=9) rfl 23 _ _ rfl (n:Int) rfl rfl Try.underlying23 (.slice none 0 0) 24 infoII rfl (by decide) (by omega) [] (ok:=fun k=>w.heap.size≤k) (okp:=fun _=>False) ⟨_,rfl,Kd.R_nil _ _ _ _ _⟩ (fun _ hk=>hk.elim) (Nat.le_refl _) (by omega) (by omega) HB.out HBN.out ?_;intro v1 w1 ho hb hg hnew;
        rw[Int.toNat_natCast]at ho;
        obtain⟨bE,cE,e1,hv1,hv2,_⟩:=Kd.R_form (Kd.S_R ho) (by rw[List.length_replicate];omega);
        rw[List.length_replicate]at e1;subst e1;
        have HS1:=Aside0.mk ho;
        have HB1:=Aside0.mk hb;
        have HK1:=Aside0.mk (show w.heap.size≤w1.heap.size from hg.size);
        clear ho hb hg hnew hv1 hv2))
  have HBd:=Aside0.mk (show Bd w0.heap.size bE n cE (recol (fun _=>0) w1.heap.size 3) (.slice none 0 0) (.slice none 0 0) (netE n []) (netT []) (netL []) (w1.alloc (.cells #[.slice (some ⟨bE,0,none⟩) n cE,.slice none 0 0,.slice none 0 0,.slice none 0 0,.slice none 0 0] 116))from
    Bd.below (Bd.fresh ⟨Kd.S_mono HS1.out (fun _ _=>rfl),Kd.R_nil _ _ _ _ _,Kd.R_nil _ _ _ _ _⟩ 3) (below_alloc (Below.refl _ _) _))
  have HG:=Aside0.mk (show(w1.alloc (.cells #[.slice (some ⟨bE,0,none⟩) n cE,.slice none 0 0,.slice none 0 0,.slice none 0 0,.slice none 0 0] 116)).heap[w1.heap.size]?=some (.cells #[.slice (some ⟨bE,0,none⟩) n cE,.slice none 0 0,.slice none 0 0,.slice none 0 0,.slice none 0 0] 116 (0,0))from Array.getElem?_push_size)
  have HC:=Aside0.mk (show recol (fun _=>0) w1.heap.size 3 w1.heap.size=3 from recol_new (Nat.le_refl _))
  have HB2:=Aside0.mk (below_alloc HB1.out (.cells #[.slice (some ⟨bE,0,none⟩) n cE,.slice none 0 0,.slice none 0 0,.slice none 0 0,.slice none 0 0] 116))
  have HG0:=Aside0.mk (Nat.le_trans HBN.out HK1.out)
  obtain⟨g,hg⟩: ∃g,g=w1.heap.size:=⟨_,rfl⟩
  go_loopg [14] es.length (fun kq v14 w'=> ∃(pre suf:List Ed) (vT vL:Value) (col:Nat→Nat),v14= .int .i64 (pre.length:Int)∧Aside0 (es=pre++suf)∧Aside0 (kq=suf.length)∧Aside0 (pre=[]→vT= .slice none 0 0∧vL= .slice none 0 0)∧Aside0 (Bd w0.heap.size bE n cE col vT vL (netE n pre) (netT pre) (netL pre) w')∧Aside0 (w'.heap[w1.heap.size]?=some (.cells #[.slice (some ⟨bE,0,none⟩) n cE,vT,vL,.slice none 0 0,.slice none 0 0] 116 (0,0)))∧Aside0 (col w1.heap.size=3)∧Aside0 (Below w0.heap.size w0 w'))
  case atStart=>exact⟨[],es,_,_,_,rfl,⟨rfl⟩,⟨rfl⟩,⟨fun _=>⟨rfl,rfl⟩⟩,HBd,HG,HC,HB2⟩
  case round=>
    clear HBd HG HC HB2
    obtain⟨pre,suf,vT,vL,col,rfl,HR,HM,HNL,HBd,HG,HC,HB2⟩:=hrel
    rcases suf with _|⟨e,suf⟩
    · have ht:decide ((pre.length:Int)<(es.length:Int))=false:=decide_eq_false (by have:=congrArg List.length HR.out;rw[List.append_nil]at this;omega)
      have ht2:decide (pre.length<es.length)=false:=decide_eq_false (by have:=congrArg List.length HR.out;rw[List.append_nil]at this;omega)
      go_wp2
      go_ret
      have hp:pre=es:=by have:=HR.out;rw[List.append_nil]at this;exact this.symm
      subst hp
      exact⟨_,_,_,_,_,_,rfl,HG.out,HBd.out,HG0.out,(Array.getElem?_eq_some_iff.1 HG.out).1,HB2.out,HC.out,HNL.out⟩
    · have hlt:pre.length<es.length:=by rw[HR.out,List.length_append,List.length_cons];omega
      have ht:decide ((pre.length:Int)<(es.length:Int))=true:=decide_eq_true (by omega)
      have ht2:decide (pre.length<es.length)=true:=decide_eq_true hlt
      have he:es[pre.length]?=some e:=by rw[HR.out,List.getElem?_append_right (Nat.le_refl _),Nat.sub_self];rfl
      have hEr:EdC wr A es:=HE.out.below HB2.out
      obtain⟨ad,hA,a0,a1,a2⟩:=ed_at hEr he
      clear hEr
      have hA2:=hA
      subst hA2
      go_wp2_with fail
      have hoke:=HOK.out e (by rw[HR.out];exact List.mem_append_right _ (List.mem_cons_self ..))
      have h10:0≤e.1:=hoke.1
      have h11:e.1<(n:Int):=hoke.2.1
      have h20:0≤e.2.1:=hoke.2.2.1
      have h21:e.2.1<(n:Int):=hoke.2.2.2.1
      clear hoke a0 a1 a2
      have hgl:w1.heap.size<wr.heap.size:=(Array.getElem?_eq_some_iff.1 HG.out).1
      have HCu:=Aside0.mk (show Cur w0.heap.size w1.heap.size wr.heap.size bE n cE e (recol col wr.heap.size 3) vT vL (netE n pre) (netT pre) (netL pre) (wr.alloc (.cells #[.int .i64 e.1,.int .i64 e.2.1,.int .i64 e.2.2] 87))from
        ⟨(HBd.out.fresh 3).below (below_alloc (Below.refl _ _) _),((below_alloc (Below.refl _ _) _:Below wr.heap.size wr _).block _ hgl).trans HG.out,Array.getElem?_push_size,recol_old hgl HC.out,recol_new (Nat.le_refl _),HG0.out,Nat.le_trans HG0.out (Nat.le_of_lt hgl)⟩)
      have HB3:=Aside0.mk (below_alloc HB2.out (.cells #[.int .i64 e.1,.int .i64 e.2.1,.int .i64 e.2.2] 87))
      clear HBd HG HC HB2 hgl
      obtain⟨b7,hb7⟩: ∃b7,b7=wr.heap.size:=⟨_,rfl⟩
      rw[←hb7]at HCu⊢
      generalize wr.alloc (.cells #[.int .i64 e.1,.int .i64 e.2.1,.int .i64 e.2.2] 87)=Wa at HCu HB3⊢
      clear hb7
      obtain⟨ATa,cTa,eTa⟩:=Kd.R_slice HCu.out.bd.t
      subst eTa
      have hxa:(netE n pre)[e.1.toNat]?=some ((netE n pre)[e.1.toNat]?.getD []):=lend_ok (by rw[netE_len];omega)
      obtain⟨va,hv0a⟩: ∃v,Wa.cell? ⟨bE,e.1.toNat,none⟩=some v:=by obtain⟨_,v,_,h,_⟩:=HCu.out.bd.lend hxa;exact⟨v,h⟩
      have hHda:=HCu.out.held hv0a
      clear hv0a
      refine start_ (n:=23) (S:=fun w'=>w'.cell? ⟨w1.heap.size,0,none⟩=some (.slice (some ⟨bE,0,none⟩) n cE)∧w'.cell? ⟨w1.heap.size,1,none⟩=some (.slice ATa (netT pre).length cTa)∧w'.cell? ⟨b7,0,none⟩=some (.int .i64 e.1)∧w'.cell? ⟨b7,1,none⟩=some (.int .i64 e.2.1)∧w'.cell? ⟨bE,e.1.toNat,none⟩=some va) (ds:=[22]) #[false,false,false,false,false,false,false,false,false,false,false,false,false,false,false,false,false,false,false,false,false,false,false] (by kernel_rfl) rfl rfl hHda (fun hHeld=>?_)
      clear hHda
      have HCua:=Aside0.mk (HCu.out.below (below_drew (Below.refl _ _)))
      have HBa:=Aside0.mk (below_drew HB3.out)
      clear HCu HB3
      generalize Wa.drew=Wa at HCua HBa hHeld⊢
      obtain⟨okia,v',hRa,hv1a,hvfa,howna,hputa⟩:=HCua.out.bd.lend hxa
      obtain rfl:v'=va:=Option.some.inj (hv1a.symm.trans hHeld.2.2.2.2)
      have hd0:decide (0≤e.1)=true:=decide_eq_true (by omega)
      have hd1:decide (e.1<(n:Int))=true:=decide_eq_true (by omega)
      have HRa:=Aside0.mk hRa
      have HPa:=Aside0.mk @hputa
      have HOa:=Aside0.mk howna
      have HVa:=Aside0.mk hv1a
      have HFa:=Aside0.mk hvfa
      have HXa:=Aside0.mk hxa
      clear hRa hputa howna hv1a hvfa hxa
      refine pv_ 0 (some 18) ?_
      refine pv_ 1 (some 19) ?_
      refine pv_ 2 (some 20) ?_
      refine tv5_ hHeld 3 (some 21) ?_
      refine pv_ 4 (some 22) ?_
      refine tv5_ hHeld 5 (some 23) ?_
      refine pv_ 6 (some 24) ?_
      refine pv_ 7 (some 25) ?_
      refine pv_ 8 (some 26) ?_
      refine tv5_ hHeld 9 (some 27) ?_
      refine pv_ 10 (some 28) ?_
      refine tv5_ hHeld 11 (some 29) ?_
      refine pv_ 12 (some 30) ?_
      refine tv5_ hHeld 13 (some 31) ?_
      refine pv_ 14 (some 32) ?_
      refine pv_ 15 (some 33) ?_
      refine pv_ 16 (some 34) ?_
      refine tv5_ hHeld 17 (some 35) ?_
      refine pv_ 18 (some 36) ?_
      refine ov_ 19 (some 37) (fun K hK=>?_)
      refine value_ (w1:=Wa.alloc (.cells #[.int .i64 ((netT pre).length:Int)] 3)) (v:= .slice (some ⟨Wa.heap.size,0,none⟩) 1 1) (by rfl) rfl (by go_simp;first|done|exact⟨rfl,rfl⟩|(constructor<;>rfl)) ?_
      refine hK.out _ _ ((HCua.out.below (below_alloc (Below.refl _ _) _)).held (cell_bl HVa.out (below_alloc (Below.refl _ _) _))) (fun hHeld2=>?_)
      clear hK K hHeld
      refine nr_ (some 37) ?_
      refine ov_ 20 (some 38) (fun K hK=>?_)
      refine Kd.R_append_step (Kd.int .i64) (w0:=w0) w0.heap.size (by rfl) (.tmp 31) (.tmp 37) 24 3 (.int .i64 0) 8 rfl Try.underlying24 infoI rfl (by decide) (by omega) v' ((netE n pre)[e.1.toNat]?.getD []) ((netT pre).length:Int) [.int .i64 ((netT pre).length:Int)] (fun k=>okia k∨Wa.heap.size≤k) (fun _=>False) rfl rfl rfl (fun _ hk=>hk.elim) (fun k hk=> .inr hk) (Kd.R_mono HRa.out (fun _ hk=> .inl hk)) HBa.out (below_size HBa.out) (by have:=row_len (l:=pre) (by omega) HXa.out;omega) ?_
      intro v1a w2a ho hb hg hat
      have HGa:=Aside0.mk hg
      have HOwa:=Aside0.mk ho
      have HBwa:=Aside0.mk hb
      obtain⟨b1a,c1a,ev1a,_⟩:=Kd.R_form ho (by rw[List.length_append,List.length_singleton];omega)
      subst ev1a
      clear ho hb hg hat
      refine hK.out _ _ (HCua.out.heldG HVa.out HGa.out (fun k hk=>HOa.out k hk)) (fun hHeld=>?_)
      clear hK K hHeld2
      refine nr_ (some 38) ?_
      refine pv_ 21 (some 39) ?_
      have hfr:=frozen_gr HFa.out HVa.out HGa.out (fun he=>(HOa.out bE he.symm).2 rfl)
      refine last_ (i:=22) (N:=none) #[true,true,true,true,true,true,true,true,true,true,true,true,true,true,true,true,true,true,true,true,true,true,true] rfl rfl (by kernel_rfl) (by decide) (fun K hK=>?_)
      refine skip_ (w1:=w2a.setCell ⟨bE,e.1.toNat,none⟩ (.slice (some ⟨b1a,0,none⟩) (((netE n pre)[e.1.toNat]?.getD [])++[((netT pre).length:Int)]).length c1a)) (by rfl) rfl (by go_simp;first|done|rfl) ?_
      refine hK.out _ _ ?_
      clear hK K
      refine done_ (by kernel_rfl) ?_
      have hBda:=HPa.out HOwa.out HGa.out
      have HCub0:=Aside0.mk (HCua.out.putE hBda HGa.out HOa.out)
      have HBb0:=Aside0.mk (below_set (j:=e.1.toNat) (v:= .slice (some ⟨b1a,0,none⟩) (((netE n pre)[e.1.toNat]?.getD [])++[((netT pre).length:Int)]).length c1a) HBwa.out HCua.out.be)
      clear hBda HPa HOwa HGa HBwa HOa HVa HFa HRa HXa HCua HBa hHeld hfr hd0 hd1
      generalize w2a.setCell ⟨bE,e.1.toNat,none⟩ (.slice (some ⟨b1a,0,none⟩) (((netE n pre)[e.1.toNat]?.getD [])++[((netT pre).length:Int)]).length c1a)=Wb0 at HCub0 HBb0⊢
      go_wp2_with fail
      have eE1:(netE n pre).set e.1.toNat ((netE n pre)[e.1.toNat]?.getD []++[((netT pre).length:Int)])=addE (netE n pre) e.1.toNat ((2*pre.length:Nat):Int):=by rw[netT_len];unfold addE;rw[List.getD_eq_getElem?_getD]
      rw[eE1]at HCub0
      clear eE1
      have hxb:(addE (netE n pre) e.1.toNat ((2*pre.length:Nat):Int))[e.2.1.toNat]?=some ((addE (netE n pre) e.1.toNat ((2*pre.length:Nat):Int))[e.2.1.toNat]?.getD []):=lend_ok (by rw[addE_len,netE_len];omega)
      obtain⟨vb,hv0b⟩: ∃v,Wb0.cell? ⟨bE,e.2.1.toNat,none⟩=some v:=by obtain⟨_,v,_,h,_⟩:=HCub0.out.bd.lend hxb;exact⟨v,h⟩
      have hHdb:=HCub0.out.held hv0b
      clear hv0b
      refine start_ (n:=24) (S:=fun w'=>w'.cell? ⟨w1.heap.size,0,none⟩=some (.slice (some ⟨bE,0,none⟩) n cE)∧w'.cell? ⟨w1.heap.size,1,none⟩=some (.slice ATa (netT pre).length cTa)∧w'.cell? ⟨b7,0,none⟩=some (.int .i64 e.1)∧w'.cell? ⟨b7,1,none⟩=some (.int .i64 e.2.1)∧w'.cell? ⟨bE,e.2.1.toNat,none⟩=some vb) (ds:=[23]) #[false,false,false,false,false,false,false,false,false,false,false,false,false,false,false,false,false,false,false,false,false,false,false,false] (by kernel_rfl) rfl rfl hHdb (fun hHeld=>?_)
      clear hHdb
      have HCub:=Aside0.mk (HCub0.out.below (below_drew (Below.refl _ _)))
      have HBb:=Aside0.mk (below_drew HBb0.out)
      clear HCub0 HBb0
      generalize Wb0.drew=Wb at HCub HBb hHeld⊢
      obtain⟨okib,v',hRb,hv1b,hvfb,hownb,hputb⟩:=HCub.out.bd.lend hxb
      obtain rfl:v'=vb:=Option.some.inj (hv1b.symm.trans hHeld.2.2.2.2)
      have hd0:decide (0≤e.2.1)=true:=decide_eq_true (by omega)
      have hd1:decide (e.2.1<(n:Int))=true:=decide_eq_true (by omega)
      have HRb:=Aside0.mk hRb
      have HPb:=Aside0.mk @hputb
      have HOb:=Aside0.mk hownb
      have HVb:=Aside0.mk hv1b
      have HFb:=Aside0.mk hvfb
      have HXb:=Aside0.mk hxb
      clear hRb hputb hownb hv1b hvfb hxb
      refine pv_ 0 (some 40) ?_
      refine pv_ 1 (some 41) ?_
      refine pv_ 2 (some 42) ?_
      refine tv5_ hHeld 3 (some 43) ?_
      refine pv_ 4 (some 44) ?_
      refine tv5_ hHeld 5 (some 45) ?_
      refine pv_ 6 (some 46) ?_
      refine pv_ 7 (some 47) ?_
      refine pv_ 8 (some 48) ?_
      refine tv5_ hHeld 9 (some 49) ?_
      refine pv_ 10 (some 50) ?_
      refine tv5_ hHeld 11 (some 51) ?_
      refine pv_ 12 (some 52) ?_
      refine tv5_ hHeld 13 (some 53) ?_
      refine pv_ 14 (some 54) ?_
      refine pv_ 15 (some 55) ?_
      refine pv_ 16 (some 56) ?_
      refine tv5_ hHeld 17 (some 57) ?_
      refine pv_ 18 (some 58) ?_
      refine pv_ 19 (some 59) ?_
      refine ov_ 20 (some 60) (fun K hK=>?_)
      refine value_ (w1:=Wb.alloc (.cells #[.int .i64 (wrap64 (((netT pre).length:Int)+1))] 3)) (v:= .slice (some ⟨Wb.heap.size,0,none⟩) 1 1) (by rfl) rfl (by go_simp;first|done|exact⟨rfl,rfl⟩|(constructor<;>rfl)) ?_
      refine hK.out _ _ ((HCub.out.below (below_alloc (Below.refl _ _) _)).held (cell_bl HVb.out (below_alloc (Below.refl _ _) _))) (fun hHeld2=>?_)
      clear hK K hHeld
      refine nr_ (some 60) ?_
      refine ov_ 21 (some 61) (fun K hK=>?_)
      refine Kd.R_append_step (Kd.int .i64) (w0:=w0) w0.heap.size (by rfl) (.tmp 53) (.tmp 60) 24 3 (.int .i64 0) 8 rfl Try.underlying24 infoI rfl (by decide) (by omega) v' ((addE (netE n pre) e.1.toNat ((2*pre.length:Nat):Int))[e.2.1.toNat]?.getD []) (wrap64 (((netT pre).length:Int)+1)) [.int .i64 (wrap64 (((netT pre).length:Int)+1))] (fun k=>okib k∨Wb.heap.size≤k) (fun _=>False) rfl rfl rfl (fun _ hk=>hk.elim) (fun k hk=> .inr hk) (Kd.R_mono HRb.out (fun _ hk=> .inl hk)) HBb.out (below_size HBb.out) (by have:=row_len2 (l:=pre) (by omega) HXb.out;omega) ?_
      intro v1b w2b ho hb hg hat
      have HGb:=Aside0.mk hg
      have HOwb:=Aside0.mk ho
      have HBwb:=Aside0.mk hb
      obtain⟨b1b,c1b,ev1b,_⟩:=Kd.R_form ho (by rw[List.length_append,List.length_singleton];omega)
      subst ev1b
      clear ho hb hg hat
      refine hK.out _ _ (HCub.out.heldG HVb.out HGb.out (fun k hk=>HOb.out k hk)) (fun hHeld=>?_)
      clear hK K hHeld2
      refine nr_ (some 61) ?_
      refine pv_ 22 (some 62) ?_
      have hfr:=frozen_gr HFb.out HVb.out HGb.out (fun he=>(HOb.out bE he.symm).2 rfl)
      refine last_ (i:=23) (N:=none) #[true,true,true,true,true,true,true,true,true,true,true,true,true,true,true,true,true,true,true,true,true,true,true,true] rfl rfl (by kernel_rfl) (by decide) (fun K hK=>?_)
      refine skip_ (w1:=w2b.setCell ⟨bE,e.2.1.toNat,none⟩ (.slice (some ⟨b1b,0,none⟩) (((addE (netE n pre) e.1.toNat ((2*pre.length:Nat):Int))[e.2.1.toNat]?.getD [])++[(wrap64 (((netT pre).length:Int)+1))]).length c1b)) (by rfl) rfl (by go_simp;first|done|rfl) ?_
      refine hK.out _ _ ?_
      clear hK K
      refine done_ (by kernel_rfl) ?_
      have hBdb:=HPb.out HOwb.out HGb.out
      have HCuc0:=Aside0.mk (HCub.out.putE hBdb HGb.out HOb.out)
      have HBc0:=Aside0.mk (below_set (j:=e.2.1.toNat) (v:= .slice (some ⟨b1b,0,none⟩) (((addE (netE n pre) e.1.toNat ((2*pre.length:Nat):Int))[e.2.1.toNat]?.getD [])++[(wrap64 (((netT pre).length:Int)+1))]).length c1b) HBwb.out HCub.out.be)
      clear hBdb HPb HOwb HGb HBwb HOb HVb HFb HRb HXb HCub HBb hHeld hfr hd0 hd1
      generalize w2b.setCell ⟨bE,e.2.1.toNat,none⟩ (.slice (some ⟨b1b,0,none⟩) (((addE (netE n pre) e.1.toNat ((2*pre.length:Nat):Int))[e.2.1.toNat]?.getD [])++[(wrap64 (((netT pre).length:Int)+1))]).length c1b)=Wc at HCuc0 HBc0⊢
      go_wp2_with fail
      have eE2:(addE (netE n pre) e.1.toNat ((2*pre.length:Nat):Int)).set e.2.1.toNat ((addE (netE n pre) e.1.toNat ((2*pre.length:Nat):Int))[e.2.1.toNat]?.getD []++[wrap64 (((netT pre).length:Int)+1)])=netE n (pre++[e]):=by
        have hp:pre.length≤2000000:=by omega
        have hw:wrap64 (((2*pre.length:Nat):Int)+1)=((2*pre.length+1:Nat):Int):=by unfold wrap64;omega
        rw[netE_snoc,netT_len,hw]
        conv=>rhs;unfold addE
        rw[List.getD_eq_getElem?_getD]
        rfl
      rw[eE2]at HCuc0
      clear eE2
      refine start_ (n:=14) (S:=fun w'=>w'.cell? ⟨w1.heap.size,1,none⟩=some (.slice ATa (netT pre).length cTa)∧w'.cell? ⟨b7,0,none⟩=some (.int .i64 e.1)∧w'.cell? ⟨b7,1,none⟩=some (.int .i64 e.2.1)) (ds:=[13]) #[false,false,false,false,false,false,false,false,false,false,false,false,false,false] (by kernel_rfl) rfl rfl ⟨blk_cell HCuc0.out.hg 1,blk_cell HCuc0.out.hb 0,blk_cell HCuc0.out.hb 1⟩ (fun hHeld=>?_)
      have HCuc:=Aside0.mk (HCuc0.out.below (below_drew (Below.refl _ _)))
      have HBc:=Aside0.mk (below_drew HBc0.out)
      clear HCuc0 HBc0
      generalize Wc.drew=Wc at HCuc HBc hHeld⊢
      refine pv_ 0 (some 63) ?_
      refine pv_ 1 (some 64) ?_
      refine pv_ 2 (some 65) ?_
      refine pv_ 3 (some 66) ?_
      refine tv3_ hHeld 4 (some 67) ?_
      refine pv_ 5 (some 68) ?_
      refine tv3_ hHeld 6 (some 69) ?_
      refine pv_ 7 (some 70) ?_
      refine tv3_ hHeld 8 (some 71) ?_
      refine ov_ 9 (some 72) (fun K hK=>?_)
      refine value_ (w1:=Wc.alloc (.cells #[.int .i64 e.2.1,.int .i64 e.1] 3)) (v:= .slice (some ⟨Wc.heap.size,0,none⟩) 2 2) (by rfl) rfl (by go_simp;first|done|exact⟨rfl,rfl⟩|(constructor<;>rfl)) ?_
      have HCvc:=Aside0.mk (HCuc.out.below (below_alloc (Below.refl _ _) (.cells #[.int .i64 e.2.1,.int .i64 e.1] 3)))
      have HBvc:=Aside0.mk (below_alloc HBc.out (.cells #[.int .i64 e.2.1,.int .i64 e.1] 3))
      have HLc:=Aside0.mk (Kd.R_reads' (Kd.R_of_own (enc:=Value.int .i64) (h1:=fun _=>rfl) (ok:=fun _=>True) (own_lit Wc w0.heap.size 3 .i64 [e.2.1,e.1] (below_size HBc.out) (by simp)) (fun _ _=>trivial))).2.2
      refine hK.out _ _ ⟨blk_cell HCvc.out.hg 1,blk_cell HCvc.out.hb 0,blk_cell HCvc.out.hb 1⟩ (fun hHeld2=>?_)
      clear hK K hHeld
      refine nr_ (some 72) ?_
      refine ov_ 10 (some 73) (fun K hK=>?_)
      refine Kd.R_append_rows_step (Kd.int .i64) (Rr:=fun x cs=>cs=[.int .i64 x]) (w0:=w0) w0.heap.size (by rfl) (.tmp 67) (.tmp 72) 24 3 (.int .i64 0) 8 rfl Try.underlying24 infoI rfl (by decide) (by omega) (.slice ATa (netT pre).length cTa) (netT pre) [e.2.1,e.1] (some ⟨Wc.heap.size,0,none⟩) 2 2 (fun k=>_∨(Wc.alloc (.cells #[.int .i64 e.2.1,.int .i64 e.1] 3)).heap.size≤k) (fun _=>False) rfl rfl (Kd.R_mono HCvc.out.bd.t (fun _ hk=> .inl hk)) HLc.out (fun _ _ h=>h) (fun _ hk=>hk.elim) (fun k hk=> .inr hk) HBvc.out (below_size HBvc.out) (by rw[netT_len];omega) ?_
      intro v1c w2c ho hb hg hat
      obtain⟨b1c,c1c,ev1c,_⟩:=Kd.R_form ho (by rw[List.length_append];show 0<_+2;omega)
      subst ev1c
      have HKc:=Aside0.mk (HCvc.out.keepT hg)
      have HCud0:=Aside0.mk (HCvc.out.putT ho hg)
      have HBd0:=Aside0.mk (below_set (j:=1) (v:=(.slice (some ⟨b1c,0,none⟩) (netT pre++[e.2.1,e.1]).length c1c)) hb HCvc.out.gb)
      clear ho hb hg hat
      refine hK.out _ _ ⟨blk_cell HKc.out.1 1,blk_cell HKc.out.2 0,blk_cell HKc.out.2 1⟩ (fun hHeld=>?_)
      clear hK K hHeld2
      refine nr_ (some 73) ?_
      refine pv_ 11 (some 74) ?_
      refine pv_ 12 (some 75) ?_
      have hfr:=blk_free (i:=1) HKc.out.1
      refine last_ (i:=13) (N:=none) #[true,true,true,true,true,true,true,true,true,true,true,true,true,true] rfl rfl (by kernel_rfl) (by decide) (fun K hK=>?_)
      refine skip_ (w1:=w2c.setCell ⟨w1.heap.size,1,none⟩ (.slice (some ⟨b1c,0,none⟩) (netT pre++[e.2.1,e.1]).length c1c)) (by rfl) rfl (by go_simp;first|done|rfl) ?_
      refine hK.out _ _ ?_
      clear hK K
      refine done_ (by kernel_rfl) ?_
      clear HCuc HBc HCvc HBvc HLc HKc hfr hHeld
      generalize w2c.setCell ⟨w1.heap.size,1,none⟩ (.slice (some ⟨b1c,0,none⟩) (netT pre++[e.2.1,e.1]).length c1c)=Wd at HCud0 HBd0⊢
      go_wp2_with fail
      refine start_ (n:=12) (S:=fun w'=>w'.cell? ⟨w1.heap.size,2,none⟩=some vL∧w'.cell? ⟨b7,2,none⟩=some (.int .i64 e.2.2)) (ds:=[11]) #[false,false,false,false,false,false,false,false,false,false,false,false] (by kernel_rfl) rfl rfl ⟨blk_cell HCud0.out.hg 2,blk_cell HCud0.out.hb 2⟩ (fun hHeld=>?_)
      have HCud:=Aside0.mk (HCud0.out.below (below_drew (Below.refl _ _)))
      have HBd:=Aside0.mk (below_drew HBd0.out)
      clear HCud0 HBd0
      generalize Wd.drew=Wd at HCud HBd hHeld⊢
      refine pv_ 0 (some 76) ?_
      refine pv_ 1 (some 77) ?_
      refine pv_ 2 (some 78) ?_
      refine pv_ 3 (some 79) ?_
      refine tv2_ hHeld 4 (some 80) ?_
      refine pv_ 5 (some 81) ?_
      refine tv2_ hHeld 6 (some 82) ?_
      refine ov_ 7 (some 83) (fun K hK=>?_)
      refine value_ (w1:=Wd.alloc (.cells #[.int .i64 e.2.2,.int .i64 0] 3)) (v:= .slice (some ⟨Wd.heap.size,0,none⟩) 2 2) (by rfl) rfl (by go_simp;first|done|exact⟨rfl,rfl⟩|(constructor<;>rfl)) ?_
      have HCvd:=Aside0.mk (HCud.out.below (below_alloc (Below.refl _ _) (.cells #[.int .i64 e.2.2,.int .i64 0] 3)))
      have HBvd:=Aside0.mk (below_alloc HBd.out (.cells #[.int .i64 e.2.2,.int .i64 0] 3))
      have HLd:=Aside0.mk (Kd.R_reads' (Kd.R_of_own (enc:=Value.int .i64) (h1:=fun _=>rfl) (ok:=fun _=>True) (own_lit Wd w0.heap.size 3 .i64 [e.2.2,0] (below_size HBd.out) (by simp)) (fun _ _=>trivial))).2.2
      refine hK.out _ _ ⟨blk_cell HCvd.out.hg 2,blk_cell HCvd.out.hb 2⟩ (fun hHeld2=>?_)
      clear hK K hHeld
      refine nr_ (some 83) ?_
      refine ov_ 8 (some 84) (fun K hK=>?_)
      refine Kd.R_append_rows_step (Kd.int .i64) (Rr:=fun x cs=>cs=[.int .i64 x]) (w0:=w0) w0.heap.size (by rfl) (.tmp 80) (.tmp 83) 24 3 (.int .i64 0) 8 rfl Try.underlying24 infoI rfl (by decide) (by omega) vL (netL pre) [e.2.2,0] (some ⟨Wd.heap.size,0,none⟩) 2 2 (fun k=>_∨(Wd.alloc (.cells #[.int .i64 e.2.2,.int .i64 0] 3)).heap.size≤k) (fun _=>False) rfl rfl (Kd.R_mono HCvd.out.bd.l (fun _ hk=> .inl hk)) HLd.out (fun _ _ h=>h) (fun _ hk=>hk.elim) (fun k hk=> .inr hk) HBvd.out (below_size HBvd.out) (by rw[netL_len];omega) ?_
      intro v1d w2d ho hb hg hat
      obtain⟨b1d,c1d,ev1d,_⟩:=Kd.R_form ho (by rw[List.length_append];show 0<_+2;omega)
      subst ev1d
      have HKd:=Aside0.mk (HCvd.out.keepL hg)
      have HCue0:=Aside0.mk (HCvd.out.putL ho hg)
      have HBe0:=Aside0.mk (below_set (j:=2) (v:=(.slice (some ⟨b1d,0,none⟩) (netL pre++[e.2.2,0]).length c1d)) hb HCvd.out.gb)
      clear ho hb hg hat
      refine hK.out _ _ ⟨blk_cell HKd.out.1 2,blk_cell HKd.out.2 2⟩ (fun hHeld=>?_)
      clear hK K hHeld2
      refine nr_ (some 84) ?_
      refine pv_ 9 (some 85) ?_
      refine pv_ 10 (some 86) ?_
      have hfr:=blk_free (i:=2) HKd.out.1
      refine last_ (i:=11) (N:=none) #[true,true,true,true,true,true,true,true,true,true,true,true] rfl rfl (by kernel_rfl) (by decide) (fun K hK=>?_)
      refine skip_ (w1:=w2d.setCell ⟨w1.heap.size,2,none⟩ (.slice (some ⟨b1d,0,none⟩) (netL pre++[e.2.2,0]).length c1d)) (by rfl) rfl (by go_simp;first|done|rfl) ?_
      refine hK.out _ _ ?_
      clear hK K
      refine done_ (by kernel_rfl) ?_
      clear HCud HBd HCvd HBvd HLd HKd hfr hHeld
      generalize w2d.setCell ⟨w1.heap.size,2,none⟩ (.slice (some ⟨b1d,0,none⟩) (netL pre++[e.2.2,0]).length c1d)=We at HCue0 HBe0⊢
      go_wp2_with fail
      go_roundg suf.length
      case measure=>rw[HM.out,List.length_cons];omega
      case rel=>exact⟨pre++[e],suf,_,_,_,by rw[List.length_append];rfl,⟨by rw[HR.out,List.append_assoc];rfl⟩,⟨rfl⟩,⟨fun h=>by simp at h⟩,⟨by rw[netT_snoc,netL_snoc];exact HCue0.out.bd⟩,⟨HCue0.out.hg⟩,⟨HCue0.out.cg⟩,HBe0⟩
end Go.Proofs.Ytlkppimbbbdmbaa.Res
namespace Go.Proofs.Ytlkppimbbbdmbaa.Res
open Go.RowKit Go.Proofs.YtlkppimbbbdmbaaW.PrintWords Go.Proofs.YtlkppimbbbdmbaaW.PrintLast Go.Proofs.YtlkppimbbbdmbaaW.PrintMore Go.Proofs.Ytlkppimbbbdmbaa.Flow
set_option linter.unusedVariables false
set_option linter.unusedSimpArgs false
theorem Rs.of_new {n:Nat} {es:List Ed} {base:Nat} {w:World} {g bE cE:Nat} {vT vL:Value} {col:Nat→Nat}
    (hbox:w.heap[g]?=some (.cells #[.slice (some ⟨bE,0,none⟩) n cE,vT,vL,.slice none 0 0,.slice none 0 0] 116 (0,0)))
    (hBd:Bd base bE n cE col vT vL (netE n es) (netT es) (netL es) w) (hcg:col g=3) (hnil:es=[]→vT= .slice none 0 0∧vL= .slice none 0 0) (hg:base≤g) (hgs:g<w.heap.size):
    ∃bT cT bL cL,Rs w.heap.size base g bE n cE bT (2*es.length) cT bL (2*es.length) cL (netE n es) (netT es) (.slice none 0 0) (.slice none 0 0) w (netL es):=by
  rcases es with _|⟨e,es⟩
  · obtain⟨rfl,rfl⟩:=hnil rfl
    exact⟨0,0,w.heap.size,0,hbox,Kd.R_mono (Kd.R_bound (Kd.S_R hBd.s)) (fun k hk=>⟨by have:=hk.2.2.1;omega,hk.2.2.1⟩),Kd.R_nil _ _ _ _ _,Kd.R_nil _ _ _ _ _,by omega,hgs,fun h=>absurd rfl h,hg,Nat.le_refl _⟩
  · obtain⟨bT,cT,eT,_⟩:=Kd.R_form hBd.t (by rw[netT_len,List.length_cons];omega)
    obtain⟨bL,cL,eL,_⟩:=Kd.R_form hBd.l (by rw[netL_len,List.length_cons];omega)
    rw[netT_len]at eT
    rw[netL_len]at eL
    subst eT eL
    have sT:sl (2*(e::es).length) bT=some ⟨bT,0,none⟩:=sl_pos (by rw[List.length_cons];omega)
    have sL:sl (2*(e::es).length) bL=some ⟨bL,0,none⟩:=sl_pos (by rw[List.length_cons];omega)
    have hcL:col bL=2:=hBd.l.1 bL rfl
    refine⟨bT,cT,bL,cL,?_,Kd.R_mono (Kd.R_bound (Kd.S_R hBd.s)) (fun k hk=>⟨fun he=>?_,hk.2.2.1⟩),?_,?_,fun he=>?_,hgs,fun _=>Kd.R_lt hBd.l bL rfl,hg,Nat.le_refl _⟩
    · rw[sT,sL];exact hbox
    · have:=hk.1;rw[he]at this;omega
    · rw[sT];exact Kd.R_mono (Kd.R_bound hBd.t) (fun k hk=>⟨fun he=>by have:=hk.1;rw[he]at this;omega,hk.2.2.1⟩)
    · rw[sL];exact Kd.R_mono (Kd.R_tight rfl hBd.l) (fun k hk=>by simpa [Value.ownBlock]using hk)
    · rw[he]at hcg;omega
end Go.Proofs.Ytlkppimbbbdmbaa.Res
