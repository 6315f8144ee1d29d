/- mfLeast: the nodes that the source still reaches behind a run. -/
import Derived.Test.YtlkppimbbbdmbaaFlE
import Derived.Test.YtlkppimbbbdmbaaFlF
import Derived.Test.YtlkppimbbbdmbaaFlD
import Derived.Laws.Cover3
import Derived.Test.YtlkppimbbbdmbaaWTight
namespace Go.Proofs.Ytlkppimbbbdmbaa.SRes
open Go.RowKit Go.Proofs.YtlkppimbbbdmbaaW.PrintWords Go.Proofs.YtlkppimbbbdmbaaW.PrintLast Go.Proofs.YtlkppimbbbdmbaaW.PrintMore Go.Proofs.Ytlkppimbbbdmbaa.Flow Go.Proofs.Ytlkppimbbbdmbaa.Res Go.Proofs.Ytlkppimbbbdmbaa.NetQ
set_option linter.unusedVariables false
set_option linter.unusedSimpArgs false
theorem ne_of_lt' {b k n:Nat} (h:b<n) (h2:n≤k):k≠b:=by omega
theorem idx_lim {m:List Bool} {i:Nat} (h:i<1000000):(idxB m i).length<17592186044416:=by have:=idxB_len m i;omega
set_option maxHeartbeats 8000000 in
set_option maxRecDepth 100000 in
theorem least_calls {n:Nat} (hn2:2≤n) (hn3:n≤1000000) {es:List Ed} {C:Int} (hes:es.length≤2000000) (hok: ∀e∈es,edOk n C e) {A:Option Addr} {c:Nat} (w:World) (hE:EdC w A es)
  {k:Nat} {L':List Int} {s':Int} {B:List Bool} {V:List Int} (hrun:Run n (netE n es) (netT es) (fun B V=>dOf n B V) 1125899906842624 k (netL es) 0 L' s') (hbfs:Bfs (netE n es) (netT es) L' k (B0 n) (List.replicate n 0) [0] B V) {m:Nat} (hR:Reached n m (netT es) L' B V):
  Calls Try.prog 138 #[.int .i64 n,.slice A es.length c] w fun e w'=> ∃v0_:Value,e= .returned v0_∧Kd.R (Kd.int .i64) 3 w' w.heap.size (fun _=>True) v0_ (idxB B n)∧Below w.heap.size w w':=by
 have HE:=Aside0.mk hE;have HRUN:=Aside0.mk hrun;have HBFS:=Aside0.mk hbfs;have HRE:=Aside0.mk hR;have HOK:=Aside0.mk hok;clear hE hrun hbfs hR hok
 go_enter Try.func138,Try.ntmps138
 go_wp2_with fail
 refine(snew_calls (by omega) hn3 hes HOK.out w w (Below.refl _ _) HE.out).mono ?_;rintro e1 w1 ⟨g,bE,cE,vT,vL,col,rfl,hbox,hBd,hg,hgs,hB1,hcg,hnil⟩;obtain⟨bT,cT,bL,cL,hS⟩:=SRs.of_new hbox hBd hcg hnil hg hgs;have HS:=Aside0.mk hS;have HB:=Aside0.mk hB1;clear hbox hBd hcg hnil hg hgs hS hB1 HE
 go_wp2_with fail
 refine(srun_calls hn2 hn3 (by omega) w w1 HB.out HS.out HRUN.out).mono ?_;rintro e2 w2 ⟨rfl,hS2,hB2,hK2⟩;have HS2:=Aside0.mk hS2;have HB2:=Aside0.mk hB2;clear hS2 hB2 hK2 HS HB HRUN
 go_wp2_with fail
 refine(levels_calls (by omega) hn3 w w2 HB2.out HS2.out HBFS.out).mono ?_;rintro e3 w3 ⟨bD,cD,rfl,hD,hbD,hS3,hB3,hK3⟩;have HD:=Aside0.mk hD;have HB3:=Aside0.mk hB3;have HbD:=Aside0.mk (Nat.le_trans HB2.out.size hbD);clear hD hbD hS3 hB3 hK3 HS2 HB2 HBFS
 go_wp2_with fail
 go_loopg [6,17] n (fun kq v6 v17 w'=> ∃i:Nat,i+kq=n∧v17= .int .i64 (i:Int)∧Aside0 (Kd.R (Kd.int .i64) 3 w' w.heap.size (fun k=>k≠bD) v6 (idxB B i))∧Aside0 (Kd.R (Kd.int .i64) 3 w' w.heap.size (fun k=>k=bD) (.slice (some ⟨bD,0,none⟩) n cD) (dOf n B V))∧Aside0 (Below w.heap.size w w'))
 case atStart=>exact⟨0,by omega,rfl,⟨Kd.R_nil _ _ _ _ _⟩,HD,HB3⟩
 case round=>
  clear HD HB3;obtain⟨i,hi,rfl,HO,HD,HB⟩:=hrel
  by_cases hin:i<n
  ·have ht:decide ((i:Int)<(n:Int))=true:=decide_eq_true (by omega);have ht2:decide (i<n)=true:=decide_eq_true hin;obtain⟨dv,hdv⟩: ∃dv,(dOf n B V)[i]?=some dv:=⟨_,dOf_get hin⟩;obtain⟨hcell,_⟩:=int_at HD.out hdv;rw[dOf_get hin]at hdv
   injection hdv with hdv
   have hvn:=HRE.out.vn i;cases hb:isB B i with
   |false=>
    rw[if_neg (by rw[hb];simp)]at hdv;have q1:decide (dv≥0)=false:=decide_eq_false (by omega);have q2:decide (0≤dv)=false:=decide_eq_false (by omega);have hs:=idxB_succ B i;rw[if_neg (by rw[hb];simp),List.append_nil]at hs;have HSX:=Aside0.mk hs;clear hs hdv hvn;go_wp2
    go_roundg (n-(i+1))
    case measure=>omega
    case rel=>exact⟨i+1,by omega,rfl,by rw[HSX.out];exact HO,HD,HB⟩
   |true=>
    rw[if_pos hb]at hdv;have q1:decide (dv≥0)=true:=decide_eq_true (by have:=hvn.2.2 hb;omega);have q2:decide (0≤dv)=true:=decide_eq_true (by have:=hvn.2.2 hb;omega);have hs:=idxB_succ B i;rw[if_pos hb]at hs;have HSX:=Aside0.mk hs;clear hs hdv hvn
    go_wp2_with(first|((with_reducible refine gate_builtin (b:= .append) (xs:= #[.tmp 24,.tmp 26]) rfl ?_);at_builtin;refine Kd.R_append (Kd.int .i64) (w0:=w) w.heap.size rfl (.tmp 24) (.tmp 26) 24 3 (.int .i64 0) 8 rfl Try.underlying24 infoI rfl (by decide) (by omega) u6 (idxB B i) (i:Int) [.int .i64 (i:Int)] (fun k=>k≠bD) (fun _=>False) rfl rfl ?aP (fun _ hk=>hk.elim) ?aF ?aO ?aB ?aS ?aL ?_;(case aP=>exact rfl);(case aB=>exact(cB HB));(case aF=>exact(fun k hk=>ne_of_lt' (Kd.R_lt HD.out bD rfl) (by first|exact alloc_le hk|exact hk)));(case aO=>exact(cR HO));(case aS=>exact(bz HB));(case aL=>have:=idx_lim (m:=B) (show i<1000000 by omega);omega);intro v126 w8 ho hb hg hat;have hd:=Kd.R_grown HD.out hg (fun k hk he=>HO.out.1 k he.symm hk);rw[←HSX.out]at ho;have HO8:=Aside0.mk ho;have HB8:=Aside0.mk hb;have HD8:=Aside0.mk hd;clear ho hb hg hat hd HO HB HD))
    go_roundg (n-(i+1))
    case measure=>omega
    case rel=>exact⟨i+1,by omega,rfl,HO8,HD8,HB8⟩
  ·have ht:decide ((i:Int)<(n:Int))=false:=decide_eq_false (by omega);have ht2:decide (i<n)=false:=decide_eq_false hin;have hin2:i=n:=by omega
   go_wp2
   go_ret
   subst hin2;exact⟨_,rfl,Kd.R_mono HO.out (fun _ _=>trivial),HB.out⟩
end Go.Proofs.Ytlkppimbbbdmbaa.SRes
namespace Go.Proofs.Ytlkppimbbbdmbaa.SRes
open Go.RowKit Go.Proofs.YtlkppimbbbdmbaaW.PrintWords Go.Proofs.YtlkppimbbbdmbaaW.PrintLast Go.Proofs.YtlkppimbbbdmbaaW.PrintMore Go.Proofs.Ytlkppimbbbdmbaa.Gen Go.Proofs.Ytlkppimbbbdmbaa.Flow Go.Proofs.Ytlkppimbbbdmbaa.Res Go.Proofs.Ytlkppimbbbdmbaa.NetP Go.Proofs.Ytlkppimbbbdmbaa.NetQ
set_option linter.unusedVariables false
set_option linter.unusedSimpArgs false
theorem edC_of {w:World} {A:Option Addr} {es:List Ed} (h:Kd.C k87 w A (es.map mkE).length (es.map mkE)):EdC w A es:=by
 rw[List.length_map]at h;obtain⟨hl,h⟩:(es.length=0→True)∧Kd.C k87 w A es.length (es.map mkE):=⟨fun _=>trivial,h⟩;clear hl
 unfold EdC
 unfold Kd.C ReadsRow at h
 unfold ReadsRow
 obtain⟨h1,h2,h3⟩:=h;refine⟨rfl,h2,fun h0=>?_⟩;obtain⟨ad,e,hc⟩:=h3 h0;refine⟨ad,e,fun j p hj=>?_⟩;obtain⟨c,hs,hr,hcell⟩:=hc j (mkE p) (by rw[List.getElem?_map,hj];rfl);exact⟨c,hs,k87_open hr,hcell⟩
theorem idx_cut {B m:List Bool} {N:Nat} (h0:isB B 0=true) (h: ∀i,i<N→isB B (i+1)=isB m i): ∀k,k≤N→idxB B (k+1)=0::(idxB m k).map (fun x=>x+1)
 |0,_=>by rw[idxB_succ,if_pos h0];rfl
 |k+1,hk=>by
  rw[idxB_succ,idx_cut h0 h k (by omega),h k (by omega),idxB_succ m k]
  split<;>simp
theorem idx_end {B:List Bool} {k:Nat} (h:isB B k=false):idxB B (k+1)=idxB B k:=by rw[idxB_succ,if_neg (by rw[h];simp),List.append_nil]
theorem idxB_mem {m:List Bool} {n:Nat} {x:Int} (h:x∈idxB m n):0≤x∧x<n:=by
 unfold idxB at h
 rw[List.mem_map]at h;obtain⟨i,hi,rfl⟩:=h;rw[List.mem_filter,List.mem_range]at hi
 omega
set_option maxHeartbeats 8000000 in
set_option maxRecDepth 100000 in
theorem find_calls (A0:Option Addr) (c0:Nat) (l0:List (List Int)) (A1:Option Addr) (c1:Nat) (l1:List Int) (w:World) (hr0:Kd.C (Kd.slice 3 (Kd.int .i64)) w A0 l0.length l0) (hc0:l0.length≤c0) (hr1:Kd.C (Kd.int .i64) w A1 l1.length l1) (hc1:l1.length≤c1) (F:Fit l0 l1):
  Calls Try.prog 85 #[.slice A0 l0.length c0,.slice A1 l1.length c1] w fun e w'=> ∃v0_:Value,e= .returned v0_∧Kd.R (Kd.int .i64) 3 w' w.heap.size (fun _=>True) v0_ (idxB (bestB l0 l1) l0.length)∧Below w.heap.size w w':=by
 obtain⟨k1,h1⟩:=(paEdges_ev F).rounds;obtain⟨k,L',s',B,V,hrun,hbfs,hR,hb0,hbN,hbi,_⟩:=F.reach (φ:=fun B V=>dOf (l0.length+2) B V) (fun L B V R=>R.dOf F.net.1) (big:=1125899906842624) (by omega);have hcut:idxB B (l0.length+2)=0::(idxB (bestB l0 l1) l0.length).map (fun x=>x+1):=by
  rw[idx_end hbN,idx_cut hb0 hbi l0.length (Nat.le_refl _)]
 have hn:=F.n;have hil:=idxB_len (bestB l0 l1) l0.length;obtain⟨k2,h2⟩:=(paOf_ev ((idxB (bestB l0 l1) l0.length).map (fun x=>x+1)) (by rw[List.length_map];omega) (fun x hx=>by
  rw[List.mem_map]at hx;obtain⟨y,hy,rfl⟩:=hx
  have:=idxB_mem hy
  omega)).rounds
 rw[List.map_map,show((fun x:Int=>x-1)∘ fun x=>x+1)=id from funext fun x=>by show x+1-1=x;omega,List.map_id,←hcut]at h2;have HR0:=Aside0.mk hr0;have HR1:=Aside0.mk hr1;have HC0:=Aside0.mk hc0;have HC1:=Aside0.mk hc1;have H1:=Aside0.mk h1;have H2:=Aside0.mk h2;have HRUN:=Aside0.mk hrun;have HBF:=Aside0.mk hbfs;have HRE:=Aside0.mk hR;have HF:=Aside0.mk F;have hw2:wrap64 ((l0.length:Int)+2)=((l0.length+2:Nat):Int):=by unfold wrap64;omega
 clear hr0 hr1 hc0 hc1 h1 h2 hrun hbfs hR F hcut hb0 hbN hbi hil
 go_enter Try.func85,Try.ntmps85
 go_wp2_with fail
 refine(spec_paEdges.calls k1 A0 c0 l0 A1 c1 l1 _ w HR0.out HC0.out HR1.out HC1.out H1.out).mono ?_;rintro e1 w1 ⟨v1,rfl,hE,hB1⟩;obtain⟨A,c,rfl,hc,hC⟩:=Kd.R_reads hE;have HE:=Aside0.mk (edC_of hC);have HB1:=Aside0.mk hB1;clear hE hB1 hC hc HR0 HR1 HC0 HC1;rw[List.length_map]
 go_wp2_with fail
 refine(show Calls Try.prog 138 #[.int .i64 ((l0.length+2:Nat):Int),.slice A (netOf l0 l1).length c] w1 _ from least_calls (by omega) (by omega) (es:=netOf l0 l1) (C:=1000000000) (Nat.le_trans HF.out.big (by omega)) (HF.out.edges _ (Nat.le_refl _)) w1 HE.out HRUN.out HBF.out HRE.out).mono ?_;rintro e2 w2 ⟨v2,rfl,hI,hB2⟩;obtain⟨A2,c2,rfl,hc2,hC2⟩:=Kd.R_reads hI;have HC2:=Aside0.mk hC2;have HI2:=Aside0.mk hc2;have HB2:=Aside0.mk (below_step HB1.out hB2);clear hI hC2 hc2 hB2 HB1 HE
 go_wp2_with fail
 refine(spec_paOf.calls k2 A2 c2 _ _ w2 HC2.out HI2.out H2.out).mono ?_;rintro e3 w3 ⟨v3,rfl,hO,hB3⟩;have HO:=Aside0.mk (Kd.R_lower hO HB2.out.size);have HB3:=Aside0.mk (below_step HB2.out hB3);clear hO hB3 HC2 HB2
 go_wp2_with fail
 go_ret
 exact⟨_,rfl,HO.out,HB3.out⟩
end Go.Proofs.Ytlkppimbbbdmbaa.SRes
namespace Go.Proofs.Ytlkppimbbbdmbaa.Res
open Go.RowKit Go.Proofs.YtlkppimbbbdmbaaW.PrintWords Go.Proofs.YtlkppimbbbdmbaaW.PrintLast Go.Proofs.YtlkppimbbbdmbaaW.PrintMore Go.Proofs.Ytlkppimbbbdmbaa.Gen Go.Proofs.Ytlkppimbbbdmbaa.Flow Go.Proofs.Ytlkppimbbbdmbaa.NetP Go.Proofs.Ytlkppimbbbdmbaa.NetQ Go.Proofs.Ytlkppimbbbdmbaa.SRes
set_option linter.unusedVariables false
set_option linter.unusedSimpArgs false
def mkV (f:Nat→Int) (n:Nat):List Int:=(List.range n).map f
theorem mkV_len (f:Nat→Int) (n:Nat):(mkV f n).length=n:=by simp[mkV]
theorem mkV_at {f:Nat→Int} {n i:Nat} (h:i<n):(mkV f n)[i]?=some (f i):=by unfold mkV;rw[List.getElem?_map,List.getElem?_range h];rfl
theorem mkV_congr {f g:Nat→Int} {n:Nat} (h: ∀i,i<n→f i=g i):mkV f n=mkV g n:=List.map_congr_left fun i hi=>h i (List.mem_range.1 hi)
theorem mkV_set (f:Nat→Int) (n j:Nat) (x:Int):(mkV f n).set j x=mkV (fun i=>if i=j then x else f i) n:=by
 refine List.ext_getElem? fun i=>?_
 rw[List.getElem?_set]
 by_cases hi:i<n
 ·rw[mkV_at (f:=fun i=>if i=j then x else f i) hi]
  by_cases h:j=i
  ·subst h;rw[if_pos rfl,mkV_len,if_pos hi,if_pos rfl]
  ·rw[if_neg h,mkV_at hi,if_neg (fun e=>h e.symm)]
 ·rw[List.getElem?_eq_none (l:=mkV (fun i=>if i=j then x else f i) n) (by rw[mkV_len];omega)]
  split
  ·rw[mkV_len,if_neg (by omega)]
  ·rw[List.getElem?_eq_none (by rw[mkV_len];omega)]
theorem mkV_self {l:List Int} {n:Nat} (h:l.length=n):mkV (fun i=>l.getD i 0) n=l:=by
 refine List.ext_getElem? fun i=>?_
 by_cases hi:i<n
 ·rw[mkV_at hi,List.getElem?_eq_getElem (by omega),List.getD_eq_getElem?_getD,List.getElem?_eq_getElem (by omega)];rfl
 ·rw[List.getElem?_eq_none (by rw[mkV_len];omega),List.getElem?_eq_none (by omega)]
theorem mkB_at {D:Nat→Bool} {n i:Nat} (h:i<n):(mkB D n)[i]?=some (D i):=by unfold mkB;rw[List.getElem?_map,List.getElem?_range h];rfl
theorem mkB_congr {f g:Nat→Bool} {n:Nat} (h: ∀i,i<n→f i=g i):mkB f n=mkB g n:=List.map_congr_left fun i hi=>h i (List.mem_range.1 hi)
theorem mkB_set (f:Nat→Bool) (n j:Nat) (x:Bool):(mkB f n).set j x=mkB (fun i=>if i=j then x else f i) n:=by
 refine List.ext_getElem? fun i=>?_
 rw[List.getElem?_set]
 by_cases hi:i<n
 ·rw[mkB_at (D:=fun i=>if i=j then x else f i) hi]
  by_cases h:j=i
  ·subst h;rw[if_pos rfl,mkB_len,if_pos hi,if_pos rfl]
  ·rw[if_neg h,mkB_at hi,if_neg (fun e=>h e.symm)]
 ·rw[List.getElem?_eq_none (l:=mkB (fun i=>if i=j then x else f i) n) (by rw[mkB_len];omega)]
  split
  ·rw[mkB_len,if_neg (by omega)]
  ·rw[List.getElem?_eq_none (by rw[mkB_len];omega)]
theorem mkB_self {l:List Bool} {n:Nat} (h:l.length=n):mkB (isB l) n=l:=by
 refine List.ext_getElem? fun i=>?_
 by_cases hi:i<n
 ·rw[mkB_at hi,bG (by omega)]
 ·rw[List.getElem?_eq_none (by rw[mkB_len];omega),List.getElem?_eq_none (by omega)]
def frv (v:List Int) (a b:List Bool) (i:Nat):Int:=if isB b i=true then-1000000000 else if isB a i=true then 0 else v.getD i 0
def freeV (v:List Int) (a b:List Bool) (n:Nat):List Int:=mkV (frv v a b) n
def frTo (v:List Int) (a b:List Bool) (n i:Nat):List Int:=mkV (fun j=>if j<i then frv v a b j else v.getD j 0) n
theorem frTo_0 {v:List Int} {a b:List Bool} {n:Nat} (h:v.length=n):frTo v a b n 0=v:=by
 unfold frTo
 rw[mkV_congr (g:=fun i=>v.getD i 0) (fun i _=>if_neg (by omega))];exact mkV_self h
theorem frTo_n {v:List Int} {a b:List Bool} {n:Nat}:frTo v a b n n=freeV v a b n:=mkV_congr fun i hi=>if_pos hi
theorem frTo_at {v:List Int} {a b:List Bool} {n i:Nat} (h:i<n):(frTo v a b n i)[i]?=some (v.getD i 0):=by unfold frTo;rw[mkV_at h,if_neg (by omega)]
theorem frTo_put {v:List Int} {a b:List Bool} {n i:Nat} {x:Int} (h:frv v a b i=x):(frTo v a b n i).set i x=frTo v a b n (i+1):=by
 unfold frTo
 rw[mkV_set];refine mkV_congr fun j hj=>?_
 by_cases e:j=i
 ·subst e;rw[if_pos rfl,if_pos (by omega),h]
 ·rw[if_neg e]
  by_cases c:j<i
  ·rw[if_pos c,if_pos (by omega)]
  ·rw[if_neg c,if_neg (by omega)]
theorem frTo_keep {v:List Int} {a b:List Bool} {n i:Nat} (h:frv v a b i=v.getD i 0):frTo v a b n (i+1)=frTo v a b n i:=by
 unfold frTo
 refine mkV_congr fun j hj=>?_
 by_cases e:j=i
 ·subst e;rw[if_pos (by omega),if_neg (by omega),h]
 ·by_cases c:j<i
  ·rw[if_pos c,if_pos (by omega)]
  ·rw[if_neg c,if_neg (by omega)]
def outTo (B a:List Bool) (n i:Nat):List Bool:=mkB (fun z=>if 1≤z∧z≤i then(isB B z||isB a (z-1))else isB B z) (n+2)
theorem outTo_0 {B a:List Bool} {n:Nat} (h:B.length=n+2):outTo B a n 0=B:=by
 unfold outTo
 rw[mkB_congr (g:=isB B) (fun i _=>if_neg (by omega))];exact mkB_self h
theorem outTo_len (B a:List Bool) (n i:Nat):(outTo B a n i).length=n+2:=mkB_len _ _
theorem outTo_at {B a:List Bool} {n i:Nat} (h:i<n):(outTo B a n i)[1+i]?=some (isB B (i+1)):=by
 unfold outTo
 rw[mkB_at (by omega),if_neg (by omega),Nat.add_comm]
theorem outTo_put {B a:List Bool} {n i:Nat} {x:Bool} (h:(isB B (i+1)||isB a i)=x):(outTo B a n i).set (1+i) x=outTo B a n (i+1):=by
 unfold outTo
 rw[mkB_set];refine mkB_congr fun j hj=>?_
 by_cases e:j=1+i
 ·subst e;rw[if_pos rfl,if_pos (by omega),Nat.add_comm 1 i,Nat.add_sub_cancel,h]
 ·rw[if_neg e]
  by_cases c:1≤j∧j≤i
  ·rw[if_pos c,if_pos (by omega)]
  ·rw[if_neg c,if_neg (by omega)]
def resB (arcs:List (List Int)) (v:List Int) (a b:List Bool):List Bool:=mkB (fun i=>isB (bestB arcs (freeV v a b arcs.length)) i||isB a i) arcs.length
theorem out_res {B a m:List Bool} {n:Nat} (h: ∀i,i<n→isB B (i+1)=isB m i):((outTo B a n n).take (n+1)).drop 1=mkB (fun i=>isB m i||isB a i) n:=by
 refine List.ext_getElem? fun i=>?_
 rw[List.getElem?_drop]
 by_cases hi:i<n
 ·rw[List.getElem?_take,if_pos (by omega),mkB_at hi]
  unfold outTo
  rw[mkB_at (by omega),if_pos (by omega),Nat.add_comm 1 i,h i hi,Nat.add_sub_cancel]
 ·rw[List.getElem?_eq_none (l:=mkB _ n) (by rw[mkB_len];omega),List.getElem?_take,if_neg (by omega)]
def MkArg (w:World) (n:Nat) (v:Value) (l:List Bool):Prop:=(v= .slice none 0 0∧l=[])∨ ∃ad c,v= .slice (some ad) l.length c∧l.length=n∧Kd.C Kd.bool w (some ad) l.length l
theorem mark_at {w:World} {ad:Addr} {l:List Bool} (h:Kd.C Kd.bool w (some ad) l.length l) {i:Nat} (hi:i<l.length):w.cell? (ad.add i)=some (.bool (isB l i)):=by
 obtain⟨ad',e,hc⟩:=Kd.at_bool h (i:Int) (Int.natCast_nonneg _) (by omega)
 injection e with e
 subst e;rw[Int.toNat_natCast]at hc;have e1:rdOf false l (i:Int)=isB l i:=by unfold rdOf isB;rw[Int.toNat_natCast]
 rw[e1]at hc;exact hc
theorem isB_nil (i:Nat):isB [] i=false:=rfl
theorem mk_cases {w:World} {n:Nat} {v:Value} {l:List Bool} (h:MkArg w n v l) {i:Nat} (hi:i<n):
  (v= .slice none 0 0∧isB l i=false)∨(∃ad c,v= .slice (some ad) n c∧w.cell? (ad.add i)=some (.bool false)∧isB l i=false)∨(∃ad c,v= .slice (some ad) n c∧w.cell? (ad.add i)=some (.bool true)∧isB l i=true):=by
 rcases h with⟨h1,h2⟩|⟨ad,c,h1,h2,h3⟩
 ·exact .inl ⟨h1,by rw[h2];rfl⟩
 ·have hc:=mark_at h3 (by omega:i<l.length);rw[h2]at h1;cases hb:isB l i
  ·rw[hb]at hc;exact .inr (.inl ⟨ad,c,h1,hc,rfl⟩)
  ·rw[hb]at hc;exact .inr (.inr ⟨ad,c,h1,hc,rfl⟩)
theorem MkArg.below {w w1:World} {n:Nat} {v:Value} {l:List Bool} (h:MkArg w n v l) (hb:Below w.heap.size w w1):MkArg w1 n v l:=h.imp id fun⟨ad,c,h1,h2,h3⟩=>⟨ad,c,h1,h2,Kd.C_below h3 hb⟩
theorem cell_far' {w:World} {a:Addr} {b i:Nat} {u v:Value} (h:w.cell? a=some v) (hb:a.block≠b):(w.setCell ⟨b,i,none⟩ u).cell? a=some v:=cell_far h hb
set_option maxHeartbeats 8000000 in
set_option maxRecDepth 100000 in
theorem bestPit_calls (A0:Option Addr) (c0:Nat) (l0:List (List Int)) (A1:Option Addr) (c1:Nat) (l1:List Int) (v2 v3:Value) (l2 l3:List Bool) (w:World) (hr0:Kd.C (Kd.slice 3 (Kd.int .i64)) w A0 l0.length l0) (hc0:l0.length≤c0) (hr1:Kd.C (Kd.int .i64) w A1 l1.length l1) (hc1:l1.length≤c1) (hm2:MkArg w l0.length v2 l2) (hm3:MkArg w l0.length v3 l3) (hn1:1≤l0.length) (hvl:l1.length=l0.length) (F:Fit l0 (freeV l1 l2 l3 l0.length)):
  Calls Try.prog 79 #[.slice A0 l0.length c0,.slice A1 l1.length c1,v2,v3,.bool false] w fun e w'=> ∃v0_:Value,e= .returned v0_∧Kd.V Kd.bool 4 w' w.heap.size (fun k_=>w.heap.size≤k_) v0_ (resB l0 l1 l2 l3)∧Below w.heap.size w w':=by
 have hn:=F.n;obtain⟨k1,h1⟩:=(pitNetwork_ev F).rounds
 rcases F.reach (φ:=fun _ V=>V) (fun L B V R=>R) (big:=1152921504606846976) (by omega)with⟨k,L',s',B,V,hrun,hbfs,hR,hb0,hbN,hbi,-⟩
 have HR0:=Aside0.mk hr0;have HR1:=Aside0.mk hr1;have HC0:=Aside0.mk hc0;have HC1:=Aside0.mk hc1;have H1:=Aside0.mk h1;have HRUN:=Aside0.mk hrun;have HBF:=Aside0.mk hbfs;have HRE:=Aside0.mk hR;have HF:=Aside0.mk F;have HBI:=Aside0.mk hbi;have HM2:=Aside0.mk hm2;have HM3:=Aside0.mk hm3;have HVL:=Aside0.mk hvl;have HB:=Aside0.mk (Below.refl w.heap.size w);clear hr0 hr1 hc0 hc1 h1 hrun hbfs hR F hb0 hbN hbi hm2 hm3 hvl;have hu44:=Try.underlying80
 go_enter Try.func79,Try.ntmps79
 go_wp2_with(first|((with_reducible refine gate_dst (N:=19) rfl ?_);refine Kd.R_lit (Kd.int .i64) _ 3 ?hg (N:=19) ?hd (xs:=([]:List Int)) (inner:=[]) (ok:=fun _=>True) (okp:=fun _=>True) ?hr ?hp (fun _ hk=>hk) trivial (Below.refl _ _) (Nat.le_refl _) (by simp) ?_;(case hd=>rfl);(case hg=>rfl);(case hr=>first|(go_simp;done)|(go_simp;rfl));(case hp=>exact(Reps.none _ _));intro v171 w3 ho4 hb hg_ hnew_;clear hg_ hnew_;have n0_:=Aside0.mk ho4;have n1_:=Aside0.mk hb;clear HB;have HO172:=n0_;have HB:=n1_;clear n0_ n1_ hb ho4)|((with_reducible refine gate_builtin (b:= .append) (xs:= #[.tmp 19,.tmp 20]) rfl ?_);at_builtin;refine Kd.R_append_rows (Kd.int .i64) (w0:=w) w.heap.size rfl (.tmp 19) (.tmp 20) 24 3 (.int .i64 0) 8 rfl Try.underlying24 infoI rfl (by decide) (by omega) v171 [] l1 _ _ _ (fun _=>True) (fun _=>False) rfl rfl ?aO ?aR (fun _ _ h=>h) (fun _ h=>h.elim) ?aF ?aB ?aS ?aL ?_;(case aR=>exact(Kd.C_below HR1.out HB.out));(case aB=>exact HB.out);(case aF=>exact(fun _ _=>trivial));(case aO=>exact HO172.out);(case aS=>exact(below_size HB.out));(case aL=>(have:=HVL.out;show(([]:List Int).length+l1.length)*8≤_;simp only[List.length_nil];omega));intro v174 w5 ho hb hg hat;rw[List.nil_append]at ho;have n0_:=Aside0.mk hb;have n1_:=Aside0.mk ho;clear HB HO172;have HB:=n0_;have HO:=n1_;clear n0_ n1_ ho hb hg hat;obtain⟨bF,cF,ef,hf1,hf2,_⟩:=Kd.R_form HO.out (by rw[HVL.out];omega);rw[HVL.out]at ef;subst ef))
 have HBF0:=Aside0.mk hf1;clear hf1 hf2
 go_loopg [12,24] l0.length (fun kq v12 v24 w'=> ∃i:Nat,i+kq=l0.length∧v24= .int .i64 (i:Int)∧Aside0 (Kd.R (Kd.int .i64) 3 w' w.heap.size (fun _=>True) (.slice (some ⟨bF,0,none⟩) l0.length cF) (frTo l1 l2 l3 l0.length i))∧Aside0 (Below w.heap.size w w'))
 case atStart=>exact⟨0,by omega,rfl,⟨by rw[frTo_0 HVL.out];exact HO.out⟩,HB⟩
 case round=>
  clear HO HB;obtain⟨i,hi,rfl,HO,HB⟩:=hrel
  by_cases hin:i<l0.length
  ·have ht:decide ((i:Int)<(l0.length:Int))=true:=decide_eq_true (by omega);have ht2:decide (i<l0.length)=true:=decide_eq_true hin;obtain⟨f0,f1⟩:=int_at HO.out (frTo_at hin);have hc2:=mk_cases (HM2.out.below HB.out) hin;have hc3:=mk_cases (HM3.out.below HB.out) hin;have hbF: ∀ {a:Addr} {c:Nat} {l:List Bool},MkArg w l0.length (.slice (some a) l0.length c) l→a.block≠bF:= @fun a c l h=>by
    rcases h with⟨h,_⟩|⟨ad,c,h,hl,hC⟩
    ·cases h
    ·injection h with h _ _
     injection h with h
     subst h;obtain⟨ad',e,hc⟩:=Kd.at_bool hC 0 (Int.le_refl _) (by omega)
     injection e with e
     subst e
     have:=World.block_lt_of_cell? w _ hc
     have:=HBF0.out
     have e2:(a.add (Int.toNat 0)).block=a.block:=by simp[Addr.add]
     omega
   have hMw2:=HM2.out;have hMw3:=HM3.out
   rcases hc2 with⟨rfl,x2⟩|⟨ad2,k2,rfl,g2,x2⟩|⟨ad2,k2,rfl,g2,x2⟩
   ·rcases hc3 with⟨rfl,x3⟩|⟨ad3,k3,rfl,g3,x3⟩|⟨ad3,k3,rfl,g3,x3⟩
    ·have hfr:frv l1 l2 l3 i=l1.getD i 0:=by unfold frv;rw[x3,x2];rfl
     have HFR:=Aside0.mk hfr;clear hfr hMw2 hMw3 x2 x3;go_wp2
     go_roundg (l0.length-(i+1))
     case measure=>omega
     case rel=>exact⟨i+1,by omega,rfl,⟨by rw[frTo_keep HFR.out];exact HO.out⟩,HB⟩
    ·have hfr:frv l1 l2 l3 i=l1.getD i 0:=by unfold frv;rw[x3,x2];rfl
     have HFR:=Aside0.mk hfr;have hb3:=hbF hMw3;clear hfr hMw2 hMw3 x2 x3;go_wp2
     go_roundg (l0.length-(i+1))
     case measure=>omega
     case rel=>exact⟨i+1,by omega,rfl,⟨by rw[frTo_keep HFR.out];exact HO.out⟩,HB⟩
    ·have hfr:frv l1 l2 l3 i= -1000000000:=by unfold frv;rw[x3,x2];rfl
     have HFR:=Aside0.mk hfr;have hb3:=hbF hMw3;clear hfr hMw2 hMw3 x2 x3
     go_wp2_with(first|((with_reducible refine gate_store (t:=3) (p:=48) rfl ?_);refine store_event (t:=3) (p:=48) (v:=?vo48) (w1:=(wr.setCell ⟨bF,i,none⟩ (.int .i64 (-1000000000)))) ?hg ?ho ?hn ?hr ?_;(case ho=>rfl);(case hg=>rfl);(case hn=>rfl);(case hr=>first|(go_simp;done)|(go_simp;rfl));intro W4 hw;have HO4:=Aside0.mk (show Kd.R (Kd.int .i64) 3 W4 w.heap.size (fun _=>True) (.slice (some ⟨bF,0,none⟩) l0.length cF) ((frTo l1 l2 l3 l0.length i).set i (-1000000000))from hw▸Kd.R_putn (enc:=Value.int .i64) HO.out (i:Int) (-1000000000));have HB4:=Aside0.mk (show Below w.heap.size w W4 from hw▸below_set (j:=i) (v:= .int .i64 (-1000000000)) HB.out HBF0.out);clear hw HO HB))
     go_roundg (l0.length-(i+1))
     case measure=>omega
     case rel=>exact⟨i+1,by omega,rfl,⟨by have:=HO4.out;rw[frTo_put HFR.out]at this;exact this⟩,HB4⟩
   ·rcases hc3 with⟨rfl,x3⟩|⟨ad3,k3,rfl,g3,x3⟩|⟨ad3,k3,rfl,g3,x3⟩
    ·have hfr:frv l1 l2 l3 i=l1.getD i 0:=by unfold frv;rw[x3,x2];rfl
     have HFR:=Aside0.mk hfr;have hb2:=hbF hMw2;clear hfr hMw2 hMw3 x2 x3;go_wp2
     go_roundg (l0.length-(i+1))
     case measure=>omega
     case rel=>exact⟨i+1,by omega,rfl,⟨by rw[frTo_keep HFR.out];exact HO.out⟩,HB⟩
    ·have hfr:frv l1 l2 l3 i=l1.getD i 0:=by unfold frv;rw[x3,x2];rfl
     have HFR:=Aside0.mk hfr;have hb2:=hbF hMw2;have hb3:=hbF hMw3;clear hfr hMw2 hMw3 x2 x3;go_wp2
     go_roundg (l0.length-(i+1))
     case measure=>omega
     case rel=>exact⟨i+1,by omega,rfl,⟨by rw[frTo_keep HFR.out];exact HO.out⟩,HB⟩
    ·have hfr:frv l1 l2 l3 i= -1000000000:=by unfold frv;rw[x3,x2];rfl
     have HFR:=Aside0.mk hfr;have hb2:=hbF hMw2;have hb3:=hbF hMw3;clear hfr hMw2 hMw3 x2 x3
     go_wp2_with(first|((with_reducible refine gate_store (t:=3) (p:=48) rfl ?_);refine store_event (t:=3) (p:=48) (v:=?vo48) (w1:=(wr.setCell ⟨bF,i,none⟩ (.int .i64 (-1000000000)))) ?hg ?ho ?hn ?hr ?_;(case ho=>rfl);(case hg=>rfl);(case hn=>rfl);(case hr=>first|(go_simp;done)|(go_simp;rfl));intro W4 hw;have HO4:=Aside0.mk (show Kd.R (Kd.int .i64) 3 W4 w.heap.size (fun _=>True) (.slice (some ⟨bF,0,none⟩) l0.length cF) ((frTo l1 l2 l3 l0.length i).set i (-1000000000))from hw▸Kd.R_putn (enc:=Value.int .i64) HO.out (i:Int) (-1000000000));have HB4:=Aside0.mk (show Below w.heap.size w W4 from hw▸below_set (j:=i) (v:= .int .i64 (-1000000000)) HB.out HBF0.out);clear hw HO HB))
     go_roundg (l0.length-(i+1))
     case measure=>omega
     case rel=>exact⟨i+1,by omega,rfl,⟨by have:=HO4.out;rw[frTo_put HFR.out]at this;exact this⟩,HB4⟩
   ·rcases hc3 with⟨rfl,x3⟩|⟨ad3,k3,rfl,g3,x3⟩|⟨ad3,k3,rfl,g3,x3⟩
    ·have hfr:frv l1 l2 l3 i=0:=by unfold frv;rw[x3,x2];rfl
     have HFR:=Aside0.mk hfr;have hb2:=hbF hMw2;clear hfr hMw2 hMw3 x2 x3
     go_wp2_with(first|((with_reducible refine gate_store (t:=3) (p:=37) rfl ?_);refine store_event (t:=3) (p:=37) (v:=?vo37) (w1:=(wr.setCell ⟨bF,i,none⟩ (.int .i64 0))) ?hg ?ho ?hn ?hr ?_;(case ho=>rfl);(case hg=>rfl);(case hn=>rfl);(case hr=>first|(go_simp;done)|(go_simp;rfl));intro W3 hw;have HO3:=Aside0.mk (show Kd.R (Kd.int .i64) 3 W3 w.heap.size (fun _=>True) (.slice (some ⟨bF,0,none⟩) l0.length cF) ((frTo l1 l2 l3 l0.length i).set i 0)from hw▸Kd.R_putn (enc:=Value.int .i64) HO.out (i:Int) 0);have HB3:=Aside0.mk (show Below w.heap.size w W3 from hw▸below_set (j:=i) (v:= .int .i64 0) HB.out HBF0.out);obtain⟨f0',f1'⟩:=int_at HO3.out (i:=i) (v:=0) (by rw[List.getElem?_set_self (by unfold frTo;rw[mkV_len];exact hin)]);clear hw f0 f1 HO HB))
     go_roundg (l0.length-(i+1))
     case measure=>omega
     case rel=>exact⟨i+1,by omega,rfl,⟨by have:=HO3.out;rw[frTo_put HFR.out]at this;exact this⟩,HB3⟩
    ·have hfr:frv l1 l2 l3 i=0:=by unfold frv;rw[x3,x2];rfl
     have HFR:=Aside0.mk hfr;have hb2:=hbF hMw2;have hb3:=hbF hMw3;clear hfr hMw2 hMw3 x2 x3;have hg3: ∀W3,W3=wr.setCell ⟨bF,i,none⟩ (.int .i64 0)→W3.cell? (ad3.add i)=some (.bool false):=fun W3 hw=>by subst hw;exact cell_far' (i:=i) (u:= .int .i64 0) g3 (by rw[add_block];exact hb3)
     go_wp2_with(first|((with_reducible refine gate_store (t:=3) (p:=37) rfl ?_);refine store_event (t:=3) (p:=37) (v:=?vo37) (w1:=(wr.setCell ⟨bF,i,none⟩ (.int .i64 0))) ?hg ?ho ?hn ?hr ?_;(case ho=>rfl);(case hg=>rfl);(case hn=>rfl);(case hr=>first|(go_simp;done)|(go_simp;rfl));intro W3 hw;have HO3:=Aside0.mk (show Kd.R (Kd.int .i64) 3 W3 w.heap.size (fun _=>True) (.slice (some ⟨bF,0,none⟩) l0.length cF) ((frTo l1 l2 l3 l0.length i).set i 0)from hw▸Kd.R_putn (enc:=Value.int .i64) HO.out (i:Int) 0);have HB3:=Aside0.mk (show Below w.heap.size w W3 from hw▸below_set (j:=i) (v:= .int .i64 0) HB.out HBF0.out);obtain⟨f0',f1'⟩:=int_at HO3.out (i:=i) (v:=0) (by rw[List.getElem?_set_self (by unfold frTo;rw[mkV_len];exact hin)]);have g3':=hg3 W3 hw;clear g3 hg3 hw f0 f1 HO HB))
     go_roundg (l0.length-(i+1))
     case measure=>omega
     case rel=>exact⟨i+1,by omega,rfl,⟨by have:=HO3.out;rw[frTo_put HFR.out]at this;exact this⟩,HB3⟩
    ·have hfr:frv l1 l2 l3 i= -1000000000:=by unfold frv;rw[x3,x2];rfl
     have HFR:=Aside0.mk hfr;have hb2:=hbF hMw2;have hb3:=hbF hMw3;clear hfr hMw2 hMw3 x2 x3;have hg3: ∀W3,W3=wr.setCell ⟨bF,i,none⟩ (.int .i64 0)→W3.cell? (ad3.add i)=some (.bool true):=fun W3 hw=>by subst hw;exact cell_far' (i:=i) (u:= .int .i64 0) g3 (by rw[add_block];exact hb3)
     go_wp2_with(first|((with_reducible refine gate_store (t:=3) (p:=37) rfl ?_);refine store_event (t:=3) (p:=37) (v:=?vo37) (w1:=(wr.setCell ⟨bF,i,none⟩ (.int .i64 0))) ?hg ?ho ?hn ?hr ?_;(case ho=>rfl);(case hg=>rfl);(case hn=>rfl);(case hr=>first|(go_simp;done)|(go_simp;rfl));intro W3 hw;have HO3:=Aside0.mk (show Kd.R (Kd.int .i64) 3 W3 w.heap.size (fun _=>True) (.slice (some ⟨bF,0,none⟩) l0.length cF) ((frTo l1 l2 l3 l0.length i).set i 0)from hw▸Kd.R_putn (enc:=Value.int .i64) HO.out (i:Int) 0);have HB3:=Aside0.mk (show Below w.heap.size w W3 from hw▸below_set (j:=i) (v:= .int .i64 0) HB.out HBF0.out);obtain⟨f0',f1'⟩:=int_at HO3.out (i:=i) (v:=0) (by rw[List.getElem?_set_self (by unfold frTo;rw[mkV_len];exact hin)]);have g3':=hg3 W3 hw;clear g3 hg3 hw f0 f1 HO HB)|((with_reducible refine gate_store (t:=3) (p:=48) rfl ?_);refine store_event (t:=3) (p:=48) (v:=?vo48) (w1:=(W3.setCell ⟨bF,i,none⟩ (.int .i64 (-1000000000)))) ?hg ?ho ?hn ?hr ?_;(case ho=>rfl);(case hg=>rfl);(case hn=>rfl);(case hr=>first|(go_simp;done)|(go_simp;rfl));intro W4 hw;have HO4:=Aside0.mk (show Kd.R (Kd.int .i64) 3 W4 w.heap.size (fun _=>True) (.slice (some ⟨bF,0,none⟩) l0.length cF) (((frTo l1 l2 l3 l0.length i).set i 0).set i (-1000000000))from hw▸Kd.R_putn (enc:=Value.int .i64) HO3.out (i:Int) (-1000000000));have HB4:=Aside0.mk (show Below w.heap.size w W4 from hw▸below_set (j:=i) (v:= .int .i64 (-1000000000)) HB3.out HBF0.out);clear hw HO3 HB3))
     go_roundg (l0.length-(i+1))
     case measure=>omega
     case rel=>exact⟨i+1,by omega,rfl,⟨by have:=HO4.out;rw[List.set_set,frTo_put HFR.out]at this;exact this⟩,HB4⟩
  ·have ht:decide ((i:Int)<(l0.length:Int))=false:=decide_eq_false (by omega);have ht2:decide (i<l0.length)=false:=decide_eq_false hin;have hin2:i=l0.length:=by omega
   have HO2:=Aside0.mk (show Kd.R (Kd.int .i64) 3 wr w.heap.size (fun _=>True) (.slice (some ⟨bF,0,none⟩) l0.length cF) (freeV l1 l2 l3 l0.length)from by have:=HO.out;rw[hin2,frTo_n]at this;exact this);clear HO;obtain⟨-,hcF,hCF⟩:=Kd.R_reads' HO2.out;have hfl:(freeV l1 l2 l3 l0.length).length=l0.length:=mkV_len _ _;rw[hfl]at hCF;have HCF:=Aside0.mk hCF;have HHF:=Aside0.mk hcF;have HFL:=Aside0.mk hfl;clear hCF hcF hfl hi hin hin2
   go_wp2_with fail
   refine(show Calls Try.prog 74 #[.slice A0 l0.length c0,.slice (some ⟨bF,0,none⟩) l0.length cF] wr _ from by
    have q:=impl_pitNetwork.calls k1 A0 c0 l0 (some ⟨bF,0,none⟩) cF (freeV l1 l2 l3 l0.length) _ _ wr (Kd.C_below HR0.out HB.out) HC0.out (by rw[HFL.out];exact HCF.out) (by rw[HFL.out];exact HHF.out) H1.out;rw[HFL.out]at q;exact q).mono ?_
   rintro e1 w2 ⟨v4,rfl,hE,hB2⟩;obtain⟨A,c,rfl,hc,hC⟩:=Kd.R_reads hE;have HE:=Aside0.mk (edC_of hC);have HB2:=Aside0.mk (below_step HB.out hB2);clear hE hB2 hC hc HO2 HB HCF HHF;rw[List.length_map]
   go_wp2_with fail
   refine(show Calls Try.prog 86 #[.int .i64 ((l0.length:Int)+2),.slice A (netOf l0 (freeV l1 l2 l3 l0.length)).length c] w2 _ from newres_calls (n:=l0.length+2) (by omega) (by omega) (es:=netOf l0 (freeV l1 l2 l3 l0.length)) (C:=1000000000) (Nat.le_trans HF.out.big (by omega)) (HF.out.edges _ (Nat.le_refl _)) w2 w2 (Below.refl _ _) HE.out).mono ?_;rintro e3 w3 ⟨g,bE,cE,vT,vL,col,rfl,hbox,hBd,hg,hgs,hB3,hcg,hnil⟩;obtain⟨bT,cT,bL,cL,hS⟩:=Rs.of_new hbox hBd hcg hnil hg hgs;have HS:=Aside0.mk hS;have HB3:=Aside0.mk hB3;clear hbox hBd hcg hnil hg hgs hS hB3 HE
   go_wp2_with fail
   refine(run_calls (by omega) (by omega) (by have:=HF.out.big;omega) w2 w3 HB3.out HS.out HRUN.out).mono ?_;rintro e4 w4 ⟨vV,vX,rfl,hS4,hB4,hK4⟩;have HS4:=Aside0.mk hS4;have HB4:=Aside0.mk hB4;clear hS4 hB4 hK4 HS HB3 HRUN
   go_wp2_with fail
   refine(from_calls (by omega) (by omega) w2 w4 HB4.out HS4.out HBF.out).mono ?_;rintro e5 w5 ⟨vB,bV,cV,rfl,hRB,hv,hbV,hS5,hB5,hK5⟩;have hBl:=HRE.out.Bl;obtain⟨bB,cB,eB,hq1,hq2,_⟩:=Kd.R_form hRB (by rw[hBl];omega);rw[hBl]at eB;subst eB;have HRB:=Aside0.mk (show Kd.R Kd.bool 4 w5 w.heap.size (fun k=>w.heap.size≤k) (.slice (some ⟨bB,0,none⟩) (l0.length+2) cB) (outTo B l2 l0.length 0)from by
    rw[outTo_0 hBl];exact Kd.R_lower (Kd.R_mono hRB (fun k hk=>Nat.le_trans HB2.out.size (Nat.le_trans HB4.out.size hk))) HB2.out.size)
   have HB5:=Aside0.mk (below_weaken HB2.out HB2.out.size hB5);have hcB:l0.length+2≤cB:=(Kd.R_reads' HRB.out).2.1;have hbB:w.heap.size≤bB:=HRB.out.1 bB rfl;clear hRB hv hbV hS5 hB5 hK5 HS4 HB4 hq1 hq2 HB2 HBF;obtain⟨iB,hiB,hzB,hszB,hbyB⟩:=info_parts infoB;have hcut:=cut_mid (P:=Try.prog) 80 4 .i64 .i64 Try.underlying80 hiB 1 hszB (some ⟨bB,0,none⟩) (l0.length+2) cB 1 ((l0.length:Int)+1) (by omega) (by omega) (by omega) hcB;have e1:(if cB=(1:Int).toNat then(some ⟨bB,0,none⟩:Option Addr)else(some ⟨bB,0,none⟩:Option Addr).map (·.add ((1:Int).toNat*1)))=some ⟨bB,1,none⟩:=by
    rw[if_neg (by omega)];rfl
   have e2:((l0.length:Int)+1).toNat-(1:Int).toNat=l0.length:=by omega
   have e3:cB-(1:Int).toNat=cB-1:=by omega
   rw[e1,e2,e3]at hcut;have w12:wrap64 ((l0.length:Int)+2-1)=(l0.length:Int)+1:=by unfold wrap64;omega
   have w13:(l0.length:Int)+2-1=(l0.length:Int)+1:=by omega
   clear e1 e2 e3 hiB hzB hszB hbyB iB;go_wp2
   go_loopg [18,73] l0.length (fun kq v18 v73 w'=> ∃i:Nat,i+kq=l0.length∧v73= .int .i64 (i:Int)∧Aside0 (Kd.R Kd.bool 4 w' w.heap.size (fun k=>w.heap.size≤k) (.slice (some ⟨bB,0,none⟩) (l0.length+2) cB) (outTo B l2 l0.length i))∧Aside0 (Below w.heap.size w w'))
   case atStart=>exact⟨0,by omega,rfl,HRB,HB5⟩
   case round=>
    clear HRB HB5 hcut w12 w13;obtain⟨i,hi,rfl,HO,HB⟩:=hrel
    by_cases hin:i<l0.length
    ·have ht:decide ((i:Int)<(l0.length:Int))=true:=decide_eq_true (by omega);have ht2:decide (i<l0.length)=true:=decide_eq_true hin;obtain⟨f0,f1⟩:=bool_at HO.out (outTo_at hin);have hc2:=mk_cases (HM2.out.below HB.out) hin;cases hbb:isB B (i+1)with
     |true=>
      rw[hbb]at f0;have HX:=Aside0.mk (show(isB B (i+1)||isB l2 i)=true by rw[hbb];rfl);clear hbb hc2
      go_wp2_with(first|((with_reducible refine gate_store (t:=4) (p:=92) rfl ?_);refine store_event (t:=4) (p:=92) (v:=?vo92) (w1:=(wr.setCell ⟨bB,1+i,none⟩ (.bool true))) ?hg ?ho ?hn ?hr ?_;(case ho=>rfl);(case hg=>rfl);(case hn=>rfl);(case hr=>first|(go_simp;done)|(go_simp;rfl));intro W3 hw;have HO3:=Aside0.mk (show Kd.R Kd.bool 4 W3 w.heap.size (fun k=>w.heap.size≤k) (.slice (some ⟨bB,0,none⟩) (l0.length+2) cB) ((outTo B l2 l0.length i).set (1+i) true)from hw▸Kd.R_putn (enc:=Value.bool) HO.out ((1+i:Nat):Int) true);have HB3:=Aside0.mk (show Below w.heap.size w W3 from hw▸below_set (j:=1+i) (v:= .bool true) HB.out hbB);clear hw f0 f1 HO HB))
      go_roundg (l0.length-(i+1))
      case measure=>omega
      case rel=>exact⟨i+1,by omega,rfl,⟨by have:=HO3.out;rw[outTo_put HX.out]at this;exact this⟩,HB3⟩
     |false=>
      rw[hbb]at f0
      rcases hc2 with⟨rfl,x2⟩|⟨ad2,k2,rfl,g2,x2⟩|⟨ad2,k2,rfl,g2,x2⟩
      ·have HX:=Aside0.mk (show(isB B (i+1)||isB l2 i)=false by rw[hbb,x2];rfl);clear hbb x2
       go_wp2_with(first|((with_reducible refine gate_store (t:=4) (p:=92) rfl ?_);refine store_event (t:=4) (p:=92) (v:=?vo92) (w1:=(wr.setCell ⟨bB,1+i,none⟩ (.bool false))) ?hg ?ho ?hn ?hr ?_;(case ho=>rfl);(case hg=>rfl);(case hn=>rfl);(case hr=>first|(go_simp;done)|(go_simp;rfl));intro W3 hw;have HO3:=Aside0.mk (show Kd.R Kd.bool 4 W3 w.heap.size (fun k=>w.heap.size≤k) (.slice (some ⟨bB,0,none⟩) (l0.length+2) cB) ((outTo B l2 l0.length i).set (1+i) false)from hw▸Kd.R_putn (enc:=Value.bool) HO.out ((1+i:Nat):Int) false);have HB3:=Aside0.mk (show Below w.heap.size w W3 from hw▸below_set (j:=1+i) (v:= .bool false) HB.out hbB);clear hw f0 f1 HO HB))
       go_roundg (l0.length-(i+1))
       case measure=>omega
       case rel=>exact⟨i+1,by omega,rfl,⟨by have:=HO3.out;rw[outTo_put HX.out]at this;exact this⟩,HB3⟩
      ·have HX:=Aside0.mk (show(isB B (i+1)||isB l2 i)=false by rw[hbb,x2];rfl);clear hbb x2
       go_wp2_with(first|((with_reducible refine gate_store (t:=4) (p:=92) rfl ?_);refine store_event (t:=4) (p:=92) (v:=?vo92) (w1:=(wr.setCell ⟨bB,1+i,none⟩ (.bool false))) ?hg ?ho ?hn ?hr ?_;(case ho=>rfl);(case hg=>rfl);(case hn=>rfl);(case hr=>first|(go_simp;done)|(go_simp;rfl));intro W3 hw;have HO3:=Aside0.mk (show Kd.R Kd.bool 4 W3 w.heap.size (fun k=>w.heap.size≤k) (.slice (some ⟨bB,0,none⟩) (l0.length+2) cB) ((outTo B l2 l0.length i).set (1+i) false)from hw▸Kd.R_putn (enc:=Value.bool) HO.out ((1+i:Nat):Int) false);have HB3:=Aside0.mk (show Below w.heap.size w W3 from hw▸below_set (j:=1+i) (v:= .bool false) HB.out hbB);clear hw f0 f1 HO HB))
       go_roundg (l0.length-(i+1))
       case measure=>omega
       case rel=>exact⟨i+1,by omega,rfl,⟨by have:=HO3.out;rw[outTo_put HX.out]at this;exact this⟩,HB3⟩
      ·have HX:=Aside0.mk (show(isB B (i+1)||isB l2 i)=true by rw[hbb,x2];rfl);clear hbb x2
       go_wp2_with(first|((with_reducible refine gate_store (t:=4) (p:=92) rfl ?_);refine store_event (t:=4) (p:=92) (v:=?vo92) (w1:=(wr.setCell ⟨bB,1+i,none⟩ (.bool true))) ?hg ?ho ?hn ?hr ?_;(case ho=>rfl);(case hg=>rfl);(case hn=>rfl);(case hr=>first|(go_simp;done)|(go_simp;rfl));intro W3 hw;have HO3:=Aside0.mk (show Kd.R Kd.bool 4 W3 w.heap.size (fun k=>w.heap.size≤k) (.slice (some ⟨bB,0,none⟩) (l0.length+2) cB) ((outTo B l2 l0.length i).set (1+i) true)from hw▸Kd.R_putn (enc:=Value.bool) HO.out ((1+i:Nat):Int) true);have HB3:=Aside0.mk (show Below w.heap.size w W3 from hw▸below_set (j:=1+i) (v:= .bool true) HB.out hbB);clear hw f0 f1 HO HB))
       go_roundg (l0.length-(i+1))
       case measure=>omega
       case rel=>exact⟨i+1,by omega,rfl,⟨by have:=HO3.out;rw[outTo_put HX.out]at this;exact this⟩,HB3⟩
    ·have ht:decide ((i:Int)<(l0.length:Int))=false:=decide_eq_false (by omega);have ht2:decide (i<l0.length)=false:=decide_eq_false hin;have hin2:i=l0.length:=by omega
     go_wp2
     go_ret
     subst hin2;have hV:=Kd.F_mid (lo:=1) (hi:=l0.length+1) (c:=cB) (A:=some ⟨bB,0,none⟩) (by have q:=Kd.R_F HO.out;rw[←outTo_len B l2 l0.length l0.length]at q;exact q) (by omega) (by rw[outTo_len];omega) (by rw[outTo_len];exact hcB);rw[out_res HBI.out,if_neg (by omega),mkB_len]at hV;have hV2:Kd.F Kd.bool wr (fun k=>w.heap.size≤k) (some ⟨bB,1,none⟩) l0.length (resB l0 l1 l2 l3):=hV;exact⟨_,rfl,⟨some ⟨bB,1,none⟩,cB-1,by rw[show(resB l0 l1 l2 l3).length=l0.length from mkB_len _ _];rfl,by rw[show(resB l0 l1 l2 l3).length=l0.length from mkB_len _ _];omega,by rw[show(resB l0 l1 l2 l3).length=l0.length from mkB_len _ _];exact hV2⟩,HB.out⟩
end Go.Proofs.Ytlkppimbbbdmbaa.Res
