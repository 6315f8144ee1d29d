/- FnFactors over numbers and lists alone: what the program's text computes and what the reference's text computes is the same, for all arguments that the row lets in; no further condition. -/
import Derived.Test.YtlkppimbbbdmbaaPFnFactorsx
import Derived.Test.YtlkppimbbbdmbaaGen
import Derived.Test.YtlkppimbbbdmbaaOpn
set_option linter.unusedVariables false
set_option linter.unusedSimpArgs false
namespace Go.Proofs.Ytlkppimbbbdmbaa.Pure
open Go.RowKit Go.Proofs.Ytlkppimbbbdmbaa.PFnFactors Go.Proofs.YtlkppimbbbdmbaaW.PrintWords Go.Proofs.YtlkppimbbbdmbaaW.PrintLast Go.Proofs.Ytlkppimbbbdmbaa.Gen Go.Proofs.Ytlkppimbbbdmbaa.Opn
theorem l1In_eq (n a b:Int):spec_l1In.f n a b=some (decide (a≤n∧n≤b)):=by
 unfold spec_l1In.f
 by_cases h:n≥a
 ·rw[if_pos h];simp[show a≤n from h]
 ·rw[if_neg h];simp[show¬a≤n from h]
def inB (a b:Int) (x:Int):Bool:=decide (a≤x∧x≤b)
theorem l1All_l (a b:Int) (xs:List Int) (hx:xs.length<9223372036854775807): ∀(d i:Nat),i+d=xs.length→
  Ev (fun k=>spec_l1All.l0 k a b xs (xs.length:Int) (i:Int)) ((xs.drop i).all (inB a b)):=by
 intro d
 induction d with
 |zero=>
  intro i hi;refine Ev.step (fun k=>by rw[spec_l1All.l0]) ?_;refine Ev.neg (by omega) (Ev.cast ?_ (Ev.now _));rw[List.drop_eq_nil_of_le (by omega)];rfl
 |succ d ih=>
  intro i hi;refine Ev.step (fun k=>by rw[spec_l1All.l0]) ?_;refine Ev.pos (by omega) (Ev.pos (nn _) (Ev.pos (by omega) ?_));rw[rd_get xs i (by omega),dr xs i (by omega),l1In_eq];refine Ev.sbind (Ev.cases (fun h=>?_) (fun h=>?_))
  ·rw[wr_nat i _ (by omega) hx];refine Ev.cast ?_ (ih (i+1) (by omega));rw[List.all_cons,inB,h,Bool.true_and]
  ·refine Ev.cast ?_ (Ev.now _);rw[List.all_cons,inB,bf h,Bool.false_and]
theorem l1All_ev (a b:Int) (xs:List Int) (hx:xs.length<9223372036854775807):Ev (fun k=>spec_l1All.f k xs a b) (xs.all (inB a b)):=by
 unfold spec_l1All.f
 exact l1All_l a b xs hx xs.length 0 (by omega)
def gainsOk (g c:List Int) (n:Int):Bool:=decide (1≤n∧n≤120)&& decide ((g.length:Int)=n)&& decide ((c.length:Int)=n)&& g.all (inB 0 10000)&& c.all (inB 0 400000)
theorem spec_neGains_ev (g c:List Int) (n:Int) (hg:g.length<9223372036854775807) (hc:c.length<9223372036854775807):
  Ev (fun k=>spec_neGains.f k g c n) (gainsOk g c n):=by
 unfold spec_neGains.f gainsOk
 rw[l1In_eq];refine Ev.sbind ?_;refine Ev.cases (fun h1=>?_) (fun h=>Ev.cast (by rw[bf h];rfl) (Ev.now _));refine Ev.cases (fun h2=>?_) (fun h=>Ev.cast (by simp[h]) (Ev.now _));refine Ev.cases (fun h3=>?_) (fun h=>Ev.cast (by simp[h]) (Ev.now _));refine Ev.bind (l1All_ev _ _ _ hg) ?_;refine Ev.cases (fun h4=>?_) (fun h=>Ev.cast (by rw[bf h];simp) (Ev.now _));refine Ev.bind (l1All_ev _ _ _ hc) (Ev.cast ?_ (Ev.now _));rw[h1,h4];simp[h2,h3]
theorem impl_AreGains_l (g c:List Int) (n:Nat) (hn:n≤120) (hg:g.length=n) (hc:c.length=n): ∀(d i:Nat),i+d=n→
  Ev (fun k=>impl_AreGains.l0 k g c (n:Int) (i:Int)) ((g.drop i).all (inB 0 10000)&& (c.drop i).all (inB 0 400000)):=by
 intro d
 induction d with
 |zero=>
  intro i hi;refine Ev.step (fun k=>by rw[impl_AreGains.l0]) ?_;refine Ev.neg (by omega) (Ev.cast ?_ (Ev.now _));rw[dr0 _ _ (by omega),dr0 _ _ (by omega)];rfl
 |succ d ih=>
  intro i hi;refine Ev.step (fun k=>by rw[impl_AreGains.l0]) ?_;refine Ev.pos (by omega) (Ev.pos (nn _) (Ev.pos (by omega) ?_));rw[rd_get g i (by omega),rd_get c i (by omega),dr g i (by omega),dr c i (by omega),List.all_cons,List.all_cons]
  unfold inB
  refine Ev.cases (fun h=>Ev.cast (by simp;omega) (Ev.now _)) (fun h1=>?_);refine Ev.cases (fun h=>Ev.cast (by simp;omega) (Ev.now _)) (fun h2=>?_);refine Ev.pos (by omega) ?_;refine Ev.cases (fun h=>Ev.cast (by simp;omega) (Ev.now _)) (fun h3=>?_);refine Ev.cases (fun h=>Ev.cast (by simp;omega) (Ev.now _)) (fun h4=>?_);rw[wr_nat i _ (by omega) (by omega:n<_)];refine Ev.cast ?_ (ih (i+1) (by omega))
  unfold inB
  rw[decide_eq_true (show 0≤g[i]∧g[i]≤10000 by omega),decide_eq_true (show 0≤c[i]∧c[i]≤400000 by omega),Bool.true_and,Bool.true_and]
theorem impl_AreGains_ev (g c:List Int) (n:Int):
  Ev (fun k=>impl_AreGains.f k g c n) (gainsOk g c n):=by
 unfold impl_AreGains.f gainsOk
 have J: ∀r,r=false→Ev (fun k=>impl_AreGains.j0 k g c n true) r:=by
  intro r hr;subst hr;refine Ev.step (fun k=>by rw[impl_AreGains.j0]) ?_;exact Ev.pos rfl (Ev.now _)
 refine Ev.cases (fun h=>J _ (by simp;omega)) (fun h1=>?_);refine Ev.cases (fun h=>J _ (by simp;omega)) (fun h2=>?_);refine Ev.cases (fun h3=>?_) (fun h=>J _ (by simp[h]))
 by_cases h4:(c.length:Int)=n
 ·obtain⟨m,rfl⟩:=Int.eq_ofNat_of_zero_le (by omega:0≤n);refine Ev.step (fun k=>by rw[impl_AreGains.j0]) ?_;refine Ev.neg (by simp[h4]) ?_;refine Ev.cast ?_ (impl_AreGains_l g c m (by omega) (by omega) (by omega) m 0 (by omega));rw[decide_eq_true (show 1≤(m:Int)∧(m:Int)≤120 by omega),decide_eq_true h3,decide_eq_true h4];rfl
 ·rw[show((c.length:Int) !=n)=true by simp[h4]];exact J _ (by simp[h4])
def fvL (g c:List Int) (f:Int):List Int:=(List.range g.length).map fun i=>g.getD i 0*f-c.getD i 0
theorem fvL_take (g c:List Int) (f:Int) (i:Nat) (h:i<g.length):((List.range i).map fun i=>g.getD i 0*f-c.getD i 0)++[g.getD i 0*f-c.getD i 0]=(List.range (i+1)).map fun i=>g.getD i 0*f-c.getD i 0:=by
 rw[List.range_succ,List.map_append];rfl
theorem all_at {p:Int→Bool} {xs:List Int} (h:xs.all p=true) (i:Nat) (hi:i<xs.length):p (xs.getD i 0)=true:=by
 rw[List.all_eq_true]at h;rw[List.getD_eq_getElem?_getD,List.getElem?_eq_getElem hi];exact h _ (List.getElem_mem hi)
theorem fv_small (g c:List Int) (f:Int) (hg:g.all (inB 0 10000)=true) (hc:c.all (inB 0 400000)=true) (hl:c.length=g.length) (h0:0≤f) (h1:f≤60) (i:Nat) (hi:i<g.length):
  wrap64 (wrap64 (rd g (i:Int)*f)-rd c (i:Int))=g.getD i 0*f-c.getD i 0:=by
 rw[rd_nat,rd_nat];have a:=of_decide_eq_true (all_at hg i hi);have b:=of_decide_eq_true (all_at hc i (by omega));have m0:0≤g.getD i 0*f:=Int.mul_nonneg a.1 h0;have m1:g.getD i 0*f≤10000*60:=Int.mul_le_mul a.2 h1 h0 (by omega);rw[wr (g.getD i 0*f) (by omega) (by omega),wr _ (by omega) (by omega)]
theorem spec_neValues_l (g c:List Int) (f:Int) (hg:g.all (inB 0 10000)=true) (hc:c.all (inB 0 400000)=true) (hl:c.length=g.length) (h0:0≤f) (h1:f≤60) (hn:g.length≤120): ∀(d i:Nat),i+d=g.length→
  Ev (fun k=>spec_neValues.l0 k c f ((List.range i).map fun i=>g.getD i 0*f-c.getD i 0) g (g.length:Int) (i:Int)) (fvL g c f):=by
 intro d
 induction d with
 |zero=>
  intro i hi;refine Ev.step (fun k=>by rw[spec_neValues.l0]) ?_;refine Ev.neg (by omega) (Ev.cast ?_ (Ev.now _));rw[fvL,←hi];rfl
 |succ d ih=>
  intro i hi;refine Ev.step (fun k=>by rw[spec_neValues.l0]) ?_;refine Ev.pos (by omega) (Ev.pos (nn _) (Ev.pos (by omega) (Ev.pos (by omega) (Ev.pos (by simp;omega) ?_))));rw[fv_small g c f hg hc hl h0 h1 i (by omega),fvL_take g c f i (by omega),wr_nat i _ (by omega) (by omega:g.length<_)];exact ih (i+1) (by omega)
theorem impl_factorValues_l (g c:List Int) (f:Int) (hg:g.all (inB 0 10000)=true) (hc:c.all (inB 0 400000)=true) (hl:c.length=g.length) (h0:0≤f) (h1:f≤60) (hn:g.length≤120): ∀(d i:Nat),i+d=g.length→
  Ev (fun k=>impl_factorValues.l0 k c f ((List.range i).map fun i=>g.getD i 0*f-c.getD i 0) g (g.length:Int) (i:Int)) (fvL g c f):=by
 intro d
 induction d with
 |zero=>
  intro i hi;refine Ev.step (fun k=>by rw[impl_factorValues.l0]) ?_;refine Ev.neg (by omega) (Ev.cast ?_ (Ev.now _));rw[fvL,←hi];rfl
 |succ d ih=>
  intro i hi;refine Ev.step (fun k=>by rw[impl_factorValues.l0]) ?_;refine Ev.pos (by omega) (Ev.pos (nn _) (Ev.pos (by omega) (Ev.pos (by omega) (Ev.pos (by simp;omega) ?_))));rw[fv_small g c f hg hc hl h0 h1 i (by omega),fvL_take g c f i (by omega),wr_nat i _ (by omega) (by omega:g.length<_)];exact ih (i+1) (by omega)
theorem gainsOk_parts {g c:List Int} {n:Int} (h:gainsOk g c n=true):1≤n∧n≤120∧(g.length:Int)=n∧(c.length:Int)=n∧g.all (inB 0 10000)=true∧c.all (inB 0 400000)=true:=by
 unfold gainsOk at h
 simp only[Bool.and_eq_true,decide_eq_true_eq]at h;exact⟨h.1.1.1.1.1,h.1.1.1.1.2,h.1.1.1.2,h.1.1.2,h.1.2,h.2⟩
theorem neFactor_eq (f:Int):spec_neFactor.f f=some (decide (0≤f∧f≤60)):=by unfold spec_neFactor.f;rw[l1In_eq];rfl
theorem isFactor_eq (f:Int):impl_isFactor.f f=some (decide (0≤f∧f≤60)):=by
 unfold impl_isFactor.f
 by_cases h:f≥0
 ·rw[if_pos h];simp[show 0≤f from h]
 ·rw[if_neg h];simp[show¬0≤f from h]
def fvR (g c:List Int) (f:Int):List Int×Bool:=if gainsOk g c (g.length:Int)=true∧0≤f∧f≤60 then(fvL g c f,true)else([],false)
theorem spec_FactorValues_ev (g c:List Int) (f:Int) (hg:g.length<9223372036854775807) (hc:c.length<9223372036854775807):Ev (fun k=>spec_FactorValues.f k g c f) (fvR g c f):=by
 unfold spec_FactorValues.f fvR
 refine Ev.bind (spec_neGains_ev g c _ hg hc) (Ev.cases (fun h=>?_) (fun h=>Ev.cast (by rw[if_neg (fun e=>h e.1)]) (Ev.now _)));rw[neFactor_eq];refine Ev.sbind (Ev.cases (fun h2=>?_) (fun h2=>Ev.cast (by rw[if_neg (fun e=>h2 (decide_eq_true e.2))]) (Ev.now _)));have p:=gainsOk_parts h;have q:=of_decide_eq_true h2;rw[if_pos ⟨h,q⟩];exact Ev.bind (a:=fvL g c f) (by unfold spec_neValues.f;simpa using spec_neValues_l g c f p.2.2.2.2.1 p.2.2.2.2.2 (by omega) q.1 q.2 (by omega) g.length 0 (by omega)) (Ev.now _)
theorem impl_FactorValues_ev (g c:List Int) (f:Int):Ev (fun k=>impl_FactorValues.f k g c f) (fvR g c f):=by
 unfold impl_FactorValues.f fvR
 refine Ev.bind (impl_AreGains_ev g c _) (Ev.cases (fun h=>?_) (fun h=>Ev.cast (by rw[if_neg (fun e=>h e.1)]) (Ev.now _)));rw[isFactor_eq];refine Ev.sbind (Ev.cases (fun h2=>?_) (fun h2=>Ev.cast (by rw[if_neg (fun e=>h2 (decide_eq_true e.2))]) (Ev.now _)));have p:=gainsOk_parts h;have q:=of_decide_eq_true h2;rw[if_pos ⟨h,q⟩];exact Ev.bind (a:=fvL g c f) (by unfold impl_factorValues.f;simpa using impl_factorValues_l g c f p.2.2.2.2.1 p.2.2.2.2.2 (by omega) q.1 q.2 (by omega) g.length 0 (by omega)) (Ev.now _)
theorem rdL1_get (xs:List (List Int)) (i:Nat) (h:i<xs.length):rd_L1 xs (i:Int)=xs[i]:=by
 unfold rd_L1;rw[Int.toNat_natCast];simp[List.getD_eq_getElem?_getD,h]
theorem goodValues_ev (c:List Int):Ev (fun k=>impl_goodValues.f k c) (decide (1≤c.length∧c.length≤120)&& c.all (inB (-1000000) 1000000)):=by
 unfold impl_goodValues.f
 have J: ∀b:Bool,b=true→ ∀r,r=false→Ev (fun k=>impl_goodValues.j0 k c b) r:=by
  rintro b rfl r rfl;exact Ev.step (fun k=>by rw[impl_goodValues.j0]) (Ev.pos rfl (Ev.now _))
 refine Ev.cases (fun h=>J _ rfl _ (by rw[decide_eq_false (by omega)];rfl)) (fun h1=>?_)
 by_cases h2:(c.length:Int)>120
 ·exact J _ (decide_eq_true h2) _ (by rw[decide_eq_false (by omega)];rfl)
 ·rw[decide_eq_false h2];refine Ev.step (fun k=>by rw[impl_goodValues.j0]) (Ev.neg (by simp) ?_);rw[decide_eq_true (by omega),Bool.true_and];have key: ∀(d i:Nat),i+d=c.length→Ev (fun k=>impl_goodValues.l0 k c (c.length:Int) (i:Int)) ((c.drop i).all (inB (-1000000) 1000000)):=by
   intro d
   induction d with
   |zero=>
    intro i hi;refine Ev.step (fun k=>by rw[impl_goodValues.l0]) ?_;refine Ev.neg (by omega) (Ev.cast ?_ (Ev.now _));rw[dr0 _ _ (by omega)];rfl
   |succ d ih=>
    intro i hi;refine Ev.step (fun k=>by rw[impl_goodValues.l0]) ?_;refine Ev.pos (by omega) (Ev.pos (nn _) (Ev.pos (by omega) ?_));rw[rd_get c i (by omega),dr c i (by omega),List.all_cons]
    unfold inB
    refine Ev.cases (fun h=>Ev.cast (by rw[decide_eq_false (by omega)];rfl) (Ev.now _)) (fun h1=>?_);refine Ev.cases (fun h=>Ev.cast (by rw[decide_eq_false (by omega)];rfl) (Ev.now _)) (fun h2=>?_);rw[wr_nat i _ (by omega) (by omega:c.length<_),decide_eq_true (by omega),Bool.true_and];exact ih (i+1) (by omega)
  exact key c.length 0 (by omega)
theorem gD {α:Type} (xs:List α) (d:α) (i:Nat) (h:i<xs.length):xs.getD i d=xs[i]:=by
 rw[List.getD_eq_getElem?_getD,List.getElem?_eq_getElem h];rfl
def incr:List Int→Bool
 |a::b::t=>decide (a<b)&& incr (b::t)
 |_=>true
theorem incr_cons {a b:Int} {t:List Int}:incr (a::b::t)=(decide (a<b)&& incr (b::t)):=by rw[incr]
theorem incr_short (p:List Int) (h:p.length≤1):incr p=true:=by
 match p,h with
 |[],_=>rfl
 |[a],_=>rfl
 |a::b::t,h=>simp at h
def rise (lo hi:Int) (xs:List Int):Bool:=xs.all (inB lo hi)&& incr xs
theorem l1Rising_ev (xs:List Int) (lo hi:Int) (hx:xs.length<9223372036854775807):Ev (fun k=>spec_l1Rising.f k xs lo hi) (rise lo hi xs):=by
 unfold spec_l1Rising.f rise
 have key: ∀(d i:Nat),i+d=xs.length→Ev (fun k=>spec_l1Rising.l0 k xs lo hi xs (xs.length:Int) (i:Int)) ((xs.drop i).all (inB lo hi)&& incr (xs.drop (i-1))):=by
  intro d
  induction d with
  |zero=>
   intro i hi;refine Ev.step (fun k=>by rw[spec_l1Rising.l0]) ?_;refine Ev.neg (by omega) (Ev.cast ?_ (Ev.now _));rw[dr0 _ _ (by omega),incr_short _ (by rw[List.length_drop];omega)];rfl
  |succ d ih=>
   intro i hd;refine Ev.step (fun k=>by rw[spec_l1Rising.l0]) ?_;refine Ev.pos (by omega) (Ev.pos (nn _) (Ev.pos (by omega) ?_));rw[rd_get xs i (by omega),l1In_eq];refine Ev.sbind (Ev.cases (fun h=>?_) (fun h=>Ev.cast (by rw[dr xs i (by omega),List.all_cons,inB,bf h];rfl) (Ev.now _)));rw[dr xs i (by omega),List.all_cons,inB,h,Bool.true_and];refine Ev.cases (fun h1=>?_) (fun h1=>?_)
   ·have e:wrap64 ((i:Int)-1)=((i-1:Nat):Int):=by rw[wr _ (by omega) (by omega)];omega
    rw[e];refine Ev.pos (nn _) (Ev.pos (by omega) ?_);rw[rd_get xs (i-1) (by omega),dr xs (i-1) (by omega),show i-1+1=i by omega,dr xs i (by omega),incr_cons];refine Ev.cases (fun h2=>Ev.cast (by rw[decide_eq_false (show¬xs[i-1]<xs[i] by omega)];simp) (Ev.now _)) (fun h2=>?_);rw[decide_eq_true (show xs[i-1]<xs[i] by omega),Bool.true_and,←dr xs i (by omega),wr_nat i xs.length (by omega) hx];exact ih (i+1) (by omega)
   ·obtain rfl:i=0:=by omega
    rw[wr_nat 0 xs.length (by omega) hx];exact ih 1 (by omega)
 exact key xs.length 0 (by omega)
theorem areBlocks_ev (xs:List Int) (n:Int) (hx:xs.length<9223372036854775807):Ev (fun k=>impl_areBlocks.f k xs n) (rise 0 (n-1) xs):=by
 unfold impl_areBlocks.f rise
 have key: ∀(d i:Nat),i+d=xs.length→Ev (fun k=>impl_areBlocks.l0 k xs n xs (xs.length:Int) (i:Int)) ((xs.drop i).all (inB 0 (n-1))&& incr (xs.drop (i-1))):=by
  intro d
  induction d with
  |zero=>
   intro i hi;refine Ev.step (fun k=>by rw[impl_areBlocks.l0]) ?_;refine Ev.neg (by omega) (Ev.cast ?_ (Ev.now _));rw[dr0 _ _ (by omega),incr_short _ (by rw[List.length_drop];omega)];rfl
  |succ d ih=>
   intro i hd;refine Ev.step (fun k=>by rw[impl_areBlocks.l0]) ?_;refine Ev.pos (by omega) (Ev.pos (nn _) (Ev.pos (by omega) ?_));rw[rd_get xs i (by omega),dr xs i (by omega),List.all_cons];refine Ev.cases (fun h=>Ev.cast (by rw[inB,decide_eq_false (by omega)];rfl) (Ev.now _)) (fun h1=>?_);refine Ev.cases (fun h=>Ev.cast (by rw[inB,decide_eq_false (by omega)];rfl) (Ev.now _)) (fun h2=>?_);rw[inB,decide_eq_true (show 0≤xs[i]∧xs[i]≤n-1 by omega),Bool.true_and];refine Ev.cases (fun h3=>?_) (fun h3=>?_)
   ·have e:wrap64 ((i:Int)-1)=((i-1:Nat):Int):=by rw[wr _ (by omega) (by omega)];omega
    rw[e];refine Ev.pos (nn _) (Ev.pos (by omega) ?_);rw[rd_get xs (i-1) (by omega),dr xs (i-1) (by omega),show i-1+1=i by omega,dr xs i (by omega),incr_cons];refine Ev.cases (fun h2=>Ev.cast (by rw[decide_eq_false (show¬xs[i-1]<xs[i] by omega)];simp) (Ev.now _)) (fun h2=>?_);rw[decide_eq_true (show xs[i-1]<xs[i] by omega),Bool.true_and,←dr xs i (by omega),wr_nat i xs.length (by omega) hx];exact ih (i+1) (by omega)
   ·obtain rfl:i=0:=by omega
    rw[wr_nat 0 xs.length (by omega) hx];exact ih 1 (by omega)
 exact key xs.length 0 (by omega)
theorem rise_mem {lo hi:Int} {xs:List Int} (h:rise lo hi xs=true) {x:Int} (hx:x∈xs):lo≤x∧x≤hi:=by
 unfold rise at h
 rw[Bool.and_eq_true,List.all_eq_true]at h;exact of_decide_eq_true (h.1 x hx)
def marks (n:Nat) (l:List Int):List Bool:=(List.range n).map fun i:Nat=>decide ((i:Int)∈l)
theorem marks_len (n:Nat) (l:List Int):(marks n l).length=n:=by simp[marks]
theorem marks_get (n:Nat) (l:List Int) (i:Nat) (h:i<n):(marks n l).getD i false=decide ((i:Int)∈l):=by
 unfold marks
 rw[List.getD_eq_getElem?_getD,List.getElem?_map,List.getElem?_range h];rfl
theorem marks_set (n:Nat) (l:List Int) (x:Int) (h0:0≤x):(marks n l).set x.toNat true=marks n (l++[x]):=by
 apply List.ext_getElem (by simp[marks])
 intro i h1 h2;rw[List.getElem_set];simp only[marks,List.getElem_map,List.getElem_range,List.mem_append,List.mem_singleton]
 split
 ·rename_i e
  rw[eq_comm,decide_eq_true_eq]
  right;omega
 ·rename_i e
  apply decide_eq_decide.2
  constructor
  ·exact Or.inl
  ·rintro(h|h)
   ·exact h
   ·omega
theorem markOf_l (n:Nat) (l:List Int) (hl:l.length<9223372036854775807) (hb: ∀x∈l,0≤x∧x<n): ∀(d i:Nat),i+d=l.length→Ev (fun k=>impl_markOf.l0 k (marks n (l.take i)) l (l.length:Int) (i:Int)) (marks n l):=by
 intro d
 induction d with
 |zero=>
  intro i hi;refine Ev.step (fun k=>by rw[impl_markOf.l0]) ?_;exact Ev.neg (by omega) (Ev.cast (by rw[List.take_of_length_le (by omega)]) (Ev.now _))
 |succ d ih=>
  intro i hi;refine Ev.step (fun k=>by rw[impl_markOf.l0]) ?_;have b:=hb l[i] (List.getElem_mem _);rw[rd_get l i (by omega),marks_len];refine Ev.pos (by omega) (Ev.pos (nn _) (Ev.pos (by omega) (Ev.pos b.1 (Ev.pos b.2 ?_))));rw[marks_set _ _ _ b.1,←List.take_succ_eq_append_getElem (by omega),wr_nat i l.length (by omega) hl];exact ih (i+1) (by omega)
theorem marks_nil (n:Nat):marks n []=List.replicate n false:=by
 apply List.ext_getElem (by simp[marks])
 intro i h1 h2
 simp[marks]
theorem markOf_ev (n:Nat) (l:List Int) (hn:n≤1000000) (hl:l.length<9223372036854775807) (hb: ∀x∈l,0≤x∧x<n):Ev (fun k=>impl_markOf.f k (n:Int) l) (marks n l):=by
 unfold impl_markOf.f
 refine Ev.pos (nn _) (Ev.pos (by omega) ?_);rw[Int.toNat_natCast,←marks_nil];exact markOf_l n l hl hb l.length 0 (by omega)
theorem allIn_ev (m:List Bool) (l:List Int) (hl:l.length<9223372036854775807) (hb: ∀x∈l,0≤x∧x<m.length):Ev (fun k=>impl_allIn.f k m l) (l.all fun x=>m.getD x.toNat false):=by
 unfold impl_allIn.f
 have key: ∀(d i:Nat),i+d=l.length→Ev (fun k=>impl_allIn.l0 k m l (l.length:Int) (i:Int)) ((l.drop i).all fun x=>m.getD x.toNat false):=by
  intro d
  induction d with
  |zero=>
   intro i hi;refine Ev.step (fun k=>by rw[impl_allIn.l0]) ?_;refine Ev.neg (by omega) (Ev.cast ?_ (Ev.now _));rw[dr0 _ _ (by omega)];rfl
  |succ d ih=>
   intro i hi;refine Ev.step (fun k=>by rw[impl_allIn.l0]) ?_;have b:=hb l[i] (List.getElem_mem _);rw[rd_get l i (by omega),dr l i (by omega),List.all_cons];refine Ev.pos (by omega) (Ev.pos (nn _) (Ev.pos (by omega) (Ev.pos b.1 (Ev.pos b.2 ?_))))
   unfold rdOf
   refine Ev.cases (fun h=>?_) (fun h=>Ev.cast (by rw[bf h];rfl) (Ev.now _));rw[wr_nat i l.length (by omega) hl,h,Bool.true_and];exact ih (i+1) (by omega)
 exact key l.length 0 (by omega)
theorem all_marks (n:Nat) (l x:List Int) (hb: ∀i∈x,0≤i∧i<n):(x.all fun i=>(marks n l).getD i.toNat false)=x.all fun i=>decide (i∈l):=by
 rw[Bool.eq_iff_iff,List.all_eq_true,List.all_eq_true];have e: ∀i∈x,(marks n l).getD i.toNat false=decide (i∈l):=by
  intro i hi;have b:=hb i hi;rw[marks_get n l _ (by omega),Int.toNat_of_nonneg b.1]
 exact⟨fun h i hi=>by rw[←e i hi];exact h i hi,fun h i hi=>by rw[e i hi];exact h i hi⟩
def subL (x y:List Int):Bool:=x.all fun i=>decide (i∈y)
def chainFrom:List (List Int)→Bool
 |a::b::t=>subL a b && chainFrom (b::t)
 |_=>true
theorem chain_cons {a b:List Int} {t:List (List Int)}:chainFrom (a::b::t)=(subL a b && chainFrom (b::t)):=by rw[chainFrom]
theorem chain_short (p:List (List Int)) (h:p.length≤1):chainFrom p=true:=by
 match p,h with
 |[],_=>rfl
 |[a],_=>rfl
 |a::b::t,h=>simp at h
def chainR (l:List (List Int)):Bool×Bool:=if l.length≤61∧l.all (rise 0 119)=true then(chainFrom l,true)else(false,false)
theorem impl_IsChain_l1 (l:List (List Int)) (hl:l.length≤61) (hi: ∀z∈l,z.length≤1048576) (hr:l.all (rise 0 119)=true): ∀(d i:Nat),1≤i→l.length≤i+d→Ev (fun k=>impl_IsChain.l1 k l (i:Int)) (chainFrom (l.drop (i-1)),true):=by
 rw[List.all_eq_true]at hr;intro d
 induction d with
 |zero=>
  intro i h1 hd;refine Ev.step (fun k=>by rw[impl_IsChain.l1]) ?_;exact Ev.neg (by omega) (Ev.cast (by rw[chain_short _ (by rw[List.length_drop];omega)]) (Ev.now _))
 |succ d ih=>
  intro i h1 hd;refine Ev.step (fun k=>by rw[impl_IsChain.l1]) ?_;refine Ev.cases (fun h=>?_) (fun h=>Ev.cast (by rw[chain_short _ (by rw[List.length_drop];omega)]) (Ev.now _));have e:wrap64 ((i:Int)-1)=((i-1:Nat):Int):=by rw[wr _ (by omega) (by omega)];omega
  have m1:l[i]∈l:=List.getElem_mem _;have m0:l[i-1]∈l:=List.getElem_mem _;have b1: ∀x∈l[i],0≤x∧x<((120:Nat):Int):=fun x hx=>by have:=rise_mem (hr _ m1) hx;omega
  have b0: ∀x∈l[i-1],0≤x∧x<((120:Nat):Int):=fun x hx=>by have:=rise_mem (hr _ m0) hx;omega
  have s1:=hi _ m1;have s0:=hi _ m0;rw[e,rdL1_get l i (by omega),rdL1_get l (i-1) (by omega)];refine Ev.pos (nn _) (Ev.bind (markOf_ev 120 l[i] (by omega) (by omega) b1) (Ev.pos (nn _) (Ev.pos (by omega) ?_)));refine Ev.bind (allIn_ev (marks 120 l[i]) l[i-1] (by omega) (by rw[marks_len];exact b0)) ?_;rw[all_marks 120 _ _ b0,dr l (i-1) (by omega),show i-1+1=i by omega,dr l i (by omega),chain_cons];refine Ev.cases (fun h2=>?_) (fun h2=>Ev.cast (by rw[subL,bf h2];rfl) (Ev.now _));rw[subL,h2,Bool.true_and,←dr l i (by omega),wr_nat i l.length (by omega) (by omega)];exact ih (i+1) (by omega) (by omega)
theorem impl_IsChain_ev (l:List (List Int)) (hi: ∀z∈l,z.length≤1048576):Ev (fun k=>impl_IsChain.f k l) (chainR l):=by
 unfold impl_IsChain.f chainR
 refine Ev.cases (fun h=>Ev.cast (by rw[if_neg (fun e=>by omega)]) (Ev.now _)) (fun h=>?_);have key: ∀(d i:Nat),i+d=l.length→(l.take i).all (rise 0 119)=true→Ev (fun k=>impl_IsChain.l0 k l l (l.length:Int) (i:Int)) (if l.length≤61∧l.all (rise 0 119)=true then(chainFrom l,true)else(false,false)):=by
  intro d
  induction d with
  |zero=>
   intro i hd hr;rw[List.take_of_length_le (by omega)]at hr;refine Ev.step (fun k=>by rw[impl_IsChain.l0]) ?_;refine Ev.neg (by omega) ?_;rw[if_pos ⟨by omega,hr⟩];exact impl_IsChain_l1 l (by omega) hi hr l.length 1 (by omega) (by omega)
  |succ d ih=>
   intro i hd hr;refine Ev.step (fun k=>by rw[impl_IsChain.l0]) ?_;refine Ev.pos (by omega) (Ev.pos (nn _) (Ev.pos (by omega) ?_));rw[rdL1_get l i (by omega)];have s1:=hi _ (List.getElem_mem (show i<l.length by omega));refine Ev.bind (areBlocks_ev l[i] 120 (by omega)) (Ev.cases (fun h1=>?_) (fun h1=>Ev.cast ?_ (Ev.now _)))
   ·rw[wr_nat i l.length (by omega) (by omega)];refine ih (i+1) (by omega) ?_;rw[List.take_succ_eq_append_getElem (by omega),List.all_append,hr,List.all_cons,List.all_nil]
    simpa using h1
   ·rw[if_neg];rintro⟨_,hh⟩;rw[List.all_eq_true]at hh;exact h1 (hh _ (List.getElem_mem (show i<l.length by omega)))
 exact key l.length 0 (by omega) (by simp)
def arcsFrom:Nat→List (List Int)→Bool
 |_,[]=>true
 |i,l::t=>rise 0 ((i:Int)-1) l && arcsFrom (i+1) t
def arcsOk (a:List (List Int)):Bool:=decide (1≤a.length∧a.length≤120)&& arcsFrom 0 a
theorem arcsFrom_at: ∀(a:List (List Int)) (n:Nat),arcsFrom n a=true→ ∀i (h:i<a.length),rise 0 (((n+i:Nat):Int)-1) a[i]=true
 |[],_,_,i,h=>by simp at h
 |l::t,n,hh,i,h=>by
  rw[arcsFrom,Bool.and_eq_true]at hh;cases i with
  |zero=>simpa using hh.1
  |succ i=>
   have:=arcsFrom_at t (n+1) hh.2 i (by simpa using h)
   rw[show n+1+i=n+(i+1) by omega]at this
   simpa using this
theorem arcsOk_parts {a:List (List Int)} (h:arcsOk a=true):1≤a.length∧a.length≤120∧ ∀i (h:i<a.length),rise 0 ((i:Int)-1) a[i]=true:=by
 unfold arcsOk at h
 rw[Bool.and_eq_true,decide_eq_true_eq]at h;exact⟨h.1.1,h.1.2,fun i hi=>by simpa using arcsFrom_at a 0 h.2 i hi⟩
theorem arcsOk_mem {a:List (List Int)} (h:arcsOk a=true) (i:Nat) (hi:i<a.length): ∀k∈a[i],0≤k∧k<(i:Int):=by
 obtain⟨_,_,h3⟩:=arcsOk_parts h;intro k hk
 have:=rise_mem (h3 i hi) hk
 omega
theorem incr_drop_len: ∀(xs:List Int) (lo hi:Int),xs.all (inB lo hi)=true→incr xs=true→(xs.length:Int)≤max 0 (hi-lo+1)
 |[],_,_,_,_=>by simp;omega
 |[a],lo,hi,h,_=>by
  simp only[List.all_cons,List.all_nil,Bool.and_true]at h
  have:=of_decide_eq_true h
  simp;omega
 |a::b::t,lo,hi,h,hc=>by
  rw[incr_cons,Bool.and_eq_true]at hc;rw[List.all_cons,Bool.and_eq_true]at h;have h1:=of_decide_eq_true hc.1;have h2:=of_decide_eq_true h.1;have hb: ∀(ys:List Int) (c:Int),incr (c::ys)=true→ ∀y∈ys,c<y:=by
   intro ys
   induction ys with
   |nil=>intro c _ y hy;cases hy
   |cons z zs ih=>
    intro c hc y hy;rw[incr_cons,Bool.and_eq_true]at hc;have hz:=of_decide_eq_true hc.1
    rcases List.mem_cons.1 hy with rfl|hy
    ·exact hz
    ·have:=ih z hc.2 y hy;omega
  have h3:(b::t).all (inB (lo+1) hi)=true:=by
   rw[List.all_eq_true]at h⊢;intro y hy;have q:=of_decide_eq_true (h.2 y hy);have:a<y:=by
    rcases List.mem_cons.1 hy with rfl|hy
    ·exact h1
    ·have:=hb t b hc.2 y hy;omega
   exact decide_eq_true (by omega)
  have:=incr_drop_len (b::t) (lo+1) hi h3 hc.2
  rw[List.length_cons];have h4:=of_decide_eq_true ((List.all_eq_true.1 h3) b (by simp))
  omega
theorem rise_len {lo hi:Int} {xs:List Int} (h:rise lo hi xs=true):(xs.length:Int)≤max 0 (hi-lo+1):=by
 unfold rise at h
 rw[Bool.and_eq_true]at h;exact incr_drop_len xs lo hi h.1 h.2
theorem AreArcs_ev (a:List (List Int)) (hi: ∀z∈a,z.length<9223372036854775807):Ev (fun k=>impl_AreArcs.f k a) (arcsOk a):=by
 unfold impl_AreArcs.f arcsOk
 have J: ∀b:Bool,b=true→ ∀r,r=false→Ev (fun k=>impl_AreArcs.j0 k a b) r:=by
  rintro b rfl r rfl;exact Ev.step (fun k=>by rw[impl_AreArcs.j0]) (Ev.pos rfl (Ev.now _))
 refine Ev.cases (fun h=>J _ rfl _ (by rw[decide_eq_false (show¬(1≤a.length∧a.length≤120) by omega)];rfl)) (fun h1=>?_)
 by_cases h2:(a.length:Int)>120
 ·exact J _ (decide_eq_true h2) _ (by rw[decide_eq_false (show¬(1≤a.length∧a.length≤120) by omega)];rfl)
 ·rw[decide_eq_false h2,decide_eq_true (show 1≤a.length∧a.length≤120 by omega),Bool.true_and];refine Ev.step (fun k=>by rw[impl_AreArcs.j0]) (Ev.neg (by simp) ?_);have key: ∀(d i:Nat),i+d=a.length→Ev (fun k=>impl_AreArcs.l0 k a (a.length:Int) (i:Int)) (arcsFrom i (a.drop i)):=by
   intro d
   induction d with
   |zero=>
    intro i hd;refine Ev.step (fun k=>by rw[impl_AreArcs.l0]) ?_;refine Ev.neg (by omega) (Ev.cast ?_ (Ev.now _));rw[dr0 _ _ (by omega),arcsFrom]
   |succ d ih=>
    intro i hd;refine Ev.step (fun k=>by rw[impl_AreArcs.l0]) ?_;refine Ev.pos (by omega) (Ev.pos (nn _) (Ev.pos (by omega) ?_));rw[rdL1_get a i (by omega),dr a i (by omega),arcsFrom];refine Ev.bind (areBlocks_ev a[i] (i:Int) (hi _ (List.getElem_mem _))) (Ev.cases (fun h=>?_) (fun h=>Ev.cast (by rw[bf h];rfl) (Ev.now _)));rw[h,Bool.true_and,wr_nat i a.length (by omega) (by omega)];exact ih (i+1) (by omega)
  exact key a.length 0 (by omega)
theorem clArcs_ev (a:List (List Int)) (ha:a.length<9223372036854775807) (hi: ∀z∈a,z.length<9223372036854775807):Ev (fun k=>spec_clArcs.f k a) (arcsOk a):=by
 unfold spec_clArcs.f arcsOk
 have key: ∀(d i:Nat),i+d=a.length→Ev (fun k=>spec_clArcs.l0 k a a (a.length:Int) (i:Int)) (decide (1≤a.length∧a.length≤120)&& arcsFrom i (a.drop i)):=by
  intro d
  induction d with
  |zero=>
   intro i hd;refine Ev.step (fun k=>by rw[spec_clArcs.l0]) ?_;refine Ev.neg (by omega) ?_;rw[dr0 _ _ (by omega),arcsFrom,l1In_eq,Bool.and_true];exact Ev.sbind (Ev.cast (decide_eq_decide.2 (by omega)) (Ev.now _))
  |succ d ih=>
   intro i hd;refine Ev.step (fun k=>by rw[spec_clArcs.l0]) ?_;refine Ev.pos (by omega) (Ev.pos (nn _) (Ev.pos (by omega) ?_));rw[rdL1_get a i (by omega),dr a i (by omega),arcsFrom,wr ((i:Int)-1) (by omega) (by omega)];refine Ev.bind (l1Rising_ev a[i] 0 ((i:Int)-1) (hi _ (List.getElem_mem _))) (Ev.cases (fun h=>?_) (fun h=>Ev.cast (by rw[bf h];simp) (Ev.now _)));rw[h,Bool.true_and,wr_nat i a.length (by omega) ha];exact ih (i+1) (by omega)
 exact key a.length 0 (by omega)
theorem areValued_ev (a:List (List Int)) (v:List Int) (hi: ∀z∈a,z.length<9223372036854775807):Ev (fun k=>impl_areValued.f k a v) (arcsOk a && (decide (v.length=a.length)&& v.all (inB (-1000000) 1000000))):=by
 unfold impl_areValued.f
 refine Ev.bind (AreArcs_ev a hi) (Ev.cases (fun h=>?_) (fun h=>Ev.cast (by rw[bf h];rfl) (Ev.now _)));rw[h,Bool.true_and];obtain⟨a0,a1,_⟩:=arcsOk_parts h;refine Ev.bind (goodValues_ev v) (Ev.cases (fun h1=>?_) (fun h1=>?_))
 ·rw[Bool.and_eq_true]at h1;rw[h1.2,Bool.and_true];refine Ev.cast ?_ (Ev.now _)
  by_cases e:v.length=a.length
  ·simp[e]
  ·rw[decide_eq_false e];simp only[beq_eq_false_iff_ne,ne_eq];omega
 ·refine Ev.cast ?_ (Ev.now _)
  by_cases e:v.length=a.length
  ·rw[decide_eq_true (show 1≤v.length∧v.length≤120 by omega),Bool.true_and]at h1;rw[bf h1];simp
  ·rw[decide_eq_false e];rfl
def trueIdx (m:List Bool):List Int:=((List.range m.length).filter fun i=>m.getD i false).map fun i:Nat=>(i:Int)
def trueTo (m:List Bool) (n:Nat):List Int:=((List.range n).filter fun i=>m.getD i false).map fun i:Nat=>(i:Int)
theorem trueTo_succ (m:List Bool) (n:Nat):trueTo m (n+1)=trueTo m n++(if m.getD n false=true then [(n:Int)]else []):=by
 unfold trueTo
 rw[List.range_succ,List.filter_append,List.map_append]
 congr 1
 by_cases h:m.getD n false=true
 ·rw[if_pos h];simp only[List.filter_cons,List.filter_nil,h,if_true,List.map_cons,List.map_nil]
 ·rw[if_neg h];simp only[List.filter_cons,List.filter_nil,h,if_false,List.map_nil];rfl
theorem trueTo_len (m:List Bool) (n:Nat):(trueTo m n).length≤n:=by
 unfold trueTo
 rw[List.length_map];exact Nat.le_trans (List.length_filter_le _ _) (by simp)
theorem listOf_ev (m:List Bool) (hm:m.length≤1000000):Ev (fun k=>impl_listOf.f k m) (trueIdx m):=by
 unfold impl_listOf.f
 have key: ∀(d i:Nat),i+d=m.length→Ev (fun k=>impl_listOf.l0 k (trueTo m i) m (m.length:Int) (i:Int)) (trueIdx m):=by
  intro d
  induction d with
  |zero=>
   intro i hd;refine Ev.step (fun k=>by rw[impl_listOf.l0]) ?_;exact Ev.neg (by omega) (Ev.cast (by rw[trueIdx,trueTo,show i=m.length by omega]) (Ev.now _))
  |succ d ih=>
   intro i hd;have e:=ih (i+1) (by omega);rw[trueTo_succ]at e;have l:=trueTo_len m i;refine Ev.step (fun k=>by rw[impl_listOf.l0]) ?_;refine Ev.pos (by omega) (Ev.pos (nn _) (Ev.pos (by omega) ?_));rw[rdOf_nat,wr_nat i m.length (by omega) (by omega)];refine Ev.cases (fun h=>Ev.pos (by omega) ?_) (fun h=>?_)
   ·rw[if_pos h]at e;exact e
   ·rw[if_neg h,List.append_nil]at e;exact e
 exact key m.length 0 (by omega)
theorem trueIdx_len (m:List Bool):(trueIdx m).length≤m.length:=trueTo_len m m.length
theorem trueIdx_in (m:List Bool): ∀x∈trueIdx m,0≤x∧x<(m.length:Int):=by
 intro x hx
 unfold trueIdx at hx
 obtain⟨i,hi,rfl⟩:=List.mem_map.mp hx
 have:=List.mem_range.mp (List.mem_filter.mp hi).1
 omega
theorem trueIdx_mem (m:List Bool) (x:Int):x∈trueIdx m↔0≤x∧m.getD x.toNat false=true:=by
 unfold trueIdx
 rw[List.mem_map]
 constructor
 ·rintro⟨i,hi,rfl⟩
  have:=(List.mem_filter.1 hi).2
  exact⟨nn _,by rw[Int.toNat_natCast];exact this⟩
 ·rintro⟨h0,h1⟩;refine⟨x.toNat,List.mem_filter.2 ⟨List.mem_range.2 ?_,h1⟩,Int.toNat_of_nonneg h0⟩
  apply Classical.byContradiction
  intro h;rw[List.getD_eq_getElem?_getD,List.getElem?_eq_none (by omega)]at h1;cases h1
theorem trueIdx_pw (m:List Bool):(trueIdx m).Pairwise (· < ·):=by
 unfold trueIdx
 rw[List.pairwise_map];refine List.Pairwise.filter _ ?_;refine List.Pairwise.imp ?_ (List.pairwise_lt_range (n:=m.length));intro i j h
 omega
theorem ext_getD {m q:List Bool} (hl:m.length=q.length) (h: ∀i,i<m.length→m.getD i false=q.getD i false):m=q:=by
 apply List.ext_getElem hl
 intro i h1 h2
 have:=h i h1
 rw[gD m false i h1,gD q false i h2]at this;exact this
theorem marks_trueIdx (m:List Bool):marks m.length (trueIdx m)=m:=by
 refine ext_getD (marks_len _ _) (fun i hi=>?_);rw[marks_len]at hi;rw[marks_get _ _ _ hi]
 apply Bool.eq_iff_iff.mpr
 rw[decide_eq_true_iff,trueIdx_mem,Int.toNat_natCast];exact⟨fun h=>h.2,fun h=>⟨nn _,h⟩⟩
theorem l1Put_ev (l:List Int) (x:Int) (hl:l.length≤1048576) (hp:l.Pairwise (· < ·)): ∃r,Ev (fun k=>spec_l1Put.f k l x) r∧r.Pairwise (· < ·)∧r.length≤l.length+1∧ ∀y,y∈r↔y∈l∨y=x:=by
 unfold spec_l1Put.f
 have tk: ∀i:Nat,i≤l.length→(∀y∈l.take i,y<x)→(∀y∈l.drop i,x<y)→(l.take i++[x]++l.drop i).Pairwise (· < ·)∧(l.take i++[x]++l.drop i).length≤l.length+1∧ ∀y,y∈l.take i++[x]++l.drop i↔y∈l∨y=x:=by
  intro i hi h1 h2;have hp':(l.take i++l.drop i).Pairwise (· < ·):=by rw[List.take_append_drop];exact hp
  obtain⟨p1,p2,p3⟩:=List.pairwise_append.1 hp';refine⟨?_,by simp;omega,fun y=>?_⟩
  ·rw[List.append_assoc,List.singleton_append];refine List.pairwise_append.2 ⟨p1,List.pairwise_cons.2 ⟨h2,p2⟩,fun u hu v hv=>?_⟩
   rcases List.mem_cons.1 hv with rfl|hv
   ·exact h1 u hu
   ·exact p3 u hu v hv
  ·have e:y∈l↔y∈l.take i∨y∈l.drop i:=by rw[←List.mem_append,List.take_append_drop]
   rw[e];simp only[List.mem_append,List.mem_singleton]
   constructor
   ·rintro((h|h)|h)
    ·exact .inl (.inl h)
    ·exact .inr h
    ·exact .inl (.inr h)
   ·rintro((h|h)|h)
    ·exact .inl (.inl h)
    ·exact .inr h
    ·exact .inl (.inr h)
 have key: ∀(d i:Nat),i+d=l.length→(∀y∈l.take i,y<x)→ ∃r,Ev (fun k=>spec_l1Put.l0 k l x (i:Int)) r∧r.Pairwise (· < ·)∧r.length≤l.length+1∧ ∀y,y∈r↔y∈l∨y=x:=by
  intro d
  induction d with
  |zero=>
   intro i hd h1;obtain⟨t1,t2,t3⟩:=tk i (by omega) h1 (by rw[dr0 _ _ (by omega)];simp);refine⟨l.take i++[x]++l.drop i,Ev.step (fun k=>by rw[spec_l1Put.l0]) ?_,t1,t2,t3⟩;refine Ev.neg (by omega) (Ev.sbind ?_);refine Ev.pos (nn _) (Ev.pos (by omega) (Ev.sbind ?_));refine Ev.pos (by simp;omega) (Ev.sbind ?_);refine Ev.pos (by simp;omega) (Ev.sbind (Ev.sbind ?_));refine Ev.pos (by simp;omega) ?_;exact Ev.cast (by rw[Int.toNat_natCast,List.nil_append]) (Ev.now _)
  |succ d ih=>
   intro i hd h1;have hlt:i<l.length:=by omega
   by_cases c:l[i]<x
   ·obtain⟨r,hr,h⟩:=ih (i+1) (by omega) (by
     intro y hy;rw[List.take_succ_eq_append_getElem hlt]at hy
     rcases List.mem_append.1 hy with hy|hy
     ·exact h1 y hy
     ·rw[List.mem_singleton]at hy;subst hy;exact c)
    refine⟨r,Ev.step (fun k=>by rw[spec_l1Put.l0]) ?_,h⟩;rw[rd_get l i hlt,wr_nat i l.length (by omega) (by omega)];exact Ev.pos (by omega) (Ev.pos (nn _) (Ev.pos c hr))
   ·by_cases c2:l[i]=x
    ·refine⟨l,Ev.step (fun k=>by rw[spec_l1Put.l0]) ?_,hp,by omega,fun y=>⟨.inl,fun h=>?_⟩⟩
     ·rw[rd_get l i hlt];exact Ev.pos (by omega) (Ev.pos (nn _) (Ev.neg c (Ev.pos c2 (Ev.now _))))
     ·rcases h with h|rfl
      ·exact h
      ·exact c2▸List.getElem_mem hlt
    ·obtain⟨t1,t2,t3⟩:=tk i (by omega) h1 (by
      intro y hy;obtain⟨j,hj,rfl⟩:=List.getElem_of_mem hy;rw[List.length_drop]at hj;rw[List.getElem_drop]
      by_cases e:j=0
      ·subst e;simp only[Nat.add_zero];omega
      ·have:=List.pairwise_iff_getElem.1 hp i (i+j) hlt (by omega) (by omega)
       omega)
     refine⟨l.take i++[x]++l.drop i,Ev.step (fun k=>by rw[spec_l1Put.l0]) ?_,t1,t2,t3⟩;rw[rd_get l i hlt];refine Ev.pos (by omega) (Ev.pos (nn _) (Ev.neg c (Ev.neg c2 (Ev.sbind ?_))));refine Ev.pos (by omega) (Ev.sbind ?_);refine Ev.pos (by simp;omega) (Ev.sbind ?_);refine Ev.pos (by simp;omega) (Ev.sbind (Ev.sbind ?_));refine Ev.pos (by simp;omega) ?_;exact Ev.cast (by rw[Int.toNat_natCast,List.nil_append]) (Ev.now _)
 have:=key l.length 0 (by omega) (by simp)
 simpa using this
def nestOk (a:List (List Int)) (g c:List Int) (f:Int):Bool:=arcsOk a && (gainsOk g c (a.length:Int)&& decide (0≤f∧f≤60))
theorem nestOk_parts {a:List (List Int)} {g c:List Int} {f:Int} (h:nestOk a g c f=true):arcsOk a=true∧gainsOk g c (a.length:Int)=true∧0≤f∧f≤60:=by
 unfold nestOk at h
 rw[Bool.and_eq_true,Bool.and_eq_true]at h;exact⟨h.1,h.2.1,of_decide_eq_true h.2.2⟩
theorem areNested_ev (a:List (List Int)) (g c:List Int) (f:Int) (hi: ∀z∈a,z.length<9223372036854775807):Ev (fun k=>impl_areNested.f k a g c f) (nestOk a g c f):=by
 unfold impl_areNested.f nestOk
 refine Ev.bind (AreArcs_ev a hi) (Ev.cases (fun h=>?_) (fun h=>Ev.cast (by rw[bf h];rfl) (Ev.now _)));refine Ev.bind (impl_AreGains_ev g c _) (Ev.cases (fun h2=>?_) (fun h2=>Ev.cast (by rw[h,bf h2];rfl) (Ev.now _)));rw[isFactor_eq];exact Ev.sbind (Ev.cast (by rw[h,h2,Bool.true_and,Bool.true_and]) (Ev.now _))
theorem neAsked_ev (a:List (List Int)) (g c:List Int) (f:Int) (ha:a.length<9223372036854775807) (hi: ∀z∈a,z.length<9223372036854775807) (hg:g.length<9223372036854775807) (hc:c.length<9223372036854775807):Ev (fun k=>spec_neAsked.f k a g c f) (nestOk a g c f):=by
 unfold spec_neAsked.f nestOk
 refine Ev.bind (clArcs_ev a ha hi) (Ev.cases (fun h=>?_) (fun h=>Ev.cast (by rw[bf h];rfl) (Ev.now _)));refine Ev.bind (spec_neGains_ev g c _ hg hc) (Ev.cases (fun h2=>?_) (fun h2=>Ev.cast (by rw[h,bf h2];rfl) (Ev.now _)));rw[neFactor_eq];exact Ev.sbind (Ev.cast (by rw[h,h2,Bool.true_and,Bool.true_and]) (Ev.now _))
theorem neValues_ev (g c:List Int) (f n:Int) (h:gainsOk g c n=true) (h0:0≤f) (h1:f≤60):Ev (fun k=>spec_neValues.f k g c f) (fvL g c f):=by
 have p:=gainsOk_parts h
 unfold spec_neValues.f
 simpa using spec_neValues_l g c f p.2.2.2.2.1 p.2.2.2.2.2 (by omega) h0 h1 (by omega) g.length 0 (by omega)
theorem factorValues_ev (g c:List Int) (f n:Int) (h:gainsOk g c n=true) (h0:0≤f) (h1:f≤60):Ev (fun k=>impl_factorValues.f k g c f) (fvL g c f):=by
 have p:=gainsOk_parts h
 unfold impl_factorValues.f
 simpa using impl_factorValues_l g c f p.2.2.2.2.1 p.2.2.2.2.2 (by omega) h0 h1 (by omega) g.length 0 (by omega)
def pitL (a:List (List Int)) (v:List Int):List Int:=trueIdx (Flow.bestB a v)
theorem pit_idx (a:List (List Int)) (v:List Int):NetQ.idxB (Flow.bestB a v) a.length=pitL a v:=by
 unfold pitL trueIdx NetQ.idxB
 rw[Flow.bestB_len];rfl
theorem pitL_len {a:List (List Int)} {v:List Int}:(pitL a v).length≤a.length:=by
 have:=trueIdx_len (Flow.bestB a v)
 rw[Flow.bestB_len]at this;exact this
theorem arcs_of {a:List (List Int)} (ha:arcsOk a=true):Flow.Arcs a∧ ∀i,i<a.length→(a.getD i []).length≤120:=by
 obtain⟨h1,h2,h3⟩:=arcsOk_parts ha;have hg: ∀i (h:i<a.length),a.getD i []=a[i]:=fun i h=>by simp[List.getD_eq_getElem?_getD,h]
 refine⟨fun i hi k hk=>?_,fun i hi=>?_⟩
 ·rw[hg i hi]at hk;exact arcsOk_mem ha i hi k hk
 ·have:=rise_len (h3 i hi);rw[hg i hi];omega
theorem fit_of {a:List (List Int)} {v:List Int} (ha:arcsOk a=true) (hv:v.length=a.length) (hb: ∀x∈v,-1000000000≤x∧x≤1000000):Flow.Fit a v:=
 ⟨(arcsOk_parts ha).2.1,hv,(arcs_of ha).2,(arcs_of ha).1,hb⟩
theorem fv_len {g c:List Int} {f:Int}:(fvL g c f).length=g.length:=by simp[fvL]
theorem fv_fit {a:List (List Int)} {g c:List Int} {f:Int} (ha:arcsOk a=true) (hg:gainsOk g c (a.length:Int)=true) (h0:0≤f) (h1:f≤60):Flow.Fit a (fvL g c f):=by
 have p:=gainsOk_parts hg;refine fit_of ha (by rw[fv_len];omega) fun x hx=>?_
 unfold fvL at hx
 rw[List.mem_map]at hx;obtain⟨i,hi,rfl⟩:=hx;rw[List.mem_range]at hi;have q1:=of_decide_eq_true (all_at p.2.2.2.2.1 i hi);have q2:=of_decide_eq_true (all_at p.2.2.2.2.2 i (by omega));have m0:0≤g.getD i 0*f:=Int.mul_nonneg q1.1 h0;have m1:g.getD i 0*f≤10000*60:=Int.mul_le_mul q1.2 h1 h0 (by omega)
 omega
theorem paFind_eq {a:List (List Int)} {v:List Int} (F:Flow.Fit a v):spec_paFind.f a v=some (pitL a v):=by
 unfold spec_paFind.f
 rw[if_pos (Flow.fitB_iff.2 F),pit_idx]
theorem free_nil {v:List Int} {n:Nat} (h:v.length=n):Res.freeV v [] [] n=v:=by
 unfold Res.freeV
 rw[Res.mkV_congr (f:=Res.frv v [] []) (g:=fun i=>v.getD i 0) (fun i _=>rfl)];exact Res.mkV_self h
theorem res_nil {a:List (List Int)} {v:List Int} (h:v.length=a.length):Res.resB a v [] []=Flow.bestB a v:=by
 unfold Res.resB
 rw[free_nil h,Res.mkB_congr (g:=Flow.isB (Flow.bestB a v)) (fun i _=>by rw[Res.isB_nil,Bool.or_false])];exact Res.mkB_self (Flow.bestB_len a v)
theorem best0_eq {a:List (List Int)} {v:List Int} (F:Flow.Fit a v) (h1:1≤a.length):impl_bestPit.f0 a v=some (Flow.bestB a v):=by
 unfold impl_bestPit.f0
 rw[free_nil F.vl,if_pos ⟨h1,F.vl,Flow.fitB_iff.2 F⟩,res_nil F.vl]
theorem nePit_ev {a:List (List Int)} {g c:List Int} {f:Int} (ha:arcsOk a=true) (hg:gainsOk g c (a.length:Int)=true) (h0:0≤f) (h1:f≤60):Ev (fun k=>spec_nePit.f k a g c f) (pitL a (fvL g c f)):=by
 unfold spec_nePit.f
 refine Ev.bind (neValues_ev g c f _ hg h0 h1) ?_;rw[paFind_eq (fv_fit ha hg h0 h1)];exact Ev.sbind (Ev.now _)
theorem pitAt_ev {a:List (List Int)} {g c:List Int} {f:Int} (ha:arcsOk a=true) (hg:gainsOk g c (a.length:Int)=true) (h0:0≤f) (h1:f≤60):Ev (fun k=>impl_pitAt.f k a g c f) (Flow.bestB a (fvL g c f)):=by
 unfold impl_pitAt.f
 refine Ev.bind (factorValues_ev g c f _ hg h0 h1) ?_;rw[best0_eq (fv_fit ha hg h0 h1) (arcsOk_parts ha).1];exact Ev.sbind (Ev.now _)
theorem bestB_small {a:List (List Int)} {v:List Int} (ha:arcsOk a=true):(Flow.bestB a v).length≤1000000:=by rw[Flow.bestB_len];have:=(arcsOk_parts ha).2.1;omega
def papR (a:List (List Int)) (g c:List Int) (f:Int):List Int×Bool:=if nestOk a g c f=true then(pitL a (fvL g c f),true)else([],false)
theorem spec_PitAt_ev (a:List (List Int)) (g c:List Int) (f:Int) (h1:a.length≤1048576) (h2: ∀z∈a,z.length≤1048576) (h3:g.length≤1048576) (h4:c.length≤1048576):Ev (fun k=>spec_PitAt.f k a g c f) (papR a g c f):=by
 unfold spec_PitAt.f papR
 refine Ev.bind (neAsked_ev a g c f (by omega) (fun z hz=>by have:=h2 z hz;omega) (by omega) (by omega)) (Ev.cases (fun h=>?_) (fun h=>Ev.cast (by rw[if_neg h]) (Ev.now _)));obtain⟨q1,q2,q3,q4⟩:=nestOk_parts h;rw[if_pos h];exact Ev.bind (nePit_ev q1 q2 q3 q4) (Ev.now _)
theorem impl_PitAt_ev (a:List (List Int)) (g c:List Int) (f:Int) (h2: ∀z∈a,z.length≤1048576):Ev (fun k=>impl_PitAt.f k a g c f) (papR a g c f):=by
 unfold impl_PitAt.f papR
 refine Ev.bind (areNested_ev a g c f (fun z hz=>by have:=h2 z hz;omega)) (Ev.cases (fun h=>?_) (fun h=>Ev.cast (by rw[if_neg h]) (Ev.now _)));obtain⟨q1,q2,q3,q4⟩:=nestOk_parts h;rw[if_pos h];exact Ev.bind (pitAt_ev q1 q2 q3 q4) (Ev.bind (listOf_ev _ (bestB_small q1)) (Ev.now _))
def pitsM (a:List (List Int)) (g c:List Int) (n:Nat):List (List Bool):=(List.range n).map fun f:Nat=>Flow.bestB a (fvL g c (f:Int))
def pitsN (a:List (List Int)) (g c:List Int) (n:Nat):List (List Int):=(List.range n).map fun f:Nat=>pitL a (fvL g c (f:Int))
theorem pitsM_len (a:List (List Int)) (g c:List Int) (n:Nat):(pitsM a g c n).length=n:=by simp[pitsM]
theorem pitsN_len (a:List (List Int)) (g c:List Int) (n:Nat):(pitsN a g c n).length=n:=by simp[pitsN]
theorem pitsM_succ (a:List (List Int)) (g c:List Int) (n:Nat):pitsM a g c (n+1)=pitsM a g c n++[Flow.bestB a (fvL g c (n:Int))]:=by unfold pitsM;rw[List.range_succ,List.map_append];rfl
theorem pitsN_succ (a:List (List Int)) (g c:List Int) (n:Nat):pitsN a g c (n+1)=pitsN a g c n++[pitL a (fvL g c (n:Int))]:=by unfold pitsN;rw[List.range_succ,List.map_append];rfl
theorem pitsM_at {a:List (List Int)} {g c:List Int} {n i:Nat} (h:i<n):rd_L4 (pitsM a g c n) (i:Int)=Flow.bestB a (fvL g c (i:Int)):=by
 unfold rd_L4 pitsM
 rw[Int.toNat_natCast,List.getD_eq_getElem?_getD,List.getElem?_map,List.getElem?_range h];rfl
theorem pitsN_at {a:List (List Int)} {g c:List Int} {n i:Nat} (h:i<n):rd_L1 (pitsN a g c n) (i:Int)=pitL a (fvL g c (i:Int)):=by
 unfold rd_L1 pitsN
 rw[Int.toNat_natCast,List.getD_eq_getElem?_getD,List.getElem?_map,List.getElem?_range h];rfl
theorem pitsN_mem {a:List (List Int)} {g c:List Int} {n:Nat} {z:List Int} (h:z∈pitsN a g c n):z.length≤a.length:=by
 unfold pitsN at h
 rw[List.mem_map]at h;obtain⟨i,_,rfl⟩:=h;exact pitL_len
theorem nePits_ev {a:List (List Int)} {g c:List Int} {most:Int} (ha:arcsOk a=true) (hg:gainsOk g c (a.length:Int)=true) (h0:0≤most) (h1:most≤60):Ev (fun k=>spec_nePits.f k a g c most) (pitsN a g c (most.toNat+1)):=by
 unfold spec_nePits.f
 have key: ∀(d i:Nat),i+d=most.toNat+1→Ev (fun k=>spec_nePits.l0 k a g c most (pitsN a g c i) (i:Int)) (pitsN a g c (most.toNat+1)):=by
  intro d
  induction d with
  |zero=>
   intro i hd;refine Ev.step (fun k=>by rw[spec_nePits.l0]) ?_;exact Ev.neg (by omega) (Ev.cast (by rw[show i=most.toNat+1 by omega]) (Ev.now _))
  |succ d ih=>
   intro i hd;have e:=ih (i+1) (by omega);rw[pitsN_succ]at e;refine Ev.step (fun k=>by rw[spec_nePits.l0]) ?_;refine Ev.pos (by omega) (Ev.bind (nePit_ev ha hg (by omega) (by omega)) (Ev.pos (by rw[pitsN_len];omega) ?_));rw[wr_nat i 1000 (by omega) (by omega)];exact e
 exact key (most.toNat+1) 0 (by omega)
theorem pitsTo_ev {a:List (List Int)} {g c:List Int} {most:Int} (ha:arcsOk a=true) (hg:gainsOk g c (a.length:Int)=true) (h0:0≤most) (h1:most≤60):Ev (fun k=>impl_pitsTo.f k a g c most) (pitsM a g c (most.toNat+1)):=by
 unfold impl_pitsTo.f
 have key: ∀(d i:Nat),i+d=most.toNat+1→Ev (fun k=>impl_pitsTo.l0 k a g c most (pitsM a g c i) (i:Int)) (pitsM a g c (most.toNat+1)):=by
  intro d
  induction d with
  |zero=>
   intro i hd;refine Ev.step (fun k=>by rw[impl_pitsTo.l0]) ?_;exact Ev.neg (by omega) (Ev.cast (by rw[show i=most.toNat+1 by omega]) (Ev.now _))
  |succ d ih=>
   intro i hd;have e:=ih (i+1) (by omega);rw[pitsM_succ]at e;refine Ev.step (fun k=>by rw[impl_pitsTo.l0]) ?_;refine Ev.pos (by omega) (Ev.bind (pitAt_ev ha hg (by omega) (by omega)) (Ev.pos (by rw[pitsM_len];omega) ?_));rw[wr_nat i 1000 (by omega) (by omega)];exact e
 exact key (most.toNat+1) 0 (by omega)
def ptsR (a:List (List Int)) (g c:List Int) (most:Int):List (List Int)×Bool:=if nestOk a g c most=true then(pitsN a g c (most.toNat+1),true)else([],false)
theorem spec_PitsTo_ev (a:List (List Int)) (g c:List Int) (f:Int) (h1:a.length≤1048576) (h2: ∀z∈a,z.length≤1048576) (h3:g.length≤1048576) (h4:c.length≤1048576):Ev (fun k=>spec_PitsTo.f k a g c f) (ptsR a g c f):=by
 unfold spec_PitsTo.f ptsR
 refine Ev.bind (neAsked_ev a g c f (by omega) (fun z hz=>by have:=h2 z hz;omega) (by omega) (by omega)) (Ev.cases (fun h=>?_) (fun h=>Ev.cast (by rw[if_neg h]) (Ev.now _)));obtain⟨q1,q2,q3,q4⟩:=nestOk_parts h;rw[if_pos h];exact Ev.bind (nePits_ev q1 q2 q3 q4) (Ev.now _)
theorem impl_PitsTo_ev (a:List (List Int)) (g c:List Int) (f:Int) (h2: ∀z∈a,z.length≤1048576):Ev (fun k=>impl_PitsTo.f k a g c f) (ptsR a g c f):=by
 unfold impl_PitsTo.f ptsR
 refine Ev.bind (areNested_ev a g c f (fun z hz=>by have:=h2 z hz;omega)) (Ev.cases (fun h=>?_) (fun h=>Ev.cast (by rw[if_neg h]) (Ev.now _)));obtain⟨q1,q2,q3,q4⟩:=nestOk_parts h;rw[if_pos h];refine Ev.bind (pitsTo_ev q1 q2 q3 q4) ?_;rw[pitsM_len];have key: ∀(d i:Nat),i+d=f.toNat+1→Ev (fun k=>impl_PitsTo.l0 k (pitsN a g c i) (pitsM a g c (f.toNat+1)) ((f.toNat+1:Nat):Int) (i:Int)) (pitsN a g c (f.toNat+1),true):=by
  intro d
  induction d with
  |zero=>
   intro i hd;refine Ev.step (fun k=>by rw[impl_PitsTo.l0]) ?_;exact Ev.neg (by omega) (Ev.cast (by rw[show i=f.toNat+1 by omega]) (Ev.now _))
  |succ d ih=>
   intro i hd;have e:=ih (i+1) (by omega);rw[pitsN_succ]at e;refine Ev.step (fun k=>by rw[impl_PitsTo.l0]) ?_;refine Ev.pos (by omega) (Ev.pos (nn _) (Ev.pos (by rw[pitsM_len];omega) ?_));rw[pitsM_at (by omega),wr_nat i 1000 (by omega) (by omega)];exact Ev.bind (listOf_ev _ (bestB_small q1)) (Ev.pos (by rw[pitsN_len];omega) e)
 exact key (f.toNat+1) 0 (by omega)
theorem fv_in {a:List (List Int)} {g c:List Int} {f:Int} (ha:arcsOk a=true) (hg:gainsOk g c (a.length:Int)=true) (h0:0≤f) (h1:f≤60): ∀x∈fvL g c f,-1000000≤x∧x≤1000000:=by
 have p:=gainsOk_parts hg;intro x hx
 unfold fvL at hx
 rw[List.mem_map]at hx;obtain⟨i,hi,rfl⟩:=hx;rw[List.mem_range]at hi;have q1:=of_decide_eq_true (all_at p.2.2.2.2.1 i hi);have q2:=of_decide_eq_true (all_at p.2.2.2.2.2 i (by omega));have m0:0≤g.getD i 0*f:=Int.mul_nonneg q1.1 h0;have m1:g.getD i 0*f≤10000*60:=Int.mul_le_mul q1.2 h1 h0 (by omega)
 omega
theorem pitL_in {a:List (List Int)} {v:List Int} {x:Int} (h:x∈pitL a v):0≤x∧x<(a.length:Int):=by
 have:=trueIdx_in (Flow.bestB a v) x h
 rw[Flow.bestB_len]at this;exact this
theorem l1Same_ev (x y:List Int) (hx:x.length≤1048576):Ev (fun k=>spec_l1Same.f k x y) (decide (x=y)):=by
 unfold spec_l1Same.f
 refine Ev.cases (fun hl=>?_) (fun hl=>Ev.cast (by rw[decide_eq_false (fun e=>hl (by rw[e]))]) (Ev.now _));have hl':x.length=y.length:=by omega
 have key: ∀(d i:Nat),i+d=x.length→Ev (fun k=>spec_l1Same.l0 k x y (x.length:Int) (i:Int)) (decide (x.drop i=y.drop i)):=by
  intro d
  induction d with
  |zero=>
   intro i hd;refine Ev.step (fun k=>by rw[spec_l1Same.l0]) ?_;exact Ev.neg (by omega) (Ev.cast (by rw[dr0 x i (by omega),dr0 y i (by omega)];rfl) (Ev.now _))
  |succ d ih=>
   intro i hd;refine Ev.step (fun k=>by rw[spec_l1Same.l0]) ?_;refine Ev.pos (by omega) (Ev.pos (nn _) (Ev.pos (by omega) (Ev.pos (by omega) ?_)));rw[rd_get x i (by omega),rd_get y i (by omega),dr x i (by omega),dr y i (by omega),wr_nat i x.length (by omega) (by omega)];refine Ev.cases (fun h=>?_) (fun h=>Ev.cast (by rw[decide_eq_false (fun e=>h (List.cons.inj e).1)]) (Ev.now _));exact Ev.cast (by rw[h,decide_eq_decide];exact⟨fun e=>by rw[e],fun e=>(List.cons.inj e).2⟩) (ih (i+1) (by omega))
 simpa using key x.length 0 (by omega)
theorem rdOf_get (x:List Bool) (i:Nat) (h:i<x.length):rdOf false x (i:Int)=x[i]:=by rw[rdOf_nat];simp[List.getD_eq_getElem?_getD,h]
theorem sameB_ev (x y:List Bool) (hx:x.length≤1048576):Ev (fun k=>slices_Equal_bool_bool.f k x y) (decide (x=y)):=by
 unfold slices_Equal_bool_bool.f
 refine Ev.cases (fun hl=>?_) (fun hl=>Ev.cast (by rw[decide_eq_false (fun e=>hl (by rw[e]))]) (Ev.now _));have hl':x.length=y.length:=by omega
 have key: ∀(d i:Nat),i+d=x.length→Ev (fun k=>slices_Equal_bool_bool.l0 k x y (x.length:Int) (i:Int)) (decide (x.drop i=y.drop i)):=by
  intro d
  induction d with
  |zero=>
   intro i hd;refine Ev.step (fun k=>by rw[slices_Equal_bool_bool.l0]) ?_;exact Ev.neg (by omega) (Ev.cast (by rw[dr0 x i (by omega),dr0 y i (by omega)];rfl) (Ev.now _))
  |succ d ih=>
   intro i hd;refine Ev.step (fun k=>by rw[slices_Equal_bool_bool.l0]) ?_;refine Ev.pos (by omega) (Ev.pos (nn _) (Ev.pos (by omega) (Ev.pos (by omega) ?_)));rw[rdOf_get x i (by omega),rdOf_get y i (by omega),dr x i (by omega),dr y i (by omega),wr_nat i x.length (by omega) (by omega)];refine Ev.cases (fun h=>Ev.cast (by rw[decide_eq_false (fun e=>by rw[(List.cons.inj e).1]at h;simp at h)]) (Ev.now _)) (fun h=>?_);have h':x[i]=y[i]:=by simpa using h
   exact Ev.cast (by rw[h',decide_eq_decide];exact⟨fun e=>by rw[e],fun e=>(List.cons.inj e).2⟩) (ih (i+1) (by omega))
 simpa using key x.length 0 (by omega)
theorem trueIdx_inj {m q:List Bool} (h:m.length=q.length):decide (trueIdx m=trueIdx q)=decide (m=q):=by
 rw[decide_eq_decide];refine⟨fun e=>?_,fun e=>by rw[e]⟩;have a:=marks_trueIdx m;have b:=marks_trueIdx q;rw[←a,←b,e,h]
def chgTo (a:List (List Int)) (g c:List Int) (n:Nat):List Int:=((List.range n).filter fun j=>!decide (Flow.bestB a (fvL g c ((j+1:Nat):Int))=Flow.bestB a (fvL g c (j:Int)))).map fun j:Nat=>((j+1:Nat):Int)
theorem chgTo_succ (a:List (List Int)) (g c:List Int) (n:Nat):chgTo a g c (n+1)=chgTo a g c n++(if Flow.bestB a (fvL g c ((n+1:Nat):Int))=Flow.bestB a (fvL g c (n:Int))then []else [((n+1:Nat):Int)]):=by
 unfold chgTo
 rw[List.range_succ,List.filter_append,List.map_append]
 congr 1
 by_cases h:Flow.bestB a (fvL g c ((n+1:Nat):Int))=Flow.bestB a (fvL g c (n:Int))
 ·rw[if_pos h,List.filter_cons_of_neg (by show¬(!decide (Flow.bestB a (fvL g c ((n+1:Nat):Int))=Flow.bestB a (fvL g c (n:Int))))=true;rw[decide_eq_true h];decide)];rfl
 ·rw[if_neg h,List.filter_cons_of_pos (by show(!decide (Flow.bestB a (fvL g c ((n+1:Nat):Int))=Flow.bestB a (fvL g c (n:Int))))=true;rw[decide_eq_false h];rfl)];rfl
theorem chgTo_len (a:List (List Int)) (g c:List Int) (n:Nat):(chgTo a g c n).length≤n:=by
 unfold chgTo
 rw[List.length_map]
 have:=List.length_filter_le (fun j=>!decide (Flow.bestB a (fvL g c ((j+1:Nat):Int))=Flow.bestB a (fvL g c (j:Int)))) (List.range n)
 rwa [List.length_range]at this
def chgR (a:List (List Int)) (g c:List Int) (most:Int):List Int×Bool:=if nestOk a g c most=true then(chgTo a g c most.toNat,true)else([],false)
theorem spec_ChangesOf_ev (a:List (List Int)) (g c:List Int) (f:Int) (h1:a.length≤1048576) (h2: ∀z∈a,z.length≤1048576) (h3:g.length≤1048576) (h4:c.length≤1048576):Ev (fun k=>spec_ChangesOf.f k a g c f) (chgR a g c f):=by
 unfold spec_ChangesOf.f chgR
 refine Ev.bind (neAsked_ev a g c f (by omega) (fun z hz=>by have:=h2 z hz;omega) (by omega) (by omega)) (Ev.cases (fun h=>?_) (fun h=>Ev.cast (by rw[if_neg h]) (Ev.now _)));obtain⟨q1,q2,q3,q4⟩:=nestOk_parts h;have ha:=(arcsOk_parts q1).2.1;rw[if_pos h];refine Ev.bind (nePits_ev q1 q2 q3 q4) ?_;have key: ∀(d i:Nat),i+d=f.toNat→Ev (fun k=>spec_ChangesOf.l0 k f (pitsN a g c (f.toNat+1)) (chgTo a g c i) ((i+1:Nat):Int)) (chgTo a g c f.toNat,true):=by
  intro d
  induction d with
  |zero=>
   intro i hd;refine Ev.step (fun k=>by rw[spec_ChangesOf.l0]) ?_;exact Ev.neg (by omega) (Ev.cast (by rw[show i=f.toNat by omega]) (Ev.now _))
  |succ d ih=>
   intro i hd;have e:=ih (i+1) (by omega);rw[chgTo_succ]at e;have w1:wrap64 (((i+1:Nat):Int)-1)=(i:Int):=by unfold wrap64;omega
   have w2:wrap64 (((i+1:Nat):Int)+1)=((i+1+1:Nat):Int):=by unfold wrap64;omega
   have hcl:=chgTo_len a g c i;refine Ev.step (fun k=>by rw[spec_ChangesOf.l0]) ?_;rw[w1,w2];refine Ev.pos (by omega) (Ev.pos (nn _) (Ev.pos (by rw[pitsN_len];omega) (Ev.pos (nn _) (Ev.pos (by rw[pitsN_len];omega) ?_))));rw[pitsN_at (by omega),pitsN_at (by omega)];refine Ev.bind (l1Same_ev _ _ (Nat.le_trans pitL_len (by omega))) ?_
   unfold pitL
   rw[trueIdx_inj (by rw[Flow.bestB_len,Flow.bestB_len])];refine Ev.cases (fun hc=>?_) (fun hc=>Ev.pos (by omega) ?_)
   ·rw[if_pos (of_decide_eq_true hc),List.append_nil]at e;exact e
   ·rw[if_neg (fun q=>hc (decide_eq_true q))]at e;exact e
 exact key f.toNat 0 (by omega)
theorem impl_ChangesOf_ev (a:List (List Int)) (g c:List Int) (f:Int) (h2: ∀z∈a,z.length≤1048576):Ev (fun k=>impl_ChangesOf.f k a g c f) (chgR a g c f):=by
 unfold impl_ChangesOf.f chgR
 refine Ev.bind (areNested_ev a g c f (fun z hz=>by have:=h2 z hz;omega)) (Ev.cases (fun h=>?_) (fun h=>Ev.cast (by rw[if_neg h]) (Ev.now _)));obtain⟨q1,q2,q3,q4⟩:=nestOk_parts h;have ha:=(arcsOk_parts q1).2.1;rw[if_pos h];refine Ev.bind (pitsTo_ev q1 q2 q3 q4) ?_;have key: ∀(d i:Nat),i+d=f.toNat→Ev (fun k=>impl_ChangesOf.l0 k f (pitsM a g c (f.toNat+1)) (chgTo a g c i) ((i+1:Nat):Int)) (chgTo a g c f.toNat,true):=by
  intro d
  induction d with
  |zero=>
   intro i hd;refine Ev.step (fun k=>by rw[impl_ChangesOf.l0]) ?_;exact Ev.neg (by omega) (Ev.cast (by rw[show i=f.toNat by omega]) (Ev.now _))
  |succ d ih=>
   intro i hd;have e:=ih (i+1) (by omega);rw[chgTo_succ]at e;have w1:wrap64 (((i+1:Nat):Int)-1)=(i:Int):=by unfold wrap64;omega
   have w2:wrap64 (((i+1:Nat):Int)+1)=((i+1+1:Nat):Int):=by unfold wrap64;omega
   have hcl:=chgTo_len a g c i;refine Ev.step (fun k=>by rw[impl_ChangesOf.l0]) ?_;rw[w1,w2];refine Ev.pos (by omega) (Ev.pos (nn _) (Ev.pos (by rw[pitsM_len];omega) (Ev.pos (nn _) (Ev.pos (by rw[pitsM_len];omega) ?_))));rw[pitsM_at (by omega),pitsM_at (by omega)];refine Ev.bind (sameB_ev _ _ (by rw[Flow.bestB_len];omega)) ?_;refine Ev.cases (fun hc=>?_) (fun hc=>Ev.pos (by omega) ?_)
   ·rw[if_pos (of_decide_eq_true hc),List.append_nil]at e;exact e
   ·rw[if_neg (fun q=>hc (decide_eq_true q))]at e;exact e
 exact key f.toNat 0 (by omega)
def ffAt (a:List (List Int)) (g c:List Int):Nat→Nat→Int
 |0,_=> -1
 |n+1,i=>if ffAt a g c n i<0∧Flow.isB (Flow.bestB a (fvL g c (n:Int))) i=true then(n:Int)else ffAt a g c n i
def ffT (a:List (List Int)) (g c:List Int) (n:Nat):List Int:=Res.mkV (ffAt a g c n) a.length
theorem ffAt_set {a:List (List Int)} {g c:List Int} {n i:Nat} (h:ffAt a g c n i<0) (hb:Flow.isB (Flow.bestB a (fvL g c (n:Int))) i=true):ffAt a g c (n+1) i=(n:Int):=by rw[ffAt,if_pos ⟨h,hb⟩]
theorem ffAt_keep {a:List (List Int)} {g c:List Int} {n i:Nat} (h: ¬(ffAt a g c n i<0∧Flow.isB (Flow.bestB a (fvL g c (n:Int))) i=true)):ffAt a g c (n+1) i=ffAt a g c n i:=by rw[ffAt,if_neg h]
theorem mkV_rd {f:Nat→Int} {n i:Nat} (h:i<n):rd (Res.mkV f n) (i:Int)=f i:=by rw[rd_nat,List.getD_eq_getElem?_getD,Res.mkV_at h];rfl
theorem mkV_const (x:Int) (n:Nat):List.replicate n x=Res.mkV (fun _=>x) n:=by
 refine List.ext_getElem? fun i=>?_
 by_cases h:i<n
 ·rw[Res.mkV_at h,List.getElem?_replicate,if_pos h]
 ·rw[List.getElem?_eq_none (by rw[List.length_replicate];omega),List.getElem?_eq_none (by rw[Res.mkV_len];omega)]
theorem impl_ff_l2 {a:List (List Int)} {g c:List Int} {F n:Nat} (hn:n<F+1) (ha:a.length≤120) (hF:F≤60) (r:List Int) (h:Ev (fun k=>impl_firstFactors.l1 k (ffT a g c (n+1)) (pitsM a g c (F+1)) ((F+1:Nat):Int) ((n+1:Nat):Int)) r): ∀(d j:Nat),j+d=a.length→
  Ev (fun k=>impl_firstFactors.l2 k (Res.mkV (fun i=>if i<j then ffAt a g c (n+1) i else ffAt a g c n i) a.length) (n:Int) (pitsM a g c (F+1)) ((F+1:Nat):Int) (n:Int) (Flow.bestB a (fvL g c (n:Int))) (a.length:Int) (j:Int)) r:=by
 intro d
 induction d with
 |zero=>
  intro j hd;refine Ev.step (fun k=>by rw[impl_firstFactors.l2]) ?_;refine Ev.neg (by omega) ?_;rw[wr_nat n 1000 (by omega) (by omega),Res.mkV_congr (g:=ffAt a g c (n+1)) (fun i hi=>if_pos (by omega))];exact h
 |succ d ih=>
  intro j hd;have e:=ih (j+1) (by omega);have hbl:=Flow.bestB_len a (fvL g c (n:Int));refine Ev.step (fun k=>by rw[impl_firstFactors.l2]) ?_;refine Ev.pos (by omega) (Ev.pos (nn _) (Ev.pos (by omega) ?_));rw[rdOf_nat,mkV_rd (by omega),if_neg (Nat.lt_irrefl j),wr_nat j 1000 (by omega) (by omega)];have same:ffAt a g c (n+1) j=ffAt a g c n j→Res.mkV (fun i=>if i<j+1 then ffAt a g c (n+1) i else ffAt a g c n i) a.length=Res.mkV (fun i=>if i<j then ffAt a g c (n+1) i else ffAt a g c n i) a.length:=fun hs=>Res.mkV_congr fun i hi=>by
   by_cases q:i=j
   ·subst q;rw[if_pos (by omega),if_neg (by omega),hs]
   ·by_cases q2:i<j
    ·rw[if_pos q2,if_pos (by omega)]
    ·rw[if_neg q2,if_neg (by omega)]
  refine Ev.cases (fun hb=>Ev.pos (by rw[Res.mkV_len];omega) (Ev.cases (fun hl=>?_) (fun hl=>?_))) (fun hb=>?_)
  ·rw[Int.toNat_natCast,Res.mkV_set];refine Ev.cast rfl ?_;rw[Res.mkV_congr (g:=fun i=>if i<j+1 then ffAt a g c (n+1) i else ffAt a g c n i) (fun i hi=>?_)]
   ·exact e
   ·by_cases q:i=j
    ·subst q;rw[if_pos rfl,if_pos (by omega),ffAt_set hl hb]
    ·rw[if_neg q]
     by_cases q2:i<j
     ·rw[if_pos q2,if_pos (by omega)]
     ·rw[if_neg q2,if_neg (by omega)]
  ·rw[same (ffAt_keep (fun q=>hl q.1))]at e;exact e
  ·rw[same (ffAt_keep (fun q=>hb q.2))]at e;exact e
theorem impl_ff_l1 {a:List (List Int)} {g c:List Int} {F:Nat} (ha:a.length≤120) (hF:F≤60): ∀(d n:Nat),n+d=F+1→Ev (fun k=>impl_firstFactors.l1 k (ffT a g c n) (pitsM a g c (F+1)) ((F+1:Nat):Int) (n:Int)) (ffT a g c (F+1)):=by
 intro d
 induction d with
 |zero=>
  intro n hd;refine Ev.step (fun k=>by rw[impl_firstFactors.l1]) ?_;exact Ev.neg (by omega) (Ev.cast (by rw[show n=F+1 by omega]) (Ev.now _))
 |succ d ih=>
  intro n hd;refine Ev.step (fun k=>by rw[impl_firstFactors.l1]) ?_;refine Ev.pos (by omega) (Ev.pos (nn _) (Ev.pos (by rw[pitsM_len];omega) ?_));rw[pitsM_at (by omega),Flow.bestB_len]
  have:=impl_ff_l2 (n:=n) (F:=F) (by omega) ha hF _ (ih (n+1) (by omega)) a.length 0 (by omega)
  rw[Res.mkV_congr (g:=ffAt a g c n) (fun i _=>if_neg (by omega))]at this;exact this
theorem firstFactors_ev {a:List (List Int)} {g c:List Int} {f:Int} (q1:arcsOk a=true) (q2:gainsOk g c (a.length:Int)=true) (q3:0≤f) (q4:f≤60):Ev (fun k=>impl_firstFactors.f k a g c f) (ffT a g c (f.toNat+1)):=by
 have ha:=(arcsOk_parts q1).2.1
 unfold impl_firstFactors.f
 refine Ev.pos (nn _) (Ev.pos (by omega) (Ev.sbind ?_));rw[Int.toNat_natCast,List.length_replicate];have key: ∀(d j:Nat),j+d=a.length→Ev (fun k=>impl_firstFactors.l0 k a g c f (Res.mkV (fun i=>if i<j then-1 else 0) a.length) (a.length:Int) (j:Int)) (ffT a g c (f.toNat+1)):=by
  intro d
  induction d with
  |zero=>
   intro j hd;refine Ev.step (fun k=>by rw[impl_firstFactors.l0]) ?_;refine Ev.neg (by omega) (Ev.bind (pitsTo_ev q1 q2 q3 q4) ?_);rw[pitsM_len,Res.mkV_congr (g:=ffAt a g c 0) (fun i hi=>by rw[if_pos (by omega)];rfl)];exact impl_ff_l1 ha (by omega) (f.toNat+1) 0 (by omega)
  |succ d ih=>
   intro j hd;have e:=ih (j+1) (by omega);refine Ev.step (fun k=>by rw[impl_firstFactors.l0]) ?_;refine Ev.pos (by omega) (Ev.pos (nn _) (Ev.pos (by rw[Res.mkV_len];omega) ?_));rw[Int.toNat_natCast,Res.mkV_set,wr_nat j 1000 (by omega) (by omega),Res.mkV_congr (g:=fun i=>if i<j+1 then-1 else 0) (fun i hi=>?_)]
   ·exact e
   ·by_cases q:i=j
    ·subst q;rw[if_pos rfl,if_pos (by omega)]
    ·rw[if_neg q]
     by_cases q2:i<j
     ·rw[if_pos q2,if_pos (by omega)]
     ·rw[if_neg q2,if_neg (by omega)]
 have:=key a.length 0 (by omega)
 rw[Res.mkV_congr (g:=fun _=>0) (fun i _=>if_neg (by omega)),←mkV_const]at this;exact this
def fftR (a:List (List Int)) (g c:List Int) (most:Int):List Int×Bool:=if nestOk a g c most=true then(ffT a g c (most.toNat+1),true)else([],false)
theorem impl_FirstFactors_ev (a:List (List Int)) (g c:List Int) (f:Int) (h2: ∀z∈a,z.length≤1048576):Ev (fun k=>impl_FirstFactors.f k a g c f) (fftR a g c f):=by
 unfold impl_FirstFactors.f fftR
 refine Ev.bind (areNested_ev a g c f (fun z hz=>by have:=h2 z hz;omega)) (Ev.cases (fun h=>?_) (fun h=>Ev.cast (by rw[if_neg h]) (Ev.now _)));obtain⟨q1,q2,q3,q4⟩:=nestOk_parts h;rw[if_pos h];exact Ev.bind (firstFactors_ev q1 q2 q3 q4) (Ev.now _)
theorem ffAt_nn {a:List (List Int)} {g c:List Int} {n i:Nat} (hb:Flow.isB (Flow.bestB a (fvL g c (n:Int))) i=true):0≤ffAt a g c (n+1) i:=by
 by_cases h:ffAt a g c n i<0
 ·rw[ffAt_set h hb];exact nn _
 ·rw[ffAt_keep (fun q=>h q.1)];omega
theorem pit_mark {a:List (List Int)} {v:List Int} {i:Nat}:(i:Int)∈pitL a v↔Flow.isB (Flow.bestB a v) i=true:=by
 unfold pitL
 rw[trueIdx_mem,Int.toNat_natCast];exact⟨fun h=>h.2,fun h=>⟨nn _,h⟩⟩
theorem spec_ff_l2 {a:List (List Int)} {g c:List Int} {F n:Nat} (hn:n<F+1) (ha:a.length≤120) (hF:F≤60) (r:List Int×Bool) (h:Ev (fun k=>spec_FirstFactors.l1 k (ffT a g c (n+1)) (pitsN a g c (F+1)) ((F+1:Nat):Int) ((n+1:Nat):Int)) r): ∀(suf pre:List Int),pitL a (fvL g c (n:Int))=pre++suf→
  Ev (fun k=>spec_FirstFactors.l2 k (Res.mkV (fun i=>if(i:Int)∈pre then ffAt a g c (n+1) i else ffAt a g c n i) a.length) (n:Int) (pitsN a g c (F+1)) ((F+1:Nat):Int) (n:Int) (pitL a (fvL g c (n:Int))) ((pitL a (fvL g c (n:Int))).length:Int) (pre.length:Int)) r:=by
 intro suf
 induction suf with
 |nil=>
  intro pre he;rw[List.append_nil]at he;refine Ev.step (fun k=>by rw[spec_FirstFactors.l2]) ?_;refine Ev.neg (by rw[he];omega) ?_;rw[wr_nat n 1000 (by omega) (by omega),←he,Res.mkV_congr (g:=ffAt a g c (n+1)) (fun i hi=>?_)]
  ·exact h
  ·by_cases q:(i:Int)∈pitL a (fvL g c (n:Int))
   ·rw[if_pos q]
   ·rw[if_neg q,ffAt_keep (fun e=>q (pit_mark.2 e.2))]
 |cons x suf ih=>
  intro pre he;have e:=ih (pre++[x]) (by rw[he];simp);have hx:x∈pitL a (fvL g c (n:Int)):=by rw[he];simp
  have hxi:=pitL_in hx;obtain⟨j,rfl⟩: ∃j:Nat,x=(j:Int):=⟨x.toNat,by omega⟩;have hb:=pit_mark.1 hx;have hpl:= @pitL_len a (fvL g c (n:Int));have hlen:(pitL a (fvL g c (n:Int))).length=pre.length+suf.length+1:=by rw[he];simp;omega
  have hrd:rd (pitL a (fvL g c (n:Int))) (pre.length:Int)=(j:Int):=by rw[he];exact rd_mid pre _ suf
  have hnn:=ffAt_nn hb;refine Ev.step (fun k=>by rw[spec_FirstFactors.l2]) ?_;rw[hrd];refine Ev.pos (by omega) (Ev.pos (nn _) (Ev.pos (by omega) (Ev.pos hxi.1 (Ev.pos (by rw[Res.mkV_len];exact hxi.2) ?_))));rw[mkV_rd (by omega),wr_nat pre.length 1000 (by omega) (by omega)];have stay:(¬((j:Int)∈pre)→ffAt a g c (n+1) j=ffAt a g c n j)→Res.mkV (fun i=>if(i:Int)∈pre++[(j:Int)]then ffAt a g c (n+1) i else ffAt a g c n i) a.length=Res.mkV (fun i=>if(i:Int)∈pre then ffAt a g c (n+1) i else ffAt a g c n i) a.length:=fun hs=>Res.mkV_congr fun i hi=>by
   by_cases q:(i:Int)∈pre
   ·rw[if_pos q,if_pos (List.mem_append_left _ q)]
   ·rw[if_neg q]
    by_cases q2:i=j
    ·subst q2;rw[if_pos (by simp),hs q]
    ·rw[if_neg (by simp;exact⟨q,by omega⟩)]
  refine Ev.cases (fun hl=>?_) (fun hl=>?_)
  ·have hp: ¬((j:Int)∈pre):=fun q=>by rw[if_pos q]at hl;omega
   rw[if_neg hp]at hl;rw[Int.toNat_natCast,Res.mkV_set,Res.mkV_congr (g:=fun i=>if(i:Int)∈pre++[(j:Int)]then ffAt a g c (n+1) i else ffAt a g c n i) (fun i hi=>?_)]
   ·simpa using e
   ·by_cases q2:i=j
    ·subst q2;rw[if_pos rfl,if_pos (by simp),ffAt_set hl hb]
    ·rw[if_neg q2]
     by_cases q:(i:Int)∈pre
     ·rw[if_pos q,if_pos (List.mem_append_left _ q)]
     ·rw[if_neg q,if_neg (by simp;exact⟨q,by omega⟩)]
  ·rw[stay (fun hp=>by rw[if_neg hp]at hl;exact ffAt_keep (fun q=>hl q.1))]at e
   simpa using e
theorem spec_FirstFactors_ev (a:List (List Int)) (g c:List Int) (f:Int) (h1:a.length≤1048576) (h2: ∀z∈a,z.length≤1048576) (h3:g.length≤1048576) (h4:c.length≤1048576):Ev (fun k=>spec_FirstFactors.f k a g c f) (fftR a g c f):=by
 unfold spec_FirstFactors.f fftR
 refine Ev.bind (neAsked_ev a g c f (by omega) (fun z hz=>by have:=h2 z hz;omega) (by omega) (by omega)) (Ev.cases (fun h=>?_) (fun h=>Ev.cast (by rw[if_neg h]) (Ev.now _)));obtain⟨q1,q2,q3,q4⟩:=nestOk_parts h;have ha:=(arcsOk_parts q1).2.1;rw[if_pos h];refine Ev.pos (nn _) (Ev.pos (by omega) (Ev.sbind ?_));rw[Int.toNat_natCast,List.length_replicate];have k1: ∀(d n:Nat),n+d=f.toNat+1→Ev (fun k=>spec_FirstFactors.l1 k (ffT a g c n) (pitsN a g c (f.toNat+1)) ((f.toNat+1:Nat):Int) (n:Int)) (ffT a g c (f.toNat+1),true):=by
  intro d
  induction d with
  |zero=>
   intro n hd;refine Ev.step (fun k=>by rw[spec_FirstFactors.l1]) ?_;exact Ev.neg (by omega) (Ev.cast (by rw[show n=f.toNat+1 by omega]) (Ev.now _))
  |succ d ih=>
   intro n hd;refine Ev.step (fun k=>by rw[spec_FirstFactors.l1]) ?_;refine Ev.pos (by omega) (Ev.pos (nn _) (Ev.pos (by rw[pitsN_len];omega) ?_));rw[pitsN_at (by omega)]
   have:=spec_ff_l2 (n:=n) (F:=f.toNat) (by omega) ha (by omega) _ (ih (n+1) (by omega)) (pitL a (fvL g c (n:Int))) [] rfl
   rw[Res.mkV_congr (g:=ffAt a g c n) (fun i _=>if_neg (by simp))]at this;exact this
 have key: ∀(d j:Nat),j+d=a.length→Ev (fun k=>spec_FirstFactors.l0 k a g c f (Res.mkV (fun i=>if i<j then-1 else 0) a.length) (a.length:Int) (j:Int)) (ffT a g c (f.toNat+1),true):=by
  intro d
  induction d with
  |zero=>
   intro j hd;refine Ev.step (fun k=>by rw[spec_FirstFactors.l0]) ?_;refine Ev.neg (by omega) (Ev.bind (nePits_ev q1 q2 q3 q4) ?_);rw[pitsN_len,Res.mkV_congr (g:=ffAt a g c 0) (fun i hi=>by rw[if_pos (by omega)];rfl)];exact k1 (f.toNat+1) 0 (by omega)
  |succ d ih=>
   intro j hd;have e:=ih (j+1) (by omega);refine Ev.step (fun k=>by rw[spec_FirstFactors.l0]) ?_;refine Ev.pos (by omega) (Ev.pos (nn _) (Ev.pos (by rw[Res.mkV_len];omega) ?_));rw[Int.toNat_natCast,Res.mkV_set,wr_nat j 1000 (by omega) (by omega),Res.mkV_congr (g:=fun i=>if i<j+1 then-1 else 0) (fun i hi=>?_)]
   ·exact e
   ·by_cases q:i=j
    ·subst q;rw[if_pos rfl,if_pos (by omega)]
    ·rw[if_neg q]
     by_cases q2:i<j
     ·rw[if_pos q2,if_pos (by omega)]
     ·rw[if_neg q2,if_neg (by omega)]
 have:=key a.length 0 (by omega)
 rw[Res.mkV_congr (g:=fun _=>0) (fun i _=>if_neg (by omega)),←mkV_const]at this;exact this
theorem fit_best {a:List (List Int)} {v:List Int} (F:Flow.Fit a v):Flow.Best a v (Flow.isB (Flow.bestB a v)):=by
 obtain⟨_,_,_,_,_,_,_,_,_,_,_,h,_⟩:=F.reach (φ:=fun _ V=>V) (fun _ _ _ R=>R) (big:=1) (by omega);exact h
theorem ffAt_is (a:List (List Int)) (g c:List Int) (i:Nat): ∀n:Nat,(ffAt a g c n i<0∧ ∀m:Nat,m<n→Flow.isB (Flow.bestB a (fvL g c (m:Int))) i=false)∨ ∃m:Nat,m<n∧ffAt a g c n i=(m:Int)∧Flow.isB (Flow.bestB a (fvL g c (m:Int))) i=true∧ ∀j:Nat,j<m→Flow.isB (Flow.bestB a (fvL g c (j:Int))) i=false
 |0=> .inl ⟨by show(-1:Int)<0;decide,fun m h=>absurd h (by omega)⟩
 |n+1=>by
  rcases ffAt_is a g c i n with⟨h1,h2⟩|⟨m,h0,h1,h2,h3⟩
  ·by_cases hb:Flow.isB (Flow.bestB a (fvL g c (n:Int))) i=true
   ·exact .inr ⟨n,by omega,ffAt_set h1 hb,hb,h2⟩
   ·refine .inl ⟨by rw[ffAt_keep (fun q=>hb q.2)];exact h1,fun m hm=>?_⟩
    by_cases e:m=n
    ·subst e;exact bf hb
    ·exact h2 m (by omega)
  ·exact .inr ⟨m,by omega,by rw[ffAt_keep (fun q=>by omega)];exact h1,h2,h3⟩
theorem fv_get {g c:List Int} {f:Int} {i:Nat} (h:i<g.length):(fvL g c f).getD i 0=g.getD i 0*f-c.getD i 0:=by
 unfold fvL
 rw[List.getD_eq_getElem?_getD,List.getElem?_map,List.getElem?_range h];rfl
theorem pit_grows {a:List (List Int)} {g c:List Int} (q1:arcsOk a=true) (q2:gainsOk g c (a.length:Int)=true) {m n:Nat} (h:m≤n) (hn:n≤60) {i:Nat} (hi:i<a.length) (hb:Flow.isB (Flow.bestB a (fvL g c (m:Int))) i=true):Flow.isB (Flow.bestB a (fvL g c (n:Int))) i=true:=by
 have p:=gainsOk_parts q2;refine Flow.best_grows (fit_best (fv_fit q1 q2 (by omega) (by omega))) (fit_best (fv_fit q1 q2 (by omega) (by omega))) (fun j hj=>?_) i hi hb;have hjg:j<g.length:=by omega
 rw[fv_get hjg,fv_get hjg];have q:=of_decide_eq_true (all_at p.2.2.2.2.1 j hjg)
 have:=Int.mul_le_mul_of_nonneg_left (show(m:Int)≤(n:Int) by omega) q.1
 omega
theorem pw_incr: ∀(xs:List Int),xs.Pairwise (· < ·)→incr xs=true
 |[],_=>rfl
 |[_],_=>rfl
 |a::b::t,h=>by
  rw[incr_cons,Bool.and_eq_true];rw[List.pairwise_cons]at h;exact⟨decide_eq_true (h.1 b (by simp)),pw_incr (b::t) h.2⟩
def Cu (code:List Int):Prop:= ∀x∈code,0≤x∧x≤255
def At (n:Nat) (a:Int):Prop:=0≤a∧a≤(n:Int)
theorem At.mono {n m:Nat} {a:Int} (h:At n a) (hm:n≤m):At m a:=⟨h.1,by have:=h.2;omega⟩
theorem and255 (x:Int):0≤Go.bits .and .u64 x 255∧Go.bits .and .u64 x 255≤255:=by
 have h:(BitVec.ofInt IntKind.u64.bits x &&& BitVec.ofInt IntKind.u64.bits 255).toNat≤255:=by
  rw[BitVec.toNat_and];exact Nat.le_trans Nat.and_le_right (by decide)
 have hb:Go.bits .and .u64 x 255=IntKind.u64.wrap (((BitVec.ofInt IntKind.u64.bits x &&& BitVec.ofInt IntKind.u64.bits 255).toNat:Nat):Int):=rfl;rw[hb];generalize(BitVec.ofInt IntKind.u64.bits x &&& BitVec.ofInt IntKind.u64.bits 255).toNat=m at h⊢;have e:IntKind.u64.wrap (m:Int)=(m:Int):=by
  unfold IntKind.wrap
  simp only[IntKind.bits,IntKind.signed]
  simp
  omega
 rw[e]
 omega
theorem next_eq {code:List Int} (hc:Cu code) {n:Nat} {a s:Int} (h:At n a) (hn:n≤1000000000) (hl:code.length≤1048576): ∃v s',spec_l1Cur_next.f code a s=some (v,a+1,s')∧0≤v∧v≤255:=by
 obtain⟨h0,h1⟩:=h;have w:wrap64 (a+1)=a+1:=wr _ (by omega) (by omega);have wb: ∀x:Int,0≤wrap64 (Go.bits .and .u64 x 255)∧wrap64 (Go.bits .and .u64 x 255)≤255:=fun x=>by
  have:=and255 x
  rw[wr _ (by omega) (by omega)];exact this
 unfold spec_l1Cur_next.f
 rw[w]
 by_cases c:a<(code.length:Int)
 ·have r:0≤rd code a∧rd code a≤255:=by
   obtain⟨i,rfl⟩:=Int.eq_ofNat_of_zero_le h0;rw[rd_get code i (by omega)];exact hc _ (List.getElem_mem _)
  rw[if_pos c,if_pos h0]
  by_cases d:a+1≤(code.length:Int)
  ·rw[if_pos d,wr (rd code a) (by omega) (by omega)];exact⟨_,_,rfl,r⟩
  ·rw[if_neg d];exact⟨_,_,rfl,wb _⟩
 ·rw[if_neg c]
  by_cases d:a+1≤(code.length:Int)
  ·rw[if_pos d];exact⟨_,_,rfl,by omega,by omega⟩
  ·rw[if_neg d];exact⟨_,_,rfl,wb _⟩
theorem pick_eq {code:List Int} (hc:Cu code) (hl:code.length≤1048576) {n:Nat} {a s:Int} (h:At n a) (hn:n≤100000000) (m:Int): ∃v a' s',spec_l1Cur_pick.f code a s m=some (v,a',s')∧At (n+2) a'∧0≤v∧(1≤m→v<m):=by
 have h':=h;obtain⟨h0,h1⟩:=h'
 unfold spec_l1Cur_pick.f
 by_cases c:m≤1
 ·rw[if_pos c];exact⟨_,_,_,rfl,⟨h0,by omega⟩,by omega,fun _=>by omega⟩
 ·obtain⟨v,s',e,v0,v1⟩:=next_eq (s:=s) hc h (by omega) hl;rw[if_neg c,e,Option.bind_some]
  by_cases d:m>200
  ·obtain⟨u,t',e2,u0,u1⟩:=next_eq (n:=n+1) (a:=a+1) (s:=s') hc ⟨by omega,by omega⟩ (by omega) hl;rw[if_pos d,e2,Option.bind_some,if_neg (by omega),wr (v*256) (by omega) (by omega),wr _ (by omega) (by omega)];exact⟨_,a+1+1,_,rfl,⟨by omega,by omega⟩,Int.tmod_nonneg _ (by omega),fun _=>Int.tmod_lt_of_pos _ (by omega)⟩
  ·rw[if_neg d,if_neg (by omega)];exact⟨_,a+1,_,rfl,⟨by omega,by omega⟩,Int.tmod_nonneg _ v0,fun _=>Int.tmod_lt_of_pos _ (by omega)⟩
theorem one_eq {code:List Int} (hc:Cu code) (hl:code.length≤1048576) {n:Nat} {a s:Int} (h:At n a) (hn:n≤100000000) (m:Int): ∃b a' s',spec_l1Cur_one.f code a s m=some (b,a',s')∧At (n+2) a':=by
 obtain⟨v,a',s',e,h2,_⟩:=pick_eq (s:=s) hc hl h hn m
 unfold spec_l1Cur_one.f
 rw[e,Option.bind_some];exact⟨_,_,_,rfl,h2⟩
theorem among_eq {code:List Int} (hc:Cu code) (hl:code.length≤1048576) {n:Nat} {a s:Int} (h:At n a) (hn:n≤100000000) (l:List Int) (h1:1≤l.length): ∃v a' s',spec_l1Cur_among.f code a s l=some (v,a',s')∧At (n+2) a'∧v∈l:=by
 obtain⟨v,a',s',e,h2,v0,v1⟩:=pick_eq (s:=s) hc hl h hn (l.length:Int);have v1:=v1 (by omega)
 unfold spec_l1Cur_among.f
 rw[e,Option.bind_some,if_pos v0,if_pos v1];refine⟨_,_,_,rfl,h2,?_⟩;obtain⟨i,rfl⟩:=Int.eq_ofNat_of_zero_le v0;rw[rd_get l i (by omega)];exact List.getElem_mem _
theorem cu_of {code:List Int} (h:okI .u8 code):Cu code:=fun x hx=>by
 have:=h x hx
 have q:IntKind.u8.min≤x∧x≤IntKind.u8.max:=by simpa [Lit.wf]using this
 exact⟨q.1,q.2⟩
theorem dec_cons (a b:Int) (s t:List Int):decide (a::s=b::t)=(decide (a=b)&& decide (s=t)):=by
 by_cases h:a=b<;>by_cases h2:s=t<;>simp[h,h2]
theorem grid_eq {code:List Int} (hc:Cu code) (hl:code.length≤1048576) {n:Nat} {a s:Int} (h:At n a) (hn:n≤10000000):
  ∃x y z a' s',spec_l1Cur_grid.f code a s=some (x,y,z,a',s')∧At (n+8) a'∧1≤x∧x≤8∧1≤y∧y≤6∧1≤z∧z≤5:=by
 obtain⟨b,a1,s1,e1,h1⟩:=one_eq (s:=s) hc hl h (by omega) 24
 unfold spec_l1Cur_grid.f
 rw[e1,Option.bind_some];cases b with
 |true=>
  obtain⟨v,a2,s2,e2,h2,v0,v1⟩:=pick_eq (s:=s1) hc hl h1 (by omega) 4;have v1:=v1 (by omega);rw[if_pos rfl,Option.bind_some,e2,Option.bind_some,if_pos v0,if_pos (by simpa using v1)];have hv:v=0∨v=1∨v=2∨v=3:=by omega
  have m:=h2.mono (show n+2+2≤n+8 by omega)
  rcases hv with rfl|rfl|rfl|rfl
  ·exact⟨8,5,3,_,_,rfl,m,by decide,by decide,by decide,by decide,by decide,by decide⟩
  ·exact⟨8,3,5,_,_,rfl,m,by decide,by decide,by decide,by decide,by decide,by decide⟩
  ·exact⟨4,6,5,_,_,rfl,m,by decide,by decide,by decide,by decide,by decide,by decide⟩
  ·exact⟨1,1,1,_,_,rfl,m,by decide,by decide,by decide,by decide,by decide,by decide⟩
 |false=>
  obtain⟨v,a2,s2,e2,h2,v0,v1⟩:=pick_eq (s:=s1) hc hl h1 (by omega) 4;obtain⟨u,a3,s3,e3,h3,u0,u1⟩:=pick_eq (s:=s2) hc hl h2 (by omega) 3;obtain⟨t,a4,s4,e4,h4,t0,t1⟩:=pick_eq (s:=s3) hc hl h3 (by omega) 3;have v1:=v1 (by omega);have u1:=u1 (by omega);have t1:=t1 (by omega);rw[if_neg (by simp),e2,Option.bind_some,e3,Option.bind_some,e4,Option.bind_some,wr _ (by omega) (by omega),wr _ (by omega) (by omega),wr _ (by omega) (by omega)];exact⟨_,_,_,_,_,rfl,h4.mono (by omega),by omega,by omega,by omega,by omega,by omega,by omega⟩
theorem abs_some (a:Int): ∃t,spec_l1Abs.f a=some t:=by
 unfold spec_l1Abs.f spec_l1Most.f
 split<;>exact⟨_,rfl⟩
theorem slHas_some (a b c d:Int): ∃t,spec_slHas.f a b c d=some t:=by
 unfold spec_slHas.f
 obtain⟨t,e⟩:=abs_some b;obtain⟨u,f⟩:=abs_some c;rw[e,Option.bind_some,f,Option.bind_some,Option.bind_some,Option.bind_some]
 repeat' split
 all_goals exact⟨_,rfl⟩
theorem slHas_mid (a:Int) (h1:1≤a) (h4:a≤4):spec_slHas.f a 0 0 1=some true:=by
 have h:a=1∨a=2∨a=3∨a=4:=by omega
 rcases h with rfl|rfl|rfl|rfl<;>simp[spec_slHas.f,spec_l1Abs.f,spec_l1Most.f,wrap64]
def StQ (x4 x5 x6:Int) (l:List (S139)):Prop:=1≤l.length∨(x4≤1∧(x4<1∨x5<0∨(x5=0∧x6≤0)))
theorem st_l2 (x0 x4 x5:Int) (h1:1≤x0) (h4:x0≤4) (hx4:1≤x4∧x4≤2) (hx5: -2≤x5∧x5≤2) (L M:Nat) (hL:L≤100) (K: ∀z:List (S139),z.length≤L+5→StQ x4 (x5+1) (-2) z→ ∃r,Ev (fun k=>spec_slStandard.l1 k x0 z x4 (wrap64 (x5+1))) r∧r.length≤M∧1≤r.length):
  ∀(d:Nat) (z:List (S139)) (x6:Int),x6+d=3→d≤5→z.length+d≤L+5→StQ x4 x5 x6 z→ ∃r,Ev (fun k=>spec_slStandard.l2 k x0 z x4 x5 x6) r∧r.length≤M∧1≤r.length:=by
 intro d
 induction d with
 |zero=>
  intro z x6 hx hd hz hq;obtain⟨r,e,h⟩:=K z (by omega) (by unfold StQ at hq⊢;omega);exact⟨r,Ev.step (fun k=>by rw[spec_slStandard.l2]) (Ev.neg (by omega) e),h⟩
 |succ d ih=>
  intro z x6 hx hd hz hq;obtain⟨t,et⟩:=slHas_some x0 x6 x5 x4;have w:wrap64 (x6+1)=x6+1:=wr _ (by omega) (by omega);cases t with
  |true=>
   obtain⟨r,e,h⟩:=ih (z++[⟨x6,x5,x4⟩]) (x6+1) (by omega) (by omega) (by simp;omega) (.inl (by simp));refine⟨r,Ev.step (fun k=>by rw[spec_slStandard.l2]) (Ev.pos (by omega) ?_),h⟩;rw[et,w];exact Ev.sbind (Ev.pos rfl (Ev.pos (by omega) e))
  |false=>
   obtain⟨r,e,h⟩:=ih z (x6+1) (by omega) (by omega) (by omega) (by
    unfold StQ at hq⊢
    rcases hq with q|q
    ·exact .inl q
    ·refine .inr ⟨q.1,?_⟩
     rcases q.2 with q2|q2|q2
     ·omega
     ·exact .inr (.inl q2)
     ·by_cases c:x6=0
      ·have c4:x4=1:=by omega
       rw[c,q2.1,c4,slHas_mid x0 h1 h4]at et;cases et
      ·omega)
   refine⟨r,Ev.step (fun k=>by rw[spec_slStandard.l2]) (Ev.pos (by omega) ?_),h⟩;rw[et,w];exact Ev.sbind (Ev.neg (by decide) e)
theorem st_l1 (x0 x4:Int) (h1:1≤x0) (h4:x0≤4) (hx4:1≤x4∧x4≤2) (L M:Nat) (hL:L≤50) (K: ∀z:List (S139),z.length≤L+25→StQ (x4+1) (-2) (-2) z→ ∃r,Ev (fun k=>spec_slStandard.l0 k x0 z (wrap64 (x4+1))) r∧r.length≤M∧1≤r.length):
  ∀(d:Nat) (z:List (S139)) (x5:Int),x5+d=3→d≤5→z.length+5*d≤L+25→StQ x4 x5 (-2) z→ ∃r,Ev (fun k=>spec_slStandard.l1 k x0 z x4 x5) r∧r.length≤M∧1≤r.length:=by
 intro d
 induction d with
 |zero=>
  intro z x5 hx hd hz hq;obtain⟨r,e,h⟩:=K z (by omega) (by unfold StQ at hq⊢;omega);exact⟨r,Ev.step (fun k=>by rw[spec_slStandard.l1]) (Ev.neg (by omega) e),h⟩
 |succ d ih=>
  intro z x5 hx hd hz hq;have w:wrap64 (x5+1)=x5+1:=wr _ (by omega) (by omega);obtain⟨r,e,h⟩:=st_l2 x0 x4 x5 h1 h4 hx4 (by omega) z.length M (by omega) (fun z' hz' hq'=>by
   rw[w];exact ih z' (x5+1) (by omega) (by omega) (by omega) hq') 5 z (-2) (by omega) (by omega) (by omega) hq
  exact⟨r,Ev.step (fun k=>by rw[spec_slStandard.l1]) (Ev.pos (by omega) e),h⟩
theorem standard_ev (x0:Int) (h1:1≤x0) (h4:x0≤4): ∃r,Ev (fun k=>spec_slStandard.f k x0) r∧r.length≤50∧1≤r.length:=by
 have key: ∀(d:Nat) (z:List (S139)) (x4:Int),x4+d=3→d≤2→z.length+25*d≤50→StQ x4 (-2) (-2) z→ ∃r,Ev (fun k=>spec_slStandard.l0 k x0 z x4) r∧r.length≤50∧1≤r.length:=by
  intro d
  induction d with
  |zero=>
   intro z x4 hx hd hz hq;exact⟨z,Ev.step (fun k=>by rw[spec_slStandard.l0]) (Ev.neg (by omega) (Ev.now _)),by omega,by unfold StQ at hq;omega⟩
  |succ d ih=>
   intro z x4 hx hd hz hq;have w:wrap64 (x4+1)=x4+1:=wr _ (by omega) (by omega);obtain⟨r,e,h⟩:=st_l1 x0 x4 h1 h4 (by omega) z.length 50 (by omega) (fun z' hz' hq'=>by
    rw[w];exact ih z' (x4+1) (by omega) (by omega) (by omega) hq') 5 z (-2) (by omega) (by omega) (by omega) hq
   exact⟨r,Ev.step (fun k=>by rw[spec_slStandard.l0]) (Ev.pos (by omega) e),h⟩
 exact key 2 [] 1 (by omega) (by omega) (by simp) (.inr ⟨by omega,by omega⟩)
theorem uniform_ev (x y z k0:Int) (hx:1≤x∧x≤8) (hy:1≤y∧y≤6) (h1:1≤k0) (h4:k0≤4): ∃t,Ev (fun k=>spec_slUniform.f k x y z k0) (List.replicate (x*y).toNat 0,[t])∧t.length≤50:=by
 obtain⟨t,e,l,_⟩:=standard_ev k0 h1 h4;have m1:1*1≤x*y:=Int.mul_le_mul hx.1 hy.1 (by omega) (by omega);have m2:x*y≤8*6:=Int.mul_le_mul hx.2 hy.2 (by omega) (by omega);have w:wrap64 (x*y)=x*y:=wr _ (by omega) (by omega);refine⟨t,?_,l⟩
 unfold spec_slUniform.f
 rw[w];exact Ev.pos (by omega) (Ev.pos (by omega) (Ev.bind e (Ev.now _)))
theorem tmpl_l0 {code:List Int} (a s:Int): ∀(d:Nat) (z:List (S139)),z.length+d≤60→ ∃r,Ev (fun k=>spec_l1Cur_template.l0 k z (d:Int) code a s) (r,a,s)∧r.length≤60:=by
 intro d
 induction d with
 |zero=>exact fun z h=>⟨z,Ev.step (fun k=>by rw[spec_l1Cur_template.l0]) (Ev.neg (by simp) (Ev.now _)),by omega⟩
 |succ d ih=>
  intro z h;obtain⟨r,e,l⟩:=ih (z++[⟨((z.length:Int)% 5)-2,wrap64 ((wrap64 ((z.length:Int)/ 5))-2),1⟩]) (by simp;omega);have w:wrap64 (((d+1:Nat):Int)-1)=(d:Int):=by rw[wr _ (by omega) (by omega)];omega
  refine⟨r,Ev.step (fun k=>by rw[spec_l1Cur_template.l0]) (Ev.pos (by omega) (Ev.pos (by omega) ?_)),l⟩;rw[w];exact e
theorem template_ev {code:List Int} (hc:Cu code) (hl:code.length≤1048576) {n:Nat} {a s:Int} (h:At n a) (hn:n≤10000000):
  ∃r a' s',Ev (fun k=>spec_l1Cur_template.f k code a s) (r,a',s')∧At (n+10) a'∧r.length≤60:=by
 obtain⟨v,a1,s1,e1,h1,v0,v1⟩:=pick_eq (s:=s) hc hl h (by omega) 4;have v1:=v1 (by omega);obtain⟨t,et,tl,t1⟩:=standard_ev (1+v) (by omega) (by omega);obtain⟨q,a2,s2,e2,h2,q0,q1⟩:=pick_eq (s:=s1) hc hl h1 (by omega) 10;have m2:=h2.mono (show n+2+2≤n+10 by omega);have et':Ev (fun k=>spec_slStandard.f k (wrap64 (1+v))) t:=by rw[wr _ (by omega) (by omega)];exact et
 unfold spec_l1Cur_template.f
 rw[e1]
 by_cases c0:q=0
 ·obtain⟨u,a3,s3,e3,h3,_⟩:=pick_eq (s:=s2) hc hl h2 (by omega) 5;have E:=Ev.now (t++[(⟨wrap64 (u-2),2,2⟩:S139)],a3,s3);exact⟨_,_,_,Ev.sbind (Ev.bind et' (by rw[e2];exact Ev.sbind (Ev.pos c0 (by rw[e3];exact Ev.sbind (Ev.pos (by omega) E))))),h3.mono (by omega),by simp;omega⟩
 by_cases c1:q=1
 ·obtain⟨u,a3,s3,e3,h3,u0,u1⟩:=pick_eq (s:=s2) hc hl h2 (by omega) (t.length:Int);have u1:=u1 (by omega);have E:=Ev.now (t.drop u.toNat,a3,s3);exact⟨_,_,_,Ev.sbind (Ev.bind et' (by rw[e2];exact Ev.sbind (Ev.neg c0 (Ev.pos c1 (by rw[e3];exact Ev.sbind (Ev.pos u0 (Ev.pos (by omega) E))))))),h3.mono (by omega),by simp;omega⟩
 by_cases c2:q=2
 ·obtain⟨b,a3,s3,e3,h3⟩:=one_eq (s:=s2) hc hl h2 (by omega) 3;cases b with
  |true=>
   obtain⟨u,a4,s4,e4,h4,u0,u1⟩:=pick_eq (s:=s3) hc hl h3 (by omega) (t.length:Int);have u1:=u1 (by omega);obtain⟨m,a5,s5,e5,h5,_⟩:=among_eq (s:=s4) hc hl h4 (by omega) ([(-3),(-2),2,3]:List Int) (by simp);have E:=Ev.now (t.set u.toNat (⟨m,(rd_T139 t u).f1,(rd_T139 t u).f2⟩:S139),a5,s5);exact⟨_,_,_,Ev.sbind (Ev.bind et' (by
    rw[e2];refine Ev.sbind (Ev.neg c0 (Ev.neg c1 (Ev.pos c2 ?_)));rw[e3];refine Ev.sbind (Ev.pos rfl ?_);rw[e4];refine Ev.sbind ?_;rw[e5];exact Ev.sbind (Ev.pos u0 (Ev.pos u1 E)))),h5.mono (by omega),by simp;omega⟩
  |false=>
   have E:=Ev.now (t,a3,s3);exact⟨_,_,_,Ev.sbind (Ev.bind et' (by rw[e2];exact Ev.sbind (Ev.neg c0 (Ev.neg c1 (Ev.pos c2 (by rw[e3];exact Ev.sbind (Ev.neg (by simp) E))))))),h3.mono (by omega),by omega⟩
 by_cases c3:q=3
 ·obtain⟨b,a3,s3,e3,h3⟩:=one_eq (s:=s2) hc hl h2 (by omega) 3;cases b with
  |true=>
   obtain⟨u,a4,s4,e4,h4,u0,u1⟩:=pick_eq (s:=s3) hc hl h3 (by omega) (t.length:Int);have u1:=u1 (by omega);obtain⟨m,a5,s5,e5,h5,_⟩:=among_eq (s:=s4) hc hl h4 (by omega) ([0,1,2,3]:List Int) (by simp);have E:=Ev.now (t.set u.toNat (⟨(rd_T139 t u).f0,(rd_T139 t u).f1,m⟩:S139),a5,s5);exact⟨_,_,_,Ev.sbind (Ev.bind et' (by
    rw[e2];refine Ev.sbind (Ev.neg c0 (Ev.neg c1 (Ev.neg c2 (Ev.pos c3 ?_))));rw[e3];refine Ev.sbind (Ev.pos rfl ?_);rw[e4];refine Ev.sbind ?_;rw[e5];exact Ev.sbind (Ev.pos u0 (Ev.pos u1 E)))),h5.mono (by omega),by simp;omega⟩
  |false=>
   have E:=Ev.now (t,a3,s3);exact⟨_,_,_,Ev.sbind (Ev.bind et' (by rw[e2];exact Ev.sbind (Ev.neg c0 (Ev.neg c1 (Ev.neg c2 (Ev.pos c3 (by rw[e3];exact Ev.sbind (Ev.neg (by simp) E)))))))),h3.mono (by omega),by omega⟩
 by_cases c4:q=4
 ·obtain⟨b,a3,s3,e3,h3⟩:=one_eq (s:=s2) hc hl h2 (by omega) 3;cases b with
  |true=>
   obtain⟨u,a4,s4,e4,h4,u0,u1⟩:=pick_eq (s:=s3) hc hl h3 (by omega) 2;have u1:=u1 (by omega);obtain⟨r,er,lr⟩:=tmpl_l0 (code:=code) a4 s4 (12+u).toNat [] (by simp;omega);have er':Ev (fun k=>spec_l1Cur_template.l0 k [] (wrap64 (12+u)) code a4 s4) (r,a4,s4):=by
    rw[wr _ (by omega) (by omega),show(12+u:Int)=((12+u).toNat:Int) by omega];exact er
   exact⟨_,_,_,Ev.sbind (Ev.bind et' (by
    rw[e2];refine Ev.sbind (Ev.neg c0 (Ev.neg c1 (Ev.neg c2 (Ev.neg c3 (Ev.pos c4 ?_)))));rw[e3];refine Ev.sbind (Ev.pos rfl ?_);rw[e4];exact Ev.sbind er')),h4.mono (by omega),lr⟩
  |false=>
   have E:=Ev.now (t,a3,s3);exact⟨_,_,_,Ev.sbind (Ev.bind et' (by rw[e2];exact Ev.sbind (Ev.neg c0 (Ev.neg c1 (Ev.neg c2 (Ev.neg c3 (Ev.pos c4 (by rw[e3];exact Ev.sbind (Ev.neg (by simp) E))))))))),h3.mono (by omega),by omega⟩
 by_cases c5:q=5
 ·obtain⟨b,a3,s3,e3,h3⟩:=one_eq (s:=s2) hc hl h2 (by omega) 3;cases b with
  |true=>
   have E:=Ev.now (([]:List (S139)),a3,s3);exact⟨_,_,_,Ev.sbind (Ev.bind et' (by rw[e2];exact Ev.sbind (Ev.neg c0 (Ev.neg c1 (Ev.neg c2 (Ev.neg c3 (Ev.neg c4 (Ev.pos c5 (by rw[e3];exact Ev.sbind (Ev.pos rfl E)))))))))),h3.mono (by omega),by simp⟩
  |false=>
   have E:=Ev.now (t,a3,s3);exact⟨_,_,_,Ev.sbind (Ev.bind et' (by rw[e2];exact Ev.sbind (Ev.neg c0 (Ev.neg c1 (Ev.neg c2 (Ev.neg c3 (Ev.neg c4 (Ev.pos c5 (by rw[e3];exact Ev.sbind (Ev.neg (by simp) E)))))))))),h3.mono (by omega),by omega⟩
 ·have E:=Ev.now (t,a2,s2);exact⟨_,_,_,Ev.sbind (Ev.bind et' (by rw[e2];exact Ev.sbind (Ev.neg c0 (Ev.neg c1 (Ev.neg c2 (Ev.neg c3 (Ev.neg c4 (Ev.neg c5 E)))))))),m2,by omega⟩
theorem slBefore_some (a b c d e f:Int): ∃t,spec_slBefore.f a b c d e f=some t:=by
 unfold spec_slBefore.f
 repeat' split
 all_goals exact⟨_,rfl⟩
theorem l1In_some (a b c:Int): ∃t,spec_l1In.f a b c=some t:=by
 unfold spec_l1In.f
 split<;>exact⟨_,rfl⟩
theorem slTemplate_ev (l:List (S139)) (hl:l.length≤1000): ∃b,Ev (fun k=>spec_slTemplate.f k l) b:=by
 have key: ∀(d i:Nat),i+d=l.length→ ∃b,Ev (fun k=>spec_slTemplate.l0 k l l (l.length:Int) (i:Int)) b:=by
  intro d
  induction d with
  |zero=>
   intro i h;obtain⟨t,e⟩:=l1In_some (l.length:Int) 1 12;exact⟨t,Ev.step (fun k=>by rw[spec_slTemplate.l0]) (Ev.neg (by omega) (by rw[e];exact Ev.sbind (Ev.now _)))⟩
  |succ d ih=>
   intro i h;obtain⟨b,eb⟩:=ih (i+1) (by omega);have eb:Ev (fun k=>spec_slTemplate.l0 k l l (l.length:Int) (wrap64 ((i:Int)+1))) b:=by rw[wr_nat i _ (show i<1000 by omega) (by omega)];exact eb
   obtain⟨t1,e1⟩:=l1In_some ((rd_T139 l (i:Int)).f0) (-2) 2;obtain⟨t2,e2⟩:=l1In_some ((rd_T139 l (i:Int)).f1) (-2) 2;obtain⟨t3,e3⟩:=l1In_some ((rd_T139 l (i:Int)).f2) 1 2;have hw:0<i→wrap64 ((i:Int)-1)=(i:Int)-1:=fun h=>wr _ (by omega) (by omega)
   have st: ∀ {r:Bool},Ev (fun k=>(spec_l1In.f ((rd_T139 l (i:Int)).f0) (-2) 2).bind fun t593=>(if t593=true then((spec_l1In.f ((rd_T139 l (i:Int)).f1) (-2) 2).bind fun t594=>(if t594=true then((spec_l1In.f ((rd_T139 l (i:Int)).f2) 1 2).bind fun t595=>(if t595=true then(if(i:Int)>0 then(if 0≤(wrap64 ((i:Int)-1))then(if(wrap64 ((i:Int)-1))<(l.length:Int)then((spec_slBefore.f ((rd_T139 l (wrap64 ((i:Int)-1))).f0) ((rd_T139 l (wrap64 ((i:Int)-1))).f1) ((rd_T139 l (wrap64 ((i:Int)-1))).f2) ((rd_T139 l (i:Int)).f0) ((rd_T139 l (i:Int)).f1) ((rd_T139 l (i:Int)).f2)).bind fun t597=>(if t597=true then(spec_slTemplate.l0 k l l (l.length:Int) (wrap64 ((i:Int)+1)))else(some false)))else(none))else(none))else(spec_slTemplate.l0 k l l (l.length:Int) (wrap64 ((i:Int)+1))))else(some false)))else(some false)))else(some false))) r→
     Ev (fun k=>spec_slTemplate.l0 k l l (l.length:Int) (i:Int)) r:=fun h=>Ev.step (fun k=>by rw[spec_slTemplate.l0]) (Ev.pos (by omega) (Ev.pos (by omega) (Ev.pos (by omega) h)))
   rw[e1,e2,e3]at st;cases t1 with
   |false=>exact⟨_,st (Ev.sbind (Ev.neg (by simp) (Ev.now false)))⟩
   |true=>
   cases t2 with
   |false=>exact⟨_,st (Ev.sbind (Ev.pos rfl (Ev.sbind (Ev.neg (by simp) (Ev.now false)))))⟩
   |true=>
   cases t3 with
   |false=>exact⟨_,st (Ev.sbind (Ev.pos rfl (Ev.sbind (Ev.pos rfl (Ev.sbind (Ev.neg (by simp) (Ev.now false)))))))⟩
   |true=>
   by_cases c:0<i
   ·obtain⟨t4,e4⟩:=slBefore_some ((rd_T139 l (wrap64 ((i:Int)-1))).f0) ((rd_T139 l (wrap64 ((i:Int)-1))).f1) ((rd_T139 l (wrap64 ((i:Int)-1))).f2) ((rd_T139 l (i:Int)).f0) ((rd_T139 l (i:Int)).f1) ((rd_T139 l (i:Int)).f2);have w:=hw c;cases t4 with
    |false=>
     refine⟨false,st (Ev.sbind (Ev.pos rfl (Ev.sbind (Ev.pos rfl (Ev.sbind (Ev.pos rfl (Ev.pos (by omega) (Ev.pos (by omega) (Ev.pos (by omega) ?_)))))))))⟩;rw[e4];exact Ev.sbind (Ev.neg (by simp) (Ev.now false))
    |true=>
     refine⟨b,st (Ev.sbind (Ev.pos rfl (Ev.sbind (Ev.pos rfl (Ev.sbind (Ev.pos rfl (Ev.pos (by omega) (Ev.pos (by omega) (Ev.pos (by omega) ?_)))))))))⟩;rw[e4];exact Ev.sbind (Ev.pos rfl eb)
   ·exact⟨_,st (Ev.sbind (Ev.pos rfl (Ev.sbind (Ev.pos rfl (Ev.sbind (Ev.pos rfl (Ev.neg (by omega) eb)))))))⟩
 exact key l.length 0 (by omega)
theorem slopes_l0 {code:List Int} (hc:Cu code) (hl:code.length≤1048576) (tem:List (List (S139))): ∀(d i:Nat) (sec:List Int) (n:Nat) (a s:Int),i+d=sec.length→sec.length≤60→(∀v∈sec,0≤v∧v<2)→n+2*d≤20000000→At n a→
  ∃sec' a' s',Ev (fun k=>spec_l1Cur_slopes.l0 k (sec.length:Int) (i:Int) code a s sec tem) (sec',tem,a',s')∧sec'.length=sec.length∧(∀v∈sec',0≤v∧v<2)∧At (n+2*d) a':=by
 intro d
 induction d with
 |zero=>
  intro i sec n a s h h60 hv hn ha;exact⟨sec,a,s,Ev.step (fun k=>by rw[spec_l1Cur_slopes.l0]) (Ev.neg (by omega) (Ev.now _)),rfl,hv,ha⟩
 |succ d ih=>
  intro i sec n a s h h60 hv hn ha;obtain⟨u,a1,s1,e1,h1,u0,u1⟩:=pick_eq (s:=s) hc hl ha (by omega) 2;have u1:=u1 (by omega);obtain⟨sec',a',s',e,l,hv',ha'⟩:=ih (i+1) (sec.set i u) (n+2) a1 s1 (by simp;omega) (by simp;omega) (fun v hm=>by
   rcases List.mem_or_eq_of_mem_set hm with hm|rfl
   ·exact hv v hm
   ·exact⟨u0,u1⟩) (by omega) h1
  rw[List.length_set]at e l;refine⟨sec',a',s',Ev.step (fun k=>by rw[spec_l1Cur_slopes.l0]) (Ev.pos (by omega) ?_),l,hv',ha'.mono (by omega)⟩;rw[e1];refine Ev.sbind (Ev.pos (by omega) (Ev.pos (by omega) ?_));rw[wr_nat i _ (show i<1000 by omega) (by omega),Int.toNat_natCast];exact e
theorem slopes_ev {code:List Int} (hc:Cu code) (hl:code.length≤1048576) {n:Nat} {a s:Int} (h:At n a) (hn:n≤1000000) (x y z:Int) (hx:1≤x∧x≤8) (hy:1≤y∧y≤6):
  ∃sec tem a' s',Ev (fun k=>spec_l1Cur_slopes.f k code a s x y z) (sec,tem,a',s')∧At (n+200) a'∧sec.length=(x*y).toNat∧(∀v∈sec,0≤v∧v<(tem.length:Int))∧ ∀t∈tem,t.length≤60:=by
 have m1:1*1≤x*y:=Int.mul_le_mul hx.1 hy.1 (by omega) (by omega);have m2:x*y≤8*6:=Int.mul_le_mul hx.2 hy.2 (by omega) (by omega);obtain⟨v,a1,s1,e1,h1,v0,v1⟩:=pick_eq (s:=s) hc hl h (by omega) 4;have v1:=v1 (by omega);obtain⟨t,et,lt⟩:=uniform_ev x y z (1+v) hx hy (by omega) (by omega);have et:Ev (fun k=>spec_slUniform.f k x y z (wrap64 (1+v))) (List.replicate (x*y).toNat 0,[t]):=by rw[wr _ (by omega) (by omega)];exact et
 obtain⟨b,a2,s2,e2,h2⟩:=one_eq (s:=s1) hc hl h1 (by omega) 3;have z0: ∀w∈List.replicate (x*y).toNat (0:Int),0≤w∧w<1:=fun w hw=>by rw[(List.mem_replicate.1 hw).2];omega
 have t1: ∀w∈[t],w.length≤60:=fun w hw=>by rw[List.mem_singleton.1 hw];omega
 unfold spec_l1Cur_slopes.f
 rw[e1];cases b with
 |false=>
  have E:=Ev.now (List.replicate (x*y).toNat (0:Int),[t],a2,s2);exact⟨_,_,_,_,Ev.sbind (Ev.bind et (by rw[e2];exact Ev.sbind (Ev.neg (by simp) E))),h2.mono (by omega),by simp,by simp,t1⟩
 |true=>
  obtain⟨r,a3,s3,e3,h3,lr⟩:=template_ev (s:=s2) hc hl h2 (by omega);obtain⟨b,eb⟩:=slTemplate_ev r (by omega);cases b with
  |false=>
   have E:=Ev.now (List.replicate (x*y).toNat (0:Int),[t],a3,s3);exact⟨_,_,_,_,Ev.sbind (Ev.bind et (by rw[e2];exact Ev.sbind (Ev.pos rfl (Ev.bind e3 (Ev.bind eb (Ev.neg (by simp) E)))))),h3.mono (by omega),by simp,by simp,t1⟩
  |true=>
   obtain⟨sec,a4,s4,e4,l4,hv,h4⟩:=slopes_l0 hc hl ([t]++[r]) (x*y).toNat 0 (List.replicate (x*y).toNat 0) (n+2+2+10) a3 s3 (by simp) (by simp;omega) (fun w hw=>by have:=z0 w hw;omega) (by omega) h3;refine⟨_,_,_,_,Ev.sbind (Ev.bind et (by rw[e2];exact Ev.sbind (Ev.pos rfl (Ev.bind e3 (Ev.bind eb (Ev.pos rfl (Ev.pos (by simp) e4))))))),h4.mono (by omega),by rw[l4];simp,by simpa using hv,fun w hw=>?_⟩
   rcases List.mem_append.1 hw with hw|hw
   ·exact t1 w hw
   ·rw[List.mem_singleton.1 hw];exact lr
theorem grAt_some (a b c d e f:Int): ∃t,spec_grAt.f a b c d e f=some t:=by
 unfold spec_grAt.f
 obtain⟨t1,e1⟩:=l1In_some d 0 (wrap64 (a-1));obtain⟨t2,e2⟩:=l1In_some e 0 (wrap64 (b-1));obtain⟨t3,e3⟩:=l1In_some f 0 (wrap64 (c-1));rw[e1,e2,e3,Option.bind_some,Option.bind_some,Option.bind_some]
 repeat' split
 all_goals exact⟨_,rfl⟩
theorem slArcs_l1 (x y z:Int) (sec:List Int) (tem:List (List (S139))) (P:List (List Int)→Prop) (acc:List (List Int)) (i x7 x8 x9:Int) (tl:List (S139)) (ha:acc.length≤1000) (ht:tl.length≤60)
  (K: ∀r:List Int,r.length≤60→ ∃R,Ev (fun k=>spec_slArcs.l0 k (acc++[r]) (wrap64 (i+1)) x y z sec tem) R∧P R):
  ∀(d j:Nat) (r:List Int),j+d=tl.length→r.length+d≤60→r.Pairwise (· < ·)→ ∃R,Ev (fun k=>spec_slArcs.l1 k acc i x7 x8 x9 r tl (tl.length:Int) (j:Int) x y z sec tem) R∧P R:=by
 intro d
 induction d with
 |zero=>
  intro j r h hr hp;obtain⟨R,e,p⟩:=K r (by omega);exact⟨R,Ev.step (fun k=>by rw[spec_slArcs.l1]) (Ev.neg (by omega) (Ev.pos (by omega) e)),p⟩
 |succ d ih=>
  intro j r h hr hp;obtain⟨t,et⟩:=grAt_some x y z (wrap64 (x7+((rd_T139 tl (j:Int)).f0))) (wrap64 (x8+((rd_T139 tl (j:Int)).f1))) (wrap64 (x9-((rd_T139 tl (j:Int)).f2)));have w:wrap64 ((j:Int)+1)=((j+1:Nat):Int):=wr_nat j _ (show j<1000 by omega) (by omega)
  by_cases c:t≥0
  ·obtain⟨r',er,p',l',_⟩:=l1Put_ev r t (by omega) hp;obtain⟨R,e,p⟩:=ih (j+1) r' (by omega) (by omega) p';refine⟨R,Ev.step (fun k=>by rw[spec_slArcs.l1]) (Ev.pos (by omega) (Ev.pos (by omega) (Ev.pos (by omega) ?_))),p⟩;rw[et,w];exact Ev.sbind (Ev.pos c (Ev.bind er e))
  ·obtain⟨R,e,p⟩:=ih (j+1) r (by omega) (by omega) hp;refine⟨R,Ev.step (fun k=>by rw[spec_slArcs.l1]) (Ev.pos (by omega) (Ev.pos (by omega) (Ev.pos (by omega) ?_))),p⟩;rw[et,w];exact Ev.sbind (Ev.neg c e)
theorem ix_ok (x y z i:Int) (hx:1≤x∧x≤8) (hy:1≤y∧y≤6) (hi:0≤i∧i<1000): ∃tx ty tz,spec_grX.f x y z i=some tx∧spec_grY.f x y z i=some ty∧(1≤z→spec_grZ.f x y z i=some tz)∧0≤wrap64 ((wrap64 (ty*x))+tx)∧wrap64 ((wrap64 (ty*x))+tx)<x*y:=by
 have m1:1*1≤x*y:=Int.mul_le_mul hx.1 hy.1 (by decide) (by omega);have m2:x*y≤8*6:=Int.mul_le_mul hx.2 hy.2 (by omega) (by decide);have x0:0≤x:=by omega
 have y0:0<y:=by omega
 have hdiv0:0≤Int.tdiv i x:=Int.tdiv_nonneg hi.1 x0;have hdiv1:Int.tdiv i x≤i:=Int.tdiv_le_self x hi.1;have tx0:0≤Int.tmod i x:=Int.tmod_nonneg _ hi.1;have tx1:Int.tmod i x<x:=Int.tmod_lt_of_pos _ (by omega);have ty0:0≤Int.tmod (Int.tdiv i x) y:=Int.tmod_nonneg _ hdiv0;have ty1:Int.tmod (Int.tdiv i x) y<y:=Int.tmod_lt_of_pos _ y0;have eX:spec_grX.f x y z i=some (Int.tmod i x):=by unfold spec_grX.f;rw[if_neg (by omega)]
 have eY:spec_grY.f x y z i=some (Int.tmod (Int.tdiv i x) y):=by unfold spec_grY.f;rw[if_neg (by omega),if_neg (by omega),wr (Int.tdiv i x) (by omega) (by omega)]
 have eZ: ∃t,spec_grZ.f x y z i=some t:=by unfold spec_grZ.f;rw[if_neg (by omega),if_neg (by omega)];exact⟨_,rfl⟩
 obtain⟨tz,eZ⟩:=eZ;refine⟨_,_,tz,eX,eY,fun _=>eZ,?_⟩;generalize Int.tmod i x=tx at tx0 tx1;generalize Int.tmod (Int.tdiv i x) y=ty at ty0 ty1;clear eX eY eZ hdiv0 hdiv1;have q1:ty*x≤(y-1)*x:=Int.mul_le_mul_of_nonneg_right (by omega) x0;have q2:(y-1)*x=x*y-x:=by rw[Int.sub_mul,Int.one_mul,Int.mul_comm]
 have q0:0≤ty*x:=Int.mul_nonneg ty0 x0;generalize ty*x=a at q0 q1;generalize x*y=b at q2 m1 m2;generalize(y-1)*x=c at q1 q2;rw[wr a (by omega) (by omega),wr _ (by omega) (by omega)]
 omega
theorem rdL8_in (tem:List (List (S139))) (v:Int) (h0:0≤v) (h1:v<(tem.length:Int)):rd_L8 tem v∈tem:=by
 obtain⟨J,rfl⟩:=Int.eq_ofNat_of_zero_le h0;have lJ:J<tem.length:=by omega
 unfold rd_L8
 rw[Int.toNat_natCast,List.getD_eq_getElem?_getD,List.getElem?_eq_getElem lJ];exact List.getElem_mem _
theorem slArcs_l0 (x y z:Int) (C:Nat) (hC:C≤240) (cnt:spec_grCount.f x y z=some (C:Int)) (sec:List Int) (tem:List (List (S139)))
  (hix: ∀i:Nat,i<1000→ ∃tx ty tz,spec_grX.f x y z (i:Int)=some tx∧spec_grY.f x y z (i:Int)=some ty∧spec_grZ.f x y z (i:Int)=some tz∧ ∃I:Nat,wrap64 ((wrap64 (ty*x))+tx)=(I:Int)∧I<sec.length)
  (hv: ∀v∈sec,0≤v∧v<(tem.length:Int)) (ht: ∀t∈tem,t.length≤60):
  ∀(d i:Nat) (acc:List (List Int)),i+d=C→acc.length=i→(∀r∈acc,r.length≤60)→ ∃R,Ev (fun k=>spec_slArcs.l0 k acc (i:Int) x y z sec tem) R∧(R.length=C∧ ∀r∈R,r.length≤60):=by
 intro d
 induction d with
 |zero=>
  intro i acc h ha hr;refine⟨acc,Ev.step (fun k=>by rw[spec_slArcs.l0]) ?_,by omega,hr⟩;rw[cnt];exact Ev.sbind (Ev.neg (by omega) (Ev.now _))
 |succ d ih=>
  intro i acc h ha hr;have w:wrap64 ((i:Int)+1)=((i+1:Nat):Int):=wr_nat i _ (show i<1000 by omega) (by omega);obtain⟨tx,ty,tz,eX,eY,eZ,I,eI,lI⟩:=hix i (by omega);have hm:rd sec (I:Int)∈sec:=by rw[rd_get sec I lI];exact List.getElem_mem _
  obtain⟨s0,s1⟩:=hv _ hm;have lt:=ht _ (rdL8_in tem _ s0 s1);obtain⟨R,e,p⟩:=slArcs_l1 x y z sec tem (fun R=>R.length=C∧ ∀r∈R,r.length≤60) acc (i:Int) tx ty tz (rd_L8 tem (rd sec (I:Int))) (by omega) lt (fun r hr'=>by
   rw[w];exact ih (i+1) (acc++[r]) (by omega) (by simp;omega) (fun q hq=>by
    rcases List.mem_append.1 hq with hq|hq
    ·exact hr q hq
    ·rw[List.mem_singleton.1 hq];exact hr')) (rd_L8 tem (rd sec (I:Int))).length 0 [] (by omega) (by simp;omega) List.Pairwise.nil
  refine⟨R,Ev.step (fun k=>by rw[spec_slArcs.l0]) ?_,p⟩;rw[cnt,eX,eY,eZ];refine Ev.sbind (Ev.pos (by omega) (Ev.sbind (Ev.sbind (Ev.sbind ?_))));rw[eI];exact Ev.pos (nn _) (Ev.pos (by omega) (Ev.pos s0 (Ev.pos s1 e)))
theorem slArcs_ev (x y z:Int) (hx:1≤x∧x≤8) (hy:1≤y∧y≤6) (hz:1≤z∧z≤5) (sec:List Int) (tem:List (List (S139))) (hs:sec.length=(x*y).toNat) (hv: ∀v∈sec,0≤v∧v<(tem.length:Int)) (ht: ∀t∈tem,t.length≤60):
  ∃R,Ev (fun k=>spec_slArcs.f k x y z sec tem) R∧1≤R.length∧R.length≤240∧ ∀r∈R,r.length≤60:=by
 have m1:1*1≤x*y:=Int.mul_le_mul hx.1 hy.1 (by decide) (by omega);have m2:x*y≤8*6:=Int.mul_le_mul hx.2 hy.2 (by omega) (by decide);have m3:1*1≤x*y*z:=Int.mul_le_mul (by omega) hz.1 (by decide) (by omega);have m4:x*y*z≤48*5:=Int.mul_le_mul (by omega) hz.2 (by omega) (by decide);have cnt:spec_grCount.f x y z=some (((x*y*z).toNat:Nat):Int):=by
  unfold spec_grCount.f
  rw[wr (x*y) (by omega) (by omega),wr _ (by omega) (by omega)]
  congr 1
  omega
 have hix: ∀i:Nat,i<1000→ ∃tx ty tz,spec_grX.f x y z (i:Int)=some tx∧spec_grY.f x y z (i:Int)=some ty∧spec_grZ.f x y z (i:Int)=some tz∧ ∃I:Nat,wrap64 ((wrap64 (ty*x))+tx)=(I:Int)∧I<sec.length:=fun i hi=>by
  obtain⟨tx,ty,tz,eX,eY,eZ,I0,I1⟩:=ix_ok x y z (i:Int) hx hy ⟨by omega,by omega⟩;obtain⟨I,e⟩:=Int.eq_ofNat_of_zero_le I0;rw[e]at I1;exact⟨tx,ty,tz,eX,eY,eZ hz.1,I,e,by omega⟩
 obtain⟨R,e,p⟩:=slArcs_l0 x y z (x*y*z).toNat (by omega) cnt sec tem hix hv ht (x*y*z).toNat 0 [] (by omega) rfl (fun r hr=>by cases hr);exact⟨R,e,by omega,by omega,p.2⟩
theorem arcs_l1 {code:List Int} (hc:Cu code) (hl:code.length≤1048576) (N:Int) (i:Nat) (hi:i≤30) (acc:List (List Int)) (ha:acc.length≤100) (m:Nat) (P:List (List Int)×Int×Int→Prop)
  (K: ∀(r:List Int) (a s:Int),r.length≤30→At m a→ ∃R,Ev (fun k=>spec_l1Cur_arcs.l0 k (acc++[r]) N (wrap64 ((i:Int)+1)) code a s) R∧P R):
  ∀(d j:Nat) (r:List Int) (n:Nat) (a s:Int),j+d=i→r.length+d≤30→n+2*d≤m→m≤1000000→At n a→ ∃R,Ev (fun k=>spec_l1Cur_arcs.l1 k acc N (i:Int) r (j:Int) code a s) R∧P R:=by
 intro d
 induction d with
 |zero=>
  intro j r n a s h hr hn hm h0;obtain⟨R,e,p⟩:=K r a s (by omega) (h0.mono (by omega));exact⟨R,Ev.step (fun k=>by rw[spec_l1Cur_arcs.l1]) (Ev.neg (by omega) (Ev.pos (by omega) e)),p⟩
 |succ d ih=>
  intro j r n a s h hr hn hm h0;obtain⟨b,a1,s1,e1,h1⟩:=one_eq (s:=s) hc hl h0 (by omega) 4;have w:wrap64 ((j:Int)+1)=((j+1:Nat):Int):=wr_nat j _ (show j<1000 by omega) (by omega);cases b with
  |true=>
   obtain⟨R,e,p⟩:=ih (j+1) (r++[(j:Int)]) (n+2) a1 s1 (by omega) (by simp;omega) (by omega) hm h1;refine⟨R,Ev.step (fun k=>by rw[spec_l1Cur_arcs.l1]) (Ev.pos (by omega) ?_),p⟩;rw[e1,w];exact Ev.sbind (Ev.pos rfl (Ev.pos (by omega) e))
  |false=>
   obtain⟨R,e,p⟩:=ih (j+1) r (n+2) a1 s1 (by omega) (by omega) (by omega) hm h1;refine⟨R,Ev.step (fun k=>by rw[spec_l1Cur_arcs.l1]) (Ev.pos (by omega) ?_),p⟩;rw[e1,w];exact Ev.sbind (Ev.neg (by simp) e)
theorem arcs_l0 {code:List Int} (hc:Cu code) (hl:code.length≤1048576) (N:Nat) (hN:1≤N) (hN2:N≤30): ∀(d i:Nat) (acc:List (List Int)) (n:Nat) (a s:Int),i+d=N→acc.length=i→(∀r∈acc,r.length≤60)→n+60*d≤900000→At n a→
  ∃R,Ev (fun k=>spec_l1Cur_arcs.l0 k acc (N:Int) (i:Int) code a s) R∧(1≤R.1.length∧R.1.length≤240∧(∀r∈R.1,r.length≤60)∧At (n+60*d) R.2.1):=by
 intro d
 induction d with
 |zero=>
  intro i acc n a s h ha hr hn h0;exact⟨(acc,a,s),Ev.step (fun k=>by rw[spec_l1Cur_arcs.l0]) (Ev.neg (by omega) (Ev.now _)),by simp;omega,by simp;omega,hr,h0⟩
 |succ d ih=>
  intro i acc n a s h ha hr hn h0;have w:wrap64 ((i:Int)+1)=((i+1:Nat):Int):=wr_nat i _ (show i<1000 by omega) (by omega);obtain⟨R,e,p⟩:=arcs_l1 hc hl (N:Int) i (by omega) acc (by omega) (n+60) (fun R=>1≤R.1.length∧R.1.length≤240∧(∀r∈R.1,r.length≤60)∧At (n+60+60*d) R.2.1) (fun r a' s' hr' ha'=>by
   rw[w];exact ih (i+1) (acc++[r]) (n+60) a' s' (by omega) (by simp;omega) (fun q hq=>by
    rcases List.mem_append.1 hq with hq|hq
    ·exact hr q hq
    ·rw[List.mem_singleton.1 hq];omega) (by omega) ha') i 0 [] n a s (by omega) (by simp;omega) (by omega) (by omega) h0
  have e:Ev (fun k=>spec_l1Cur_arcs.l1 k acc (N:Int) (i:Int) [] 0 code a s) R:=e;exact⟨R,Ev.step (fun k=>by rw[spec_l1Cur_arcs.l0]) (Ev.pos (by omega) e),p.1,p.2.1,p.2.2.1,p.2.2.2.mono (by omega)⟩
theorem arcs_ev {code:List Int} (hc:Cu code) (hl:code.length≤1048576) {n:Nat} {a s:Int} (h:At n a) (hn:n≤500000):
  ∃R a' s',Ev (fun k=>spec_l1Cur_arcs.f k code a s) (R,a',s')∧At (n+2000) a'∧1≤R.length∧R.length≤240∧ ∀r∈R,r.length≤60:=by
 obtain⟨b,a1,s1,e1,h1⟩:=one_eq (s:=s) hc hl h (by omega) 3
 unfold spec_l1Cur_arcs.f
 rw[e1];cases b with
 |true=>
  obtain⟨v,a2,s2,e2,h2,v0,v1⟩:=pick_eq (s:=s1) hc hl h1 (by omega) 14;have v1:=v1 (by omega);obtain⟨b,a3,s3,e3,h3⟩:=one_eq (s:=s2) hc hl h2 (by omega) 16;have fin: ∀(N:Nat) (n0:Nat) (a s:Int),1≤N→N≤30→n0≤n+20→At n0 a→ ∃R a' s',Ev (fun k=>spec_l1Cur_arcs.j0 k [] (N:Int) code a s) (R,a',s')∧At (n+2000) a'∧1≤R.length∧R.length≤240∧ ∀r∈R,r.length≤60:=fun N n0 a s h1 h2 h3 h4=>by
   obtain⟨⟨R,a',s'⟩,e,p⟩:=arcs_l0 hc hl N h1 h2 N 0 [] n0 a s (by omega) rfl (fun r hr=>by cases hr) (by omega) h4;have e:Ev (fun k=>spec_l1Cur_arcs.l0 k [] (N:Int) 0 code a s) (R,a',s'):=e;exact⟨R,a',s',Ev.step (fun k=>by rw[spec_l1Cur_arcs.j0]) e,p.2.2.2.mono (by omega),p.1,p.2.1,p.2.2.1⟩
  cases b with
  |true=>
   obtain⟨u,a4,s4,e4,h4,u0,u1⟩:=pick_eq (s:=s3) hc hl h3 (by omega) 2;have u1:=u1 (by omega);obtain⟨R,a',s',e,p⟩:=fin (20+u).toNat _ a4 s4 (by omega) (by omega) (by omega) h4;rw[show(((20+u).toNat:Nat):Int)=wrap64 (20+u) by rw[wr _ (by omega) (by omega)];omega]at e;refine⟨R,a',s',Ev.sbind (Ev.pos rfl ?_),p⟩;rw[e2];refine Ev.sbind ?_;rw[e3];refine Ev.sbind (Ev.pos rfl ?_);rw[e4];exact Ev.sbind e
  |false=>
   obtain⟨R,a',s',e,p⟩:=fin (1+v).toNat _ a3 s3 (by omega) (by omega) (by omega) h3;rw[show(((1+v).toNat:Nat):Int)=wrap64 (1+v) by rw[wr _ (by omega) (by omega)];omega]at e;refine⟨R,a',s',Ev.sbind (Ev.pos rfl ?_),p⟩;rw[e2];refine Ev.sbind ?_;rw[e3];exact Ev.sbind (Ev.neg (by simp) e)
 |false=>
  obtain⟨x,y,z,a2,s2,e2,h2,x1,x8,y1,y6,z1,z5⟩:=grid_eq (s:=s1) hc hl h1 (by omega);obtain⟨sec,tem,a3,s3,e3,h3,ls,hv,ht⟩:=slopes_ev (s:=s2) hc hl h2 (by omega) x y z ⟨x1,x8⟩ ⟨y1,y6⟩;obtain⟨R,eR,p⟩:=slArcs_ev x y z ⟨x1,x8⟩ ⟨y1,y6⟩ ⟨z1,z5⟩ sec tem ls hv ht;refine⟨R,a3,s3,Ev.sbind (Ev.neg (by simp) ?_),h3.mono (by omega),p⟩;rw[e2];exact Ev.sbind (Ev.bind e3 (Ev.bind eR (Ev.now _)))
theorem rdL1_nat (xs:List (List Int)) (i:Nat) (h:i<xs.length):rd_L1 xs (i:Int)∈xs:=by
 unfold rd_L1
 rw[Int.toNat_natCast,List.getD_eq_getElem?_getD,List.getElem?_eq_getElem h];exact List.getElem_mem _
theorem anyArcs_ev {code:List Int} (hc:Cu code) (hl:code.length≤1048576) {n:Nat} {a s:Int} (h:At n a) (hn:n≤500000):
  ∃R a' s',Ev (fun k=>spec_l1Cur_anyArcs.f k code a s) (R,a',s')∧At (n+2010) a'∧R.length≤240∧ ∀r∈R,r.length≤61:=by
 obtain⟨R,a1,s1,e1,h1,l1,l2,lr⟩:=arcs_ev (s:=s) hc hl h hn;obtain⟨v,a2,s2,e2,h2,v0,v1⟩:=pick_eq (s:=s1) hc hl h1 (by omega) 30;have lr': ∀r∈R,r.length≤61:=fun r hr=>by have:=lr r hr;omega
 unfold spec_l1Cur_anyArcs.f
 by_cases c0:v=0
 ·obtain⟨q,a3,s3,e3,h3,q0,q1⟩:=pick_eq (s:=s2) hc hl h2 (by omega) (R.length:Int);have q1:=q1 (by omega);obtain⟨m,a4,s4,e4,h4,_⟩:=among_eq (s:=s3) hc hl h3 (by omega) ([q,(-1),0]:List Int) (by simp);obtain⟨Q,rfl⟩:=Int.eq_ofNat_of_zero_le q0;have hm:=lr _ (rdL1_nat R Q (by omega));have E:=Ev.now (R.set (Q:Int).toNat ((rd_L1 R (Q:Int))++[m]),a4,s4);refine⟨_,_,_,Ev.bind e1 (by
   rw[e2];refine Ev.sbind (Ev.pos c0 ?_);rw[e3];refine Ev.sbind (Ev.pos (by omega) (Ev.pos q1 ?_));rw[e4];exact Ev.sbind (Ev.pos (show(rd_L1 R (Q:Int)).length<17592186044416 by omega) E)),h4.mono (by omega),by simp;omega,fun r hr=>?_⟩
  rcases List.mem_or_eq_of_mem_set hr with hr|rfl
  ·exact lr' r hr
  ·simp;omega
 by_cases c1:v=1
 ·obtain⟨q,a3,s3,e3,h3,q0,q1⟩:=pick_eq (s:=s2) hc hl h2 (by omega) 2;have q1:=q1 (by omega);have w:wrap64 (120+q)=120+q:=wr _ (by omega) (by omega);have E:=Ev.now (List.replicate (wrap64 (120+q)).toNat ([]:List Int),a3,s3);refine⟨_,_,_,Ev.bind e1 (by
   rw[e2];refine Ev.sbind (Ev.neg c0 (Ev.pos c1 ?_));rw[e3];exact Ev.sbind (Ev.pos (by simp only[w];omega) (Ev.pos (by simp only[w];omega) E))),h3.mono (by omega),by rw[w];simp;omega,fun r hr=>by rw[(List.mem_replicate.1 hr).2];simp⟩
 by_cases c2:v=2
 ·have E:=Ev.now (([]:List (List Int)),a2,s2);exact⟨_,_,_,Ev.bind e1 (by rw[e2];exact Ev.sbind (Ev.neg c0 (Ev.neg c1 (Ev.pos c2 E)))),h2.mono (by omega),by simp,fun r hr=>by cases hr⟩
 ·have E:=Ev.now (R,a2,s2);exact⟨_,_,_,Ev.bind e1 (by rw[e2];exact Ev.sbind (Ev.neg c0 (Ev.neg c1 (Ev.neg c2 E)))),h2.mono (by omega),l2,lr'⟩
theorem gained_end {code:List Int} (hc:Cu code) (hl:code.length≤1048576) (N:Nat) (A:List (List Int)) (hA1:1≤A.length) (hA:A.length≤240) (hr: ∀r∈A,r.length≤61) (G C:List Int) (hG:G.length=A.length) (hC:C.length=A.length) {n:Nat} {a s:Int} (h:At n a) (hn:n≤400000):
  ∃A' G' C' a' s',Ev (fun k=>spec_l1Cur_gained.l0 k A G C (A.length:Int) (A.length:Int) code a s) (A',G',C',a',s')∧At (n+2020) a'∧A'.length≤240∧(∀r∈A',r.length≤61)∧G'.length≤241∧C'.length≤241:=by
 obtain⟨v,a1,s1,e1,h1,v0,v1⟩:=pick_eq (s:=s) hc hl h (by omega) 30;have st: ∀ {R:List (List Int)×List Int×List Int×Int×Int} {B:Nat→Int×Int×Int→Option (List (List Int)×List Int×List Int×Int×Int)},(∀k,spec_l1Cur_gained.l0 (k+1) A G C (A.length:Int) (A.length:Int) code a s=(spec_l1Cur_pick.f code a s 30).bind fun bt=>B k bt)→Ev (fun k=>B k (v,a1,s1)) R→Ev (fun k=>spec_l1Cur_gained.l0 k A G C (A.length:Int) (A.length:Int) code a s) R:=fun hB hE=>Ev.step (fun k=>by rw[hB,e1]) (Ev.sbind hE)
 have hst:=fun k=>show spec_l1Cur_gained.l0 (k+1) A G C (A.length:Int) (A.length:Int) code a s=_ from by rw[spec_l1Cur_gained.l0,if_neg (by omega)]
 by_cases c0:v=0
 ·obtain⟨q,a3,s3,e3,h3,q0,q1⟩:=pick_eq (s:=s1) hc hl h1 (by omega) (A.length:Int);have q1:=q1 (by omega);obtain⟨m,a4,s4,e4,h4,_⟩:=among_eq (s:=s3) hc hl h3 (by omega) ([(-1),10000,10001]:List Int) (by simp);have E:=Ev.now (A,G.set q.toNat m,C,a4,s4);exact⟨_,_,_,_,_,st hst (Ev.pos c0 (by rw[e3];refine Ev.sbind ?_;rw[e4];exact Ev.sbind (Ev.pos q0 (Ev.pos (by omega) E)))),h4.mono (by omega),hA,hr,by simp;omega,by omega⟩
 by_cases c1:v=1
 ·obtain⟨q,a3,s3,e3,h3,q0,q1⟩:=pick_eq (s:=s1) hc hl h1 (by omega) (A.length:Int);have q1:=q1 (by omega);obtain⟨m,a4,s4,e4,h4,_⟩:=among_eq (s:=s3) hc hl h3 (by omega) ([(-1),400000,400001]:List Int) (by simp);have E:=Ev.now (A,G,C.set q.toNat m,a4,s4);exact⟨_,_,_,_,_,st hst (Ev.neg c0 (Ev.pos c1 (by rw[e3];refine Ev.sbind ?_;rw[e4];exact Ev.sbind (Ev.pos q0 (Ev.pos (by omega) E))))),h4.mono (by omega),hA,hr,by omega,by simp;omega⟩
 by_cases c2:v=2
 ·have E:=Ev.now (A,G++[1],C,a1,s1);exact⟨_,_,_,_,_,st hst (Ev.neg c0 (Ev.neg c1 (Ev.pos c2 (Ev.pos (by omega) E)))),h1.mono (by omega),hA,hr,by simp;omega,by omega⟩
 by_cases c3:v=3
 ·obtain⟨R,a3,s3,e3,h3,l3,lr⟩:=anyArcs_ev (s:=s1) hc hl h1 (by omega);exact⟨R,G,C,a3,s3,st hst (Ev.neg c0 (Ev.neg c1 (Ev.neg c2 (Ev.pos c3 (Ev.bind e3 (Ev.now _)))))),h3.mono (by omega),l3,lr,by omega,by omega⟩
 ·have E:=Ev.now (A,G,C,a1,s1);exact⟨_,_,_,_,_,st hst (Ev.neg c0 (Ev.neg c1 (Ev.neg c2 (Ev.neg c3 E)))),h1.mono (by omega),hA,hr,by omega,by omega⟩
theorem gained_l0 {code:List Int} (hc:Cu code) (hl:code.length≤1048576) (A:List (List Int)) (hA1:1≤A.length) (hA:A.length≤240) (hr: ∀r∈A,r.length≤61): ∀(d i:Nat) (G C:List Int) (n:Nat) (a s:Int),i+d=A.length→G.length=i→C.length=i→n+4*d≤400000→At n a→
  ∃A' G' C' a' s',Ev (fun k=>spec_l1Cur_gained.l0 k A G C (A.length:Int) (i:Int) code a s) (A',G',C',a',s')∧At (n+4*d+2020) a'∧A'.length≤240∧(∀r∈A',r.length≤61)∧G'.length≤241∧C'.length≤241:=by
 intro d
 induction d with
 |zero=>
  intro i G C n a s h hG hC hn h0;have hi:i=A.length:=by omega
  subst hi;exact gained_end hc hl 0 A hA1 hA hr G C hG hC h0 (by omega)
 |succ d ih=>
  intro i G C n a s h hG hC hn h0;obtain⟨u,a1,s1,e1,h1,_⟩:=among_eq (s:=s) hc hl h0 (by omega) ([0,0,0,1,2,5,9]:List Int) (by simp);obtain⟨v,a2,s2,e2,h2,_⟩:=among_eq (s:=s1) hc hl h1 (by omega) ([0,1,5,10,20]:List Int) (by simp);obtain⟨A',G',C',a',s',e,p⟩:=ih (i+1) (G++[u]) (C++[v]) (n+2+2) a2 s2 (by omega) (by simp;omega) (by simp;omega) (by omega) h2;refine⟨A',G',C',a',s',Ev.step (fun k=>by rw[spec_l1Cur_gained.l0]) (Ev.pos (by omega) ?_),p.1.mono (by omega),p.2⟩;rw[e1];refine Ev.sbind (Ev.pos (by omega) ?_);rw[e2,wr_nat i _ (show i<1000 by omega) (by omega)];exact Ev.sbind (Ev.pos (by omega) e)
theorem drawPitAt_ev {code:List Int} (hc:Cu code) (hl:code.length≤1048576): ∃A G C f,Ev (fun k=>spec_DrawPitAt.f k code) (A,G,C,f)∧A.length≤240∧(∀r∈A,r.length≤61)∧G.length≤241∧C.length≤241:=by
 have h0:At 0 0:=⟨by omega,by omega⟩;obtain⟨R,a1,s1,e1,h1,l1,l2,lr⟩:=arcs_ev (s:=0) hc hl h0 (by omega);obtain⟨A,G,C,a2,s2,e2,h2,p1,p2,p3,p4⟩:=gained_l0 hc hl R l1 l2 (fun r hr=>by have:=lr r hr;omega) R.length 0 [] [] (0+2000) a1 s1 (by omega) rfl rfl (by omega) h1;obtain⟨u,a3,s3,e3,h3,_⟩:=pick_eq (s:=s2) hc hl h2 (by omega) 20;obtain⟨f,a4,s4,e4,h4,_⟩:=among_eq (s:=s3) hc hl h3 (by omega) ([0,1,2,3,5,9,u,60,61,(-1)]:List Int) (by simp);refine⟨A,G,C,f,?_,p1,p2,p3,p4⟩
 unfold spec_DrawPitAt.f spec_l1Cur_gained.f spec_l1Cur_factor.f
 refine Ev.bind (Ev.bind e1 e2) ?_;rw[e3];refine Ev.bind (g:=fun _=>(some (u,a3,s3)).bind fun bt746=>(spec_l1Cur_among.f code bt746.2.1 bt746.2.2 ([0,1,2,3,5,9,bt746.1,60,61,(-1)]:List Int)).bind fun bt752=>some (bt752.1,bt752.2.1,bt752.2.2)) (a:=(f,a4,s4)) ?_ (Ev.now _);refine Ev.sbind ?_;rw[e4];exact Ev.sbind (Ev.now _)
theorem drawPitsTo_ev {code:List Int} (hc:Cu code) (hl:code.length≤1048576): ∃A G C f,Ev (fun k=>spec_DrawPitsTo.f k code) (A,G,C,f)∧A.length≤240∧(∀r∈A,r.length≤61)∧G.length≤241∧C.length≤241:=by
 obtain⟨A,G,C,f,e,p⟩:=drawPitAt_ev hc hl;exact⟨A,G,C,f,by unfold spec_DrawPitsTo.f;exact Ev.bind e (Ev.now _),p⟩
theorem qInts_ev (x y:List Int) (hx:x.length≤1048576):Ev (fun k=>laws_qInts.f k x y) (decide (x=y)):=by
 unfold laws_qInts.f
 by_cases c:x.length=y.length
 ·refine Ev.pos (by omega) ?_;have key: ∀(d i:Nat),i+d=x.length→Ev (fun k=>laws_qInts.l0 k x y (x.length:Int) (i:Int)) (decide (x.drop i=y.drop i)):=by
   intro d
   induction d with
   |zero=>
    intro i hi;exact Ev.step (fun k=>by rw[laws_qInts.l0]) (Ev.neg (by omega) (Ev.cast (by rw[dr0 _ _ (by omega),dr0 _ _ (by omega)];simp) (Ev.now _)))
   |succ d ih=>
    intro i hi;refine Ev.step (fun k=>by rw[laws_qInts.l0]) (Ev.pos (by omega) (Ev.pos (nn _) (Ev.pos (by omega) (Ev.pos (by omega) ?_))));rw[rd_get x i (by omega),rd_get y i (by omega),dr x i (by omega),dr y i (by omega),wr_nat i x.length (by omega) (by omega),dec_cons];refine Ev.cases (fun h=>?_) (fun h=>Ev.cast (by rw[decide_eq_false h];rfl) (Ev.now _));exact Ev.cast (by rw[decide_eq_true h,Bool.true_and]) (ih (i+1) (by omega))
  have:=key x.length 0 (by omega)
  simpa using this
 ·exact Ev.neg (by omega) (Ev.cast (by rw[decide_eq_false (fun e=>c (by rw[e]))]) (Ev.now _))
theorem qInts_self (x:List Int) (hx:x.length≤1048576):Ev (fun k=>laws_qInts.f k x x) true:=Ev.cast (by simp) (qInts_ev x x hx)
theorem qHas_ev (x:List Int) (v:Int) (hx:x.length≤1048576):Ev (fun k=>laws_qHas.f k x v) (decide (v∈x)):=by
 unfold laws_qHas.f
 have key: ∀(d i:Nat),i+d=x.length→Ev (fun k=>laws_qHas.l0 k v x (x.length:Int) (i:Int)) (decide (v∈x.drop i)):=by
  intro d
  induction d with
  |zero=>
   intro i hi;exact Ev.step (fun k=>by rw[laws_qHas.l0]) (Ev.neg (by omega) (Ev.cast (by rw[dr0 _ _ (by omega)];simp) (Ev.now _)))
  |succ d ih=>
   intro i hi;refine Ev.step (fun k=>by rw[laws_qHas.l0]) (Ev.pos (by omega) (Ev.pos (nn _) (Ev.pos (by omega) ?_)));rw[rd_get x i (by omega),dr x i (by omega),wr_nat i x.length (by omega) (by omega)];refine Ev.cases (fun h=>Ev.cast (by rw[h];simp) (Ev.now _)) (fun h=>Ev.cast ?_ (ih (i+1) (by omega)));rw[decide_eq_decide,List.mem_cons];exact⟨.inr,fun q=>q.elim (fun e=>absurd e.symm h) id⟩
 have:=key x.length 0 (by omega)
 simpa using this
theorem qLists_self (x:List (List Int)) (hx:x.length≤1048576) (hi: ∀z∈x,z.length≤1048576):Ev (fun k=>laws_qLists.f k x x) true:=by
 unfold laws_qLists.f
 have key: ∀(d i:Nat),i+d=x.length→Ev (fun k=>laws_qLists.l0 k x x (x.length:Int) (i:Int)) true:=by
  intro d
  induction d with
  |zero=>
   intro i hi;exact Ev.step (fun k=>by rw[laws_qLists.l0]) (Ev.neg (by omega) (Ev.now _))
  |succ d ih=>
   intro i hi';have w:=wr_nat i x.length (by omega) (by omega);refine Ev.step (fun k=>by rw[laws_qLists.l0]) (Ev.pos (by omega) (Ev.pos (nn _) (Ev.pos (by omega) (Ev.pos (by omega) (Ev.bind (qInts_self _ (hi _ (rdL1_nat x i (by omega)))) (Ev.pos rfl ?_))))));rw[w];exact ih (i+1) (by omega)
 exact Ev.pos rfl (key x.length 0 (by omega))
theorem pitL_rise {a:List (List Int)} {v:List Int} (ha:a.length≤120):rise 0 119 (pitL a v)=true:=by
 unfold rise
 rw[Bool.and_eq_true,List.all_eq_true];refine⟨fun x hx=>?_,pw_incr _ (trueIdx_pw _)⟩
 have:=pitL_in hx
 unfold inB
 simp only[Bool.and_eq_true,decide_eq_true_eq]
 omega
theorem chain_of: ∀(l:List (List Int)),(∀i,i+1<l.length→subL (l.getD i []) (l.getD (i+1) [])=true)→chainFrom l=true
 |[],_=>chain_short _ (by simp)
 |[x],_=>chain_short _ (by simp)
 |x::y::t,h=>by
  rw[chain_cons,Bool.and_eq_true];exact⟨h 0 (by simp),chain_of (y::t) (fun i hi=>by have:=h (i+1) (by simp at hi⊢;omega);simpa using this)⟩
theorem pitsN_chain {a:List (List Int)} {g c:List Int} (q1:arcsOk a=true) (q2:gainsOk g c (a.length:Int)=true) {n:Nat} (hn:n≤61):chainR (pitsN a g c n)=(true,true):=by
 have hl:=(arcsOk_parts q1).2.1;have r:(pitsN a g c n).all (rise 0 119)=true:=by
  rw[List.all_eq_true];intro z hz
  unfold pitsN at hz
  obtain⟨f,_,rfl⟩:=List.mem_map.1 hz;exact pitL_rise hl
 unfold chainR
 rw[if_pos ⟨by rw[pitsN_len];exact hn,r⟩,chain_of];intro i hi;rw[pitsN_len]at hi;have e: ∀j,j<n→(pitsN a g c n).getD j []=pitL a (fvL g c (j:Int)):=fun j hj=>by have:=pitsN_at (a:=a) (g:=g) (c:=c) hj;unfold rd_L1 at this;rw[Int.toNat_natCast]at this;exact this
 rw[e i (by omega),e (i+1) hi]
 unfold subL
 rw[List.all_eq_true];intro x hx;have b:=pitL_in hx;obtain⟨k,rfl⟩:=Int.eq_ofNat_of_zero_le b.1;rw[decide_eq_true_eq];exact pit_mark.2 (pit_grows q1 q2 (show i≤i+1 by omega) (by omega) (by omega) (pit_mark.1 hx))
theorem chg_mem {a:List (List Int)} {g c:List Int} {F n:Nat} (h1:1≤n) (hF:n≤F):decide ((n:Int)∈chgTo a g c F)=!decide (pitL a (fvL g c (n:Int))=pitL a (fvL g c ((n-1:Nat):Int))):=by
 unfold pitL
 rw[trueIdx_inj (by rw[Flow.bestB_len,Flow.bestB_len])]
 unfold chgTo
 by_cases e:Flow.bestB a (fvL g c (n:Int))=Flow.bestB a (fvL g c ((n-1:Nat):Int))
 ·rw[decide_eq_true e,Bool.not_true,decide_eq_false];intro h;obtain⟨j,hj,ej⟩:=List.mem_map.1 h;obtain⟨_,hj⟩:=List.mem_filter.1 hj;have:n=j+1:=by omega
  subst this;rw[Nat.add_sub_cancel]at e;rw[decide_eq_true e]at hj;cases hj
 ·rw[decide_eq_false e,Bool.not_false,decide_eq_true];refine List.mem_map.2 ⟨n-1,List.mem_filter.2 ⟨List.mem_range.2 (by omega),?_⟩,by omega⟩;rw[show n-1+1=n by omega,decide_eq_false e];rfl
theorem first_in {a:List (List Int)} {g c:List Int} (q1:arcsOk a=true) (q2:gainsOk g c (a.length:Int)=true) {F n i:Nat} (hF:F≤60) (hn:n≤F) (hi:i<a.length):decide ((i:Int)∈pitL a (fvL g c (n:Int)))=decide (0≤ffAt a g c (F+1) i∧ffAt a g c (F+1) i≤(n:Int)):=by
 rw[decide_eq_decide,pit_mark]
 rcases ffAt_is a g c i (F+1)with⟨h1,h2⟩|⟨m,h0,h1,h2,h3⟩
 ·rw[h2 n (by omega)];exact⟨fun h=>(by cases h),fun h=>(by omega)⟩
 ·rw[h1];refine⟨fun h=>⟨by omega,?_⟩,fun h=>pit_grows q1 q2 (show m≤n by omega) (by omega) hi h2⟩
  by_cases c:m≤n
  ·omega
  ·rw[h3 n (by omega)]at h;cases h
theorem impl_BestPit_in {a:List (List Int)} {g c:List Int} {f:Int} (hi: ∀z∈a,z.length≤1048576) (q1:arcsOk a=true) (q2:gainsOk g c (a.length:Int)=true) (h0:0≤f) (h1:f≤60):Ev (fun k=>impl_BestPit.f k a (fvL g c f)) (pitL a (fvL g c f),true):=by
 have p:=gainsOk_parts q2;have F:=fv_fit q1 q2 h0 h1;have hv:(arcsOk a && (decide ((fvL g c f).length=a.length)&& (fvL g c f).all (inB (-1000000) 1000000)))=true:=by
  rw[q1,Bool.true_and,Bool.and_eq_true,decide_eq_true_eq,List.all_eq_true];refine⟨by rw[fv_len];omega,fun x hx=>?_⟩
  have:=fv_in q1 q2 h0 h1 x hx
  unfold inB
  simp only[Bool.and_eq_true,decide_eq_true_eq]
  omega
 unfold impl_BestPit.f
 refine Ev.bind (areValued_ev a (fvL g c f) (fun z hz=>by have:=hi z hz;omega)) ?_;rw[hv];refine Ev.pos rfl ?_;rw[best0_eq F (arcsOk_parts q1).1];exact Ev.sbind (Ev.bind (listOf_ev _ (bestB_small q1)) (Ev.now _))
theorem factors_l1 {a:List (List Int)} {g c:List Int} (q1:arcsOk a=true) (q2:gainsOk g c (a.length:Int)=true) {F n:Nat} (hF:F≤60) (hn:n≤F) (P:List (List Int)) (chg:List Int) (X:List (List Int)) (x246:Int)
  (K:Ev (fun k=>laws_FnFactors.l0 k P chg (ffT a g c (F+1)) X x246 (wrap64 ((n:Int)+1))) true): ∀(d i:Nat),i+d=a.length→
  Ev (fun k=>laws_FnFactors.l1 k P chg (ffT a g c (F+1)) (n:Int) (pitL a (fvL g c (n:Int))) X x246 (n:Int) (ffT a g c (F+1)) ((ffT a g c (F+1)).length:Int) (i:Int)) true:=by
 have hl:=(arcsOk_parts q1).2.1;have hL:(ffT a g c (F+1)).length=a.length:=Res.mkV_len _ _;have hp:(pitL a (fvL g c (n:Int))).length≤1048576:=by have:=pitL_len (a:=a) (v:=fvL g c (n:Int));omega
 intro d
 induction d with
 |zero=>
  intro i h;exact Ev.step (fun k=>by rw[laws_FnFactors.l1]) (Ev.neg (by omega) K)
 |succ d ih=>
  intro i h;have w:wrap64 ((i:Int)+1)=((i+1:Nat):Int):=wr_nat i _ (show i<1000 by omega) (by omega);have e:=first_in q1 q2 hF hn (show i<a.length by omega);have r:rd (ffT a g c (F+1)) (i:Int)=ffAt a g c (F+1) i:=mkV_rd (by omega);refine Ev.step (fun k=>by rw[laws_FnFactors.l1]) (Ev.pos (by omega) (Ev.pos (nn _) (Ev.pos (by omega) (Ev.bind (qHas_ev _ _ hp) ?_))));rw[e,r,w]
  by_cases h0:ffAt a g c (F+1) i≥0
  ·refine Ev.pos h0 (Ev.neg ?_ (ih (i+1) (by omega)))
   simp[h0]
  ·refine Ev.neg h0 (Ev.neg ?_ (ih (i+1) (by omega)));have: ¬(0≤ffAt a g c (F+1) i∧ffAt a g c (F+1) i≤(n:Int)):=fun q=>h0 q.1
   simp[this]
theorem factors_l0 {a:List (List Int)} {g c:List Int} (q1:arcsOk a=true) (q2:gainsOk g c (a.length:Int)=true) {F:Nat} (hF:F≤60): ∀(d n:Nat),n+d=F+1→
  Ev (fun k=>laws_FnFactors.l0 k (pitsN a g c (F+1)) (chgTo a g c F) (ffT a g c (F+1)) (pitsN a g c (F+1)) ((pitsN a g c (F+1)).length:Int) (n:Int)) true:=by
 have hl:=(arcsOk_parts q1).2.1;have hc:=chgTo_len a g c F;intro d
 induction d with
 |zero=>
  intro n h;exact Ev.step (fun k=>by rw[laws_FnFactors.l0]) (Ev.neg (by rw[pitsN_len];omega) (Ev.now _))
 |succ d ih=>
  intro n h;have w:wrap64 ((n:Int)+1)=((n+1:Nat):Int):=wr_nat n _ (show n<1000 by omega) (by omega);have K:=ih (n+1) (by omega);rw[←w]at K;have L:=factors_l1 q1 q2 hF (show n≤F by omega) (pitsN a g c (F+1)) (chgTo a g c F) (pitsN a g c (F+1)) ((pitsN a g c (F+1)).length:Int) K a.length 0 (by omega);have J:Ev (fun k=>laws_FnFactors.j4 k (pitsN a g c (F+1)) (chgTo a g c F) (ffT a g c (F+1)) (n:Int) (rd_L1 (pitsN a g c (F+1)) (n:Int)) (pitsN a g c (F+1)) ((pitsN a g c (F+1)).length:Int) (n:Int) false) true:=by
   rw[pitsN_at (show n<F+1 by omega)];exact Ev.step (f:=fun k=>if false=true then some false else laws_FnFactors.l1 k (pitsN a g c (F+1)) (chgTo a g c F) (ffT a g c (F+1)) (n:Int) (pitL a (fvL g c (n:Int))) (pitsN a g c (F+1)) ((pitsN a g c (F+1)).length:Int) (n:Int) (ffT a g c (F+1)) ((ffT a g c (F+1)).length:Int) 0) (fun k=>by rw[laws_FnFactors.j4]) (Ev.neg (by simp) L)
  have b1:(n:Int)<((pitsN a g c (F+1)).length:Int):=by rw[pitsN_len];omega
  refine Ev.step (fun k=>by rw[laws_FnFactors.l0]) (Ev.pos b1 (Ev.pos (nn _) (Ev.pos b1 ?_)))
  by_cases h0:0<n
  ·have w1:wrap64 ((n:Int)-1)=((n-1:Nat):Int):=by rw[wr _ (by omega) (by omega)];omega
   have pl: ∀m:Nat,(pitL a (fvL g c (m:Int))).length≤1048576:=fun m=>by have:=pitL_len (a:=a) (v:=fvL g c (m:Int));omega
   refine Ev.pos (by omega) (Ev.bind (qHas_ev _ _ (by omega)) ?_);rw[w1];refine Ev.pos (by omega) (Ev.pos (by omega) ?_);have E:=qInts_ev (rd_L1 (pitsN a g c (F+1)) (n:Int)) (rd_L1 (pitsN a g c (F+1)) ((n-1:Nat):Int)) (by rw[pitsN_at (show n<F+1 by omega)];exact pl n);refine Ev.bind E ?_;rw[chg_mem (show 1≤n by omega) (show n≤F by omega),pitsN_at (show n<F+1 by omega),pitsN_at (show n-1<F+1 by omega)];rw[pitsN_at (show n<F+1 by omega)]at J;generalize decide (pitL a (fvL g c (n:Int))=pitL a (fvL g c ((n-1:Nat):Int)))=b;have e:((!b)==b)=false:=by cases b<;>rfl
   rw[e];exact J
  ·exact Ev.neg (by omega) J
theorem factors_j1 {a:List (List Int)} {g c:List Int} {f:Int} (hi: ∀z∈a,z.length≤1048576) (hn:nestOk a g c f=true):
  Ev (fun k=>laws_FnFactors.j1 k a g c f (pitsN a g c (f.toNat+1)) true (pitsN a g c (f.toNat+1)) (chgTo a g c f.toNat) (ffT a g c (f.toNat+1))) true:=by
 obtain⟨q1,q2,q3,q4⟩:=nestOk_parts hn;have hl:=(arcsOk_parts q1).2.1;have I:=impl_IsChain_ev (pitsN a g c (f.toNat+1)) (fun z hz=>by have:=pitsN_mem hz;omega);rw[pitsN_chain q1 q2 (by omega)]at I;refine Ev.step (fun k=>by rw[laws_FnFactors.j1]) (Ev.pos rfl (Ev.bind I (Ev.pos rfl (Ev.pos rfl (Ev.pos ?_ ?_)))))
 ·rw[pitsN_len,wr _ (by omega) (by omega)];omega
 ·refine Ev.bind (impl_AreGains_ev g c (a.length:Int)) ?_;rw[q2];have L:=factors_l0 q1 q2 (show f.toNat≤60 by omega) (f.toNat+1) 0 (by omega);exact Ev.step (f:=fun k=>if(!true)=true then some false else laws_FnFactors.l0 k (pitsN a g c (f.toNat+1)) (chgTo a g c f.toNat) (ffT a g c (f.toNat+1)) (pitsN a g c (f.toNat+1)) ((pitsN a g c (f.toNat+1)).length:Int) 0) (fun k=>by rw[laws_FnFactors.j2]) (Ev.neg (by simp) L)
theorem FnFactors (x y:List Int) (hx:x.length*1≤140737488351232) (wx:okI .u8 x) (hy:y.length*1≤140737488351232) (wy:okI .u8 y): ∃k,laws_FnFactors.f k x y=some true:=by
 refine Ev.ex (g:=fun k=>laws_FnFactors.f k x y) ?_
 unfold laws_FnFactors.f
 refine Ev.cases (fun _=>Ev.now _) (fun h=>?_);rw[wr _ (by omega) (by omega)]at h;obtain⟨a,g,c,f,e1,a1,a2,a3,a4⟩:=drawPitsTo_ev (code:=x) (cu_of wx) (by omega);obtain⟨b,u,v,q,e2,b1,b2,b3,b4⟩:=drawPitAt_ev (code:=y) (cu_of wy) (by omega);have ha:a.length≤1048576:=by omega
 have hai: ∀z∈a,z.length≤1048576:=fun z hz=>by have:=a2 z hz;omega
 have hb:b.length≤1048576:=by omega
 have hbi: ∀z∈b,z.length≤1048576:=fun z hz=>by have:=b2 z hz;omega
 have hP:(ptsR a g c f).1.length≤1048576∧ ∀z∈(ptsR a g c f).1,z.length≤1048576:=by
  unfold ptsR
  by_cases n:nestOk a g c f=true
  ·rw[if_pos n]
   have:=nestOk_parts n
   exact⟨by show(pitsN a g c (f.toNat+1)).length≤_;rw[pitsN_len];omega,fun z hz=>by have:=pitsN_mem hz;omega⟩
  ·rw[if_neg n];exact⟨by simp,fun z hz=>by cases hz⟩
 have hC:(chgR a g c f).1.length≤1048576:=by
  unfold chgR
  by_cases n:nestOk a g c f=true
  ·rw[if_pos n]
   have:=nestOk_parts n
   have:=chgTo_len a g c f.toNat
   show(chgTo a g c f.toNat).length≤_
   omega
  ·rw[if_neg n];simp
 have hT:(fftR a g c f).1.length≤1048576:=by
  unfold fftR
  by_cases n:nestOk a g c f=true
  ·rw[if_pos n];have:(ffT a g c (f.toNat+1)).length=a.length:=Res.mkV_len _ _
   show(ffT a g c (f.toNat+1)).length≤_
   omega
  ·rw[if_neg n];simp
 have hA:(papR b u v q).1.length≤1048576:=by
  unfold papR
  by_cases n:nestOk b u v q=true
  ·rw[if_pos n]
   have:=pitL_len (a:=b) (v:=fvL u v q)
   show(pitL b (fvL u v q)).length≤_
   omega
  ·rw[if_neg n];simp
 have hV:(fvR u v q).1.length≤1048576:=by
  unfold fvR
  split
  ·show(fvL u v q).length≤_
   rw[fv_len];omega
  ·simp
 refine Ev.bind e1 (Ev.bind (impl_PitsTo_ev a g c f hai) (Ev.bind (spec_PitsTo_ev a g c f ha hai (by omega) (by omega)) (Ev.bind (impl_ChangesOf_ev a g c f hai) (Ev.bind (spec_ChangesOf_ev a g c f ha hai (by omega) (by omega)) (Ev.bind (impl_FirstFactors_ev a g c f hai) (Ev.bind (spec_FirstFactors_ev a g c f ha hai (by omega) (by omega)) (Ev.bind e2 (Ev.bind (impl_PitAt_ev b u v q hbi) (Ev.bind (spec_PitAt_ev b u v q hb hbi (by omega) (by omega)) (Ev.bind (impl_FactorValues_ev u v q) (Ev.bind (spec_FactorValues_ev u v q (by omega) (by omega)) ?_)))))))))));refine Ev.neg (by simp) (Ev.bind (qLists_self _ hP.1 hP.2) (Ev.pos rfl (Ev.neg (by simp) (Ev.bind (qInts_self _ hC) (Ev.pos rfl (Ev.neg (by simp) (Ev.bind (qInts_self _ hT) (Ev.pos rfl (Ev.neg (by simp) (Ev.bind (qInts_self _ hA) (Ev.pos rfl (Ev.neg (by simp) (Ev.bind (qInts_self _ hV) (Ev.pos rfl (Ev.neg ?_ ?_)))))))))))))))
 ·unfold chgR ptsR
  split<;>simp
 have eT:((fftR a g c f).2 !=(ptsR a g c f).2)=false:=by unfold fftR ptsR;split<;>simp
 show Ev (fun k=>laws_FnFactors.j0 k a g c f (ptsR a g c f).1 (ptsR a g c f).2 (ptsR a g c f).1 (chgR a g c f).1 (fftR a g c f).1 b (papR b u v q).2 (papR b u v q).1 (fvR u v q).1 ((fftR a g c f).2 !=(ptsR a g c f).2)) true
 rw[eT];have J1:Ev (fun k=>laws_FnFactors.j1 k a g c f (ptsR a g c f).1 (ptsR a g c f).2 (ptsR a g c f).1 (chgR a g c f).1 (fftR a g c f).1) true:=by
  by_cases n:nestOk a g c f=true
  ·unfold ptsR chgR fftR
   simp only[if_pos n];exact factors_j1 hai n
  ·unfold ptsR chgR fftR
   simp only[if_neg n];exact Ev.step (fun k=>by rw[laws_FnFactors.j1]) (Ev.neg (by simp) (Ev.now _))
 refine Ev.step (fun k=>by rw[laws_FnFactors.j0]) (Ev.neg (by simp) ?_)
 by_cases n:nestOk b u v q=true
 ·obtain⟨q1,q2,q3,q4⟩:=nestOk_parts n;have p:=gainsOk_parts q2;have eP:papR b u v q=(pitL b (fvL u v q),true):=if_pos n;have eV:fvR u v q=(fvL u v q,true):=if_pos ⟨by rw[show(u.length:Int)=(b.length:Int) by omega];exact q2,q3,q4⟩;rw[eP]at hA⊢;rw[eV];exact Ev.pos rfl (Ev.bind (impl_BestPit_in hbi q1 q2 q3 q4) (Ev.pos rfl (Ev.bind (qInts_self _ hA) (Ev.pos rfl J1))))
 ·have eP:papR b u v q=([],false):=if_neg n;rw[eP];exact Ev.neg (by simp) J1
end Go.Proofs.Ytlkppimbbbdmbaa.Pure
