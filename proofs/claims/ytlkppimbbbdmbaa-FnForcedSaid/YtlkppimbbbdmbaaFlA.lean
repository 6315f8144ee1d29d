/- Greatest flows, in plain Lean: what the program's and the reference's pushes along levels do (as relations), and that they end. No program in sight. -/
set_option linter.unusedVariables false
namespace Go.Proofs.Ytlkppimbbbdmbaa.Flow
def sumR (f:Nat→Int):Nat→Int
 |0=>0
 |k+1=>sumR f k+f k
theorem sumR_congr {f g:Nat→Int}: ∀n,(∀i,i<n→f i=g i)→sumR f n=sumR g n
 |0,_=>rfl
 |n+1,h=>by rw[sumR,sumR,sumR_congr n (fun i hi=>h i (by omega)),h n (by omega)]
theorem sumR_nn {f:Nat→Int}: ∀n,(∀i,i<n→0≤f i)→0≤sumR f n
 |0,_=>Int.le_refl _
 |n+1,h=>by
  have a:=sumR_nn n (fun i hi=>h i (by omega));have b:=h n (by omega);rw[sumR];omega
theorem sumR_zero {f:Nat→Int}: ∀n,(∀i,i<n→0≤f i)→sumR f n=0→ ∀i,i<n→f i=0
 |0,_,_,i,hi=>by omega
 |n+1,h,hz,i,hi=>by
  have a:=sumR_nn n (fun i hi=>h i (by omega));have b:=h n (by omega);rw[sumR]at hz
  by_cases e:i=n
  ·subst e;omega
  ·exact sumR_zero n (fun i hi=>h i (by omega)) (by omega) i (by omega)
theorem sumR_upd {f g:Nat→Int}: ∀n i,i<n→(∀j,j<n→j≠i→g j=f j)→sumR g n=sumR f n+(g i-f i)
 |0,i,hi,_=>by omega
 |n+1,i,hi,h=>by
  rw[sumR,sumR]
  by_cases e:i=n
  ·subst e;rw[sumR_congr i (fun j hj=>h j (by omega) (by omega))];omega
  ·rw[sumR_upd n i (by omega) (fun j hj hne=>h j (by omega) hne),h n (by omega) (by omega)];omega
def par (e:Nat):Nat:=if e % 2=0 then e+1 else e-1
theorem par_par (e:Nat):par (par e)=e:=by unfold par;split<;>split<;>omega
theorem par_ne (e:Nat):par e≠e:=by unfold par;split<;>omega
theorem par_lt {e m:Nat} (h:e<2*m):par e<2*m:=by unfold par;split<;>omega
def nd (T:List Int) (e:Nat):Nat:=(T.getD e 0).toNat
def cross (T:List Int) (S:Nat→Bool) (e:Nat):Bool:=S (nd T (par e))&& !S (nd T e)
def resid (T L:List Int) (S:Nat→Bool) (M:Nat):Int:=sumR (fun e=>if cross T S e=true then L.getD e 0 else 0) M
theorem getD_set {L:List Int} {i j:Nat} {v:Int} (h:i<L.length):(L.set i v).getD j 0=if i=j then v else L.getD j 0:=by
 rw[List.getD_eq_getElem?_getD,List.getD_eq_getElem?_getD,List.getElem?_set]
 by_cases e:i=j
 ·subst e;simp[h]
 ·simp[e]
def sendL (L:List Int) (e:Nat) (r:Int):List Int:=(L.set e (L.getD e 0-r)).set (par e) ((L.set e (L.getD e 0-r)).getD (par e) 0+r)
theorem sendL_len (L:List Int) (e:Nat) (r:Int):(sendL L e r).length=L.length:=by simp[sendL]
theorem sendL_get {L:List Int} {e:Nat} {r:Int} {m:Nat} (hL:L.length=2*m) (he:e<2*m) (j:Nat):(sendL L e r).getD j 0=L.getD j 0+(if j=e then-r else 0)+(if j=par e then r else 0):=by
 unfold sendL
 have hp:=par_lt he;have hn:=par_ne e;rw[getD_set (by rw[List.length_set];omega),getD_set (by omega),getD_set (by omega)]
 by_cases e1:j=e
 ·subst e1;rw[if_neg hn,if_pos rfl,if_pos rfl,if_neg (fun h=>hn h.symm)];omega
 ·by_cases e2:j=par e
  ·subst e2;rw[if_pos rfl,if_neg (fun h=>hn h.symm),if_neg e1,if_pos rfl];omega
  ·rw[if_neg (fun h=>e2 h.symm),if_neg (fun h=>e1 h.symm),if_neg e1,if_neg e2];omega
theorem resid_send {T L:List Int} {e:Nat} {r:Int} {m:Nat} (hL:L.length=2*m) (he:e<2*m) (S:Nat→Bool):
  resid T (sendL L e r) S (2*m)=resid T L S (2*m)-(if S (nd T (par e))=true then r else 0)+(if S (nd T e)=true then r else 0):=by
 have hp:=par_lt he;have hn:=par_ne e;have h1:resid T (sendL L e r) S (2*m)=sumR (fun j=>(if cross T S j=true then L.getD j 0+(if j=e then-r else 0)else 0)) (2*m)+(if cross T S (par e)=true then r else 0):=by
  unfold resid
  rw[sumR_upd (f:=fun j=>(if cross T S j=true then L.getD j 0+(if j=e then-r else 0)else 0)) (2*m) (par e) hp]
  ·rw[sendL_get hL he,if_pos rfl,if_neg hn]
   split<;>omega
  ·intro j _ hj;rw[sendL_get hL he,if_neg hj]
   split<;>omega
 have h2:sumR (fun j=>(if cross T S j=true then L.getD j 0+(if j=e then-r else 0)else 0)) (2*m)=resid T L S (2*m)+(if cross T S e=true then-r else 0):=by
  unfold resid
  rw[sumR_upd (f:=fun j=>(if cross T S j=true then L.getD j 0 else 0)) (2*m) e he]
  ·rw[if_pos rfl]
   split<;>omega
  ·intro j _ hj;rw[if_neg hj]
   split<;>omega
 rw[h1,h2]
 unfold cross
 rw[par_par];cases S (nd T (par e))<;>cases S (nd T e)<;>simp<;>omega
structure WF (n m:Nat) (E:List (List Int)) (T:List Int):Prop where
 two:2≤n
 El:E.length=n
 Tl:T.length=2*m
 Tn: ∀e,e<2*m→0≤T.getD e 0∧T.getD e 0<n
 row: ∀x row,E[x]?=some row→ ∀e∈row,∃e':Nat,e=(e':Int)∧e'<2*m∧nd T (par e')=x
 all: ∀e,e<2*m→ ∃row,E[nd T (par e)]?=some row∧(e:Int)∈row
structure Fl (m:Nat) (C:Int) (L:List Int):Prop where
 Ll:L.length=2*m
 nn: ∀e,e<2*m→0≤L.getD e 0
 le: ∀e,e<2*m→L.getD e 0+L.getD (par e) 0≤C
theorem Fl.send {m:Nat} {C:Int} {L:List Int} (F:Fl m C L) {e:Nat} (he:e<2*m) {r:Int} (h0:0≤r) (hr:r≤L.getD e 0):Fl m C (sendL L e r):=by
 have hp:=par_lt he;refine⟨by rw[sendL_len];exact F.Ll,fun j hj=>?_,fun j hj=>?_⟩
 ·have:=F.nn j hj
  rw[sendL_get F.Ll he]
  by_cases e1:j=e
  ·subst e1;rw[if_pos rfl];split<;>omega
  ·rw[if_neg e1];split<;>omega
 ·have:=F.le j hj
  rw[sendL_get F.Ll he,sendL_get F.Ll he];have a:j=e↔par j=par e:=⟨fun h=>by rw[h],fun h=>by rw[←par_par j,h,par_par]⟩;have b:j=par e↔par j=e:=⟨fun h=>by rw[h,par_par],fun h=>by rw[←par_par j,h]⟩
  by_cases e1:j=e
  ·have e2: ¬j=par e:=fun h=>par_ne e (by omega)
   rw[if_pos e1,if_neg e2,if_neg (fun h=>e2 (b.2 h)),if_pos (a.1 e1)];omega
  ·rw[if_neg e1,if_neg (fun h=>e1 (a.2 h))]
   by_cases e2:j=par e
   ·rw[if_pos e2,if_pos (b.1 e2)];omega
   ·rw[if_neg e2,if_neg (fun h=>e2 (b.2 h))];omega
inductive PushL (n:Nat) (E:List (List Int)) (T V:List Int):Nat→Nat→Int→List Int→List Int→Int→List Int→List Int→Prop
 |done {k x most L X row} {j:Nat}:E[x]?=some row→X[x]?=some (j:Int)→row.length≤j→PushL n E T V k x most L X 0 L X
 |skip {k x most L X r L' X' row l a b} {j e y:Nat}:E[x]?=some row→X[x]?=some (j:Int)→row[j]?=some (e:Int)→T[e]?=some (y:Int)→L[e]?=some l→V[x]?=some a→V[y]?=some b→(l=0∨b≠a+1)→
   PushL n E T V k x most L (X.set x ((j+1:Nat):Int)) r L' X'→PushL n E T V (k+1) x most L X r L' X'
 |fail {k x most L X r L' X' row l a L1 X1 j1} {j e y:Nat}:E[x]?=some row→X[x]?=some (j:Int)→row[j]?=some (e:Int)→T[e]?=some (y:Int)→L[e]?=some l→V[x]?=some a→V[y]?=some (a+1)→l≠0→y≠n-1→
   PushL n E T V k y (min most l) L X 0 L1 X1→X1[x]?=some ((j1:Nat):Int)→j1<row.length→
   PushL n E T V k x most L1 (X1.set x ((j1+1:Nat):Int)) r L' X'→PushL n E T V (k+1) x most L X r L' X'
 |sent {k x most L X row l a L1 X1 r l1 l2} {j e y:Nat}:E[x]?=some row→X[x]?=some (j:Int)→row[j]?=some (e:Int)→T[e]?=some (y:Int)→L[e]?=some l→V[x]?=some a→V[y]?=some (a+1)→l≠0→y≠n-1→
   PushL n E T V k y (min most l) L X r L1 X1→0<r→L1[e]?=some l1→L1[par e]?=some l2→r≤l1→l1≤4000000000→0≤l2→l2+r≤4000000000→PushL n E T V (k+1) x most L X r (sendL L1 e r) X1
 |sink {k x most L X row l a l2} {j e y:Nat}:E[x]?=some row→X[x]?=some (j:Int)→row[j]?=some (e:Int)→T[e]?=some (y:Int)→L[e]?=some l→V[x]?=some a→V[y]?=some (a+1)→l≠0→y=n-1→
   0<min most l→l≤4000000000→L[par e]?=some l2→0≤l2→l2+min most l≤4000000000→PushL n E T V (k+1) x most L X (min most l) (sendL L e (min most l)) X
theorem gO {L:List Int} {e:Nat} {l:Int} (h:L[e]?=some l):L.getD e 0=l∧e<L.length:=by
 refine⟨by rw[List.getD_eq_getElem?_getD,h];rfl,(List.getElem?_eq_some_iff.1 h).1⟩
theorem gG {L:List Int} {e:Nat} (h:e<L.length):L[e]?=some (L.getD e 0):=by
 rw[List.getElem?_eq_getElem h,List.getD_eq_getElem?_getD,List.getElem?_eq_getElem h];rfl
theorem ndO {T:List Int} {e y:Nat} (h:T[e]?=some (y:Int)):nd T e=y:=by unfold nd;rw[(gO h).1];rfl
section
variable {n m:Nat} {E:List (List Int)} {T V:List Int} {C:Int}
theorem push_does (W:WF n m E T) {k x:Nat} {most r:Int} {L X L' X':List Int} (h:PushL n E T V k x most L X r L' X'):x≠n-1→Fl m C L→0<most→
  Fl m C L'∧0≤r∧r≤most∧(∀S:Nat→Bool,S (n-1)=false→resid T L' S (2*m)=resid T L S (2*m)-(if S x=true then r else 0))∧(r=0→L'=L):=by
 induction h with
 |done h1 h2 h3=>exact fun _ F hm=>⟨F,by omega,by omega,fun S _=>by split<;>omega,fun _=>rfl⟩
 |skip h1 h2 h3 h4 h5 h6 h7 h8 _ ih=>exact ih
 | @fail k x most L X r L' X' row l a L1 X1 j1 j e y h1 h2 h3 h4 h5 h6 h7 h8 hy hp h9 hj hp2 ih1 ih2=>
  intro hx F hm;have ge:=gO h5;have hl:=F.nn e (by have:=F.Ll;omega);obtain⟨F1,_,_,_,h0⟩:=ih1 hy F (by omega);have e1:=h0 rfl;subst e1;exact ih2 hx F hm
 | @sent k x most L X row l a L1 X1 r l1 l2 j e y h1 h2 h3 h4 h5 h6 h7 h8 hy hp h9 g1 g2 hr hl1 hl2 hb ih=>
  intro hx F hm;have ge:=gO h5;have he:e<2*m:=by have:=F.Ll;omega
  have hl:=F.nn e he;obtain⟨F1,r0,rm,hS,_⟩:=ih hy F (by omega);obtain⟨e',q1,q2,q3⟩:=W.row x row h1 (e:Int) (List.mem_of_getElem? h3);obtain rfl:e=e':=by omega
  have hd:=ndO h4;refine⟨F1.send he r0 (by rw[(gO g1).1];exact hr),r0,by omega,fun S hs=>?_,fun h=>by omega⟩;rw[resid_send F1.Ll he,hS S hs,q3,hd];omega
 | @sink k x most L X row l a l2 j e y h1 h2 h3 h4 h5 h6 h7 h8 hy hmin hl1 g2 hl2 hb=>
  intro hx F hm;have ge:=gO h5;have he:e<2*m:=by have:=F.Ll;omega
  have hl:=F.nn e he;obtain⟨e',q1,q2,q3⟩:=W.row x row h1 (e:Int) (List.mem_of_getElem? h3);obtain rfl:e=e':=by omega
  have hd:=ndO h4;refine⟨F.send he (by omega) (by omega),by omega,by omega,fun S hs=>?_,fun h=>by omega⟩;rw[resid_send F.Ll he,q3,hd,hy,hs];simp
end
section
variable {n m:Nat} {E:List (List Int)} {T V:List Int} {C:Int}
def Dead (E:List (List Int)) (X:List Int) (z:Nat):Prop:= ∃row,∃j:Nat,E[z]?=some row∧X[z]?=some (j:Int)∧row.length≤j
def DInv (n:Nat) (E:List (List Int)) (T V L X:List Int):Prop:= ∀(z:Nat) (row:List Int) (j:Nat),E[z]?=some row→X[z]?=some (j:Int)→ ∀(i e y:Nat),i<j→row[i]?=some (e:Int)→T[e]?=some (y:Int)→L[e]?=some 0∨(∃a,V[z]?=some a∧V[y]?≠some (a+1))∨(y≠n-1∧Dead E X y)
def XInv (V X X':List Int) (s x:Nat):Prop:=X'.length=X.length∧(∀(z j:Nat),X[z]?=some (j:Int)→ ∃j':Nat,X'[z]?=some (j':Int)∧j≤j')∧X'[s]?=X[s]?∧ ∀(z:Nat) (a b:Int),z≠x→V[z]?=some a→V[x]?=some b→a≤b→X'[z]?=X[z]?
theorem XInv.refl (X:List Int) (s x:Nat):XInv V X X s x:=⟨rfl,fun z j h=>⟨j,h,Nat.le_refl _⟩,rfl,fun _ _ _ _ _ _ _=>rfl⟩
theorem XInv.trans {X X1 X':List Int} {s x:Nat} (h:XInv V X X1 s x) (h':XInv V X1 X' s x):XInv V X X' s x:=by
 refine⟨h'.1.trans h.1,fun z j hz=>?_,h'.2.2.1.trans h.2.2.1,fun z a b h1 h2 h3 h4=>(h'.2.2.2 z a b h1 h2 h3 h4).trans (h.2.2.2 z a b h1 h2 h3 h4)⟩;obtain⟨j1,h1,l1⟩:=h.2.1 z j hz;obtain⟨j2,h2,l2⟩:=h'.2.1 z j1 h1;exact⟨j2,h2,by omega⟩
theorem XInv.deep {X X1:List Int} {s x y:Nat} {a:Int} (h:XInv V X X1 s y) (hx:V[x]?=some a) (hy:V[y]?=some (a+1)):XInv V X X1 s x:=by
 refine⟨h.1,h.2.1,h.2.2.1,fun z c b h1 h2 h3 h4=>h.2.2.2 z c (a+1) ?_ h2 hy ?_⟩
 ·intro e;subst e;rw[hy]at h2;rw[hx]at h3;injection h2;injection h3;omega
 ·rw[hx]at h3;injection h3;omega
theorem XInv.bump {X:List Int} {s x j:Nat} (hxs:x≠s) (hx:X[x]?=some (j:Int)):XInv V X (X.set x ((j+1:Nat):Int)) s x:=by
 have hlt:=(List.getElem?_eq_some_iff.1 hx).1;refine⟨by simp,fun z i hz=>?_,by rw[List.getElem?_set_ne hxs],fun z a b h1 _ _ _=>by rw[List.getElem?_set_ne (fun h=>h1 h.symm)]⟩
 by_cases e:x=z
 ·subst e;rw[hx]at hz;refine⟨j+1,by simp[hlt],?_⟩
  injection hz with hz;omega
 ·exact⟨i,by rw[List.getElem?_set_ne e];exact hz,Nat.le_refl _⟩
theorem Dead.mono {X X':List Int} {s x z:Nat} (h:XInv V X X' s x) (hd:Dead E X z):Dead E X' z:=by
 obtain⟨row,j,h1,h2,h3⟩:=hd;obtain⟨j',h4,h5⟩:=h.2.1 z j h2;exact⟨row,j',h1,h4,by omega⟩
theorem DInv.bump {L X:List Int} {s x j e y:Nat} {row:List Int} (hxs:x≠s) (h1:E[x]?=some row) (hx:X[x]?=some (j:Int)) (h3:row[j]?=some (e:Int)) (h4:T[e]?=some (y:Int)) (D:DInv n E T V L X)
  (hn:L[e]?=some 0∨(∃a,V[x]?=some a∧V[y]?≠some (a+1))∨(y≠n-1∧Dead E X y)):DInv n E T V L (X.set x ((j+1:Nat):Int)):=by
 have hlt:=(List.getElem?_eq_some_iff.1 hx).1;have hB:XInv V X (X.set x ((j+1:Nat):Int)) s x:=XInv.bump hxs hx;intro z row' j' g1 g2 i e' y' hi g3 g4;have old:i<j→z=x→_:=fun hij hz=>D x row j h1 hx i e' y' hij (by rw[hz,h1]at g1;injection g1 with g1;rw[g1];exact g3) g4
 have up: ∀ {a:Nat},(L[e']?=some 0∨(∃a,V[z]?=some a∧V[y']?≠some (a+1))∨(y'≠n-1∧Dead E X y'))→(L[e']?=some 0∨(∃a,V[z]?=some a∧V[y']?≠some (a+1))∨(y'≠n-1∧Dead E (X.set x ((j+1:Nat):Int)) y')):=
  fun h=>h.imp_right fun h=>h.imp_right fun h=>⟨h.1,h.2.mono hB⟩
 by_cases ez:z=x
 ·subst ez;rw[List.getElem?_set_self hlt]at g2
  injection g2 with g2
  by_cases hij:i<j
  ·exact up (a:=0) (old hij rfl)
  ·obtain rfl:i=j:=by omega
   rw[h1]at g1;injection g1 with g1;subst g1
   rw[h3]at g3;injection g3 with g3
   obtain rfl:e=e':=by omega
   rw[h4]at g4;injection g4 with g4
   obtain rfl:y=y':=by omega
   exact up (a:=0) hn
 ·rw[List.getElem?_set_ne (fun h=>ez h.symm)]at g2;exact up (a:=0) (D z row' j' g1 g2 i e' y' hi g3 g4)
theorem push_x {k x:Nat} {most r:Int} {L X L' X':List Int} (h:PushL n E T V k x most L X r L' X'):x≠n-1→XInv V X X' (n-1) x:=by
 induction h with
 |done h1 h2 h3=>exact fun _=>XInv.refl _ _ _
 |skip h1 h2 h3 h4 h5 h6 h7 h8 _ ih=>exact fun hx=>(XInv.bump hx h2).trans (ih hx)
 |fail h1 h2 h3 h4 h5 h6 h7 h8 hy hp h9 hj hp2 ih1 ih2=>exact fun hx=>(XInv.deep (ih1 hy) h6 h7).trans ((XInv.bump hx h9).trans (ih2 hx))
 |sent h1 h2 h3 h4 h5 h6 h7 h8 hy hp h9 g1 g2 hr hl1 hl2 hb ih=>exact fun hx=>XInv.deep (ih hy) h6 h7
 |sink=>exact fun _=>XInv.refl _ _ _
theorem push_far (W:WF n m E T) {k x:Nat} {most r:Int} {L X L' X':List Int} (h:PushL n E T V k x most L X r L' X'):L.length=2*m→L'.length=2*m∧ ∀(e:Nat) (a b:Int),e<2*m→V[nd T (par e)]?=some a→V[x]?=some b→a<b→L'.getD e 0=L.getD e 0:=by
 induction h with
 |done h1 h2 h3=>exact fun F=>⟨F,fun _ _ _ _ _ _ _=>rfl⟩
 |skip h1 h2 h3 h4 h5 h6 h7 h8 _ ih=>exact ih
 | @fail k x most L X r L' X' row l a L1 X1 j1 j e y h1 h2 h3 h4 h5 h6 h7 h8 hy hp h9 hj hp2 ih1 ih2=>
  intro F;obtain⟨l1,f1⟩:=ih1 F;obtain⟨l2,f2⟩:=ih2 l1;refine⟨l2,fun e a' b he ha hb hab=>(f2 e a' b he ha hb hab).trans (f1 e a' (a+1) he ha h7 ?_)⟩;rw[h6]at hb;injection hb;omega
 | @sent k x most L X row l a L1 X1 r l1 l2 j e y h1 h2 h3 h4 h5 h6 h7 h8 hy hp h9 g1 g2 hr hl1 hl2 hb ih=>
  intro F;obtain⟨l1,f1⟩:=ih F;have he:e<2*m:=by have:=gO h5;omega
  obtain⟨e',q1,q2,q3⟩:=W.row x row h1 (e:Int) (List.mem_of_getElem? h3);obtain rfl:e=e':=by omega
  have hd:=ndO h4;refine⟨by rw[sendL_len];exact l1,fun i a' b hi ha hb hab=>?_⟩;rw[h6]at hb;injection hb with hb
  rw[sendL_get l1 he,f1 i a' (a+1) hi ha h7 (by omega),if_neg,if_neg]
  ·omega
  ·intro q;subst q;rw[par_par,hd,h7]at ha;injection ha;omega
  ·intro q;subst q;rw[q3,h6]at ha;injection ha;omega
 | @sink k x most L X row l a l2 j e y h1 h2 h3 h4 h5 h6 h7 h8 hy hmin hl1 g2 hl2 hb=>
  intro F;have he:e<2*m:=by have:=gO h5;omega
  obtain⟨e',q1,q2,q3⟩:=W.row x row h1 (e:Int) (List.mem_of_getElem? h3);obtain rfl:e=e':=by omega
  have hd:=ndO h4;refine⟨by rw[sendL_len];exact F,fun i a' b hi ha hb hab=>?_⟩;rw[h6]at hb;injection hb with hb
  rw[sendL_get F he,if_neg,if_neg]
  ·omega
  ·intro q;subst q;rw[par_par,hd,h7]at ha;injection ha;omega
  ·intro q;subst q;rw[q3,h6]at ha;injection ha;omega
theorem push_zero (W:WF n m E T) {k x:Nat} {most r:Int} {L X L' X':List Int} (h:PushL n E T V k x most L X r L' X'):x≠n-1→Fl m C L→0<most→r=0→DInv n E T V L X→DInv n E T V L X'∧Dead E X' x:=by
 induction h with
 | @done k x most L X row j h1 h2 h3=>exact fun _ _ _ _ D=>⟨D,row,j,h1,h2,h3⟩
 |skip h1 h2 h3 h4 h5 h6 h7 h8 _ ih=>
  intro hx F hm hr D;refine ih hx F hm hr (D.bump hx h1 h2 h3 h4 ?_)
  rcases h8 with h8|h8
  ·subst h8;exact .inl h5
  ·exact .inr (.inl ⟨_,h6,by rw[h7];intro q;injection q with q;exact h8 q⟩)
 | @fail k x most L X r L' X' row l a L1 X1 j1 j e y h1 h2 h3 h4 h5 h6 h7 h8 hy hp h9 hj hp2 ih1 ih2=>
  intro hx F hm hr D;have ge:=gO h5;have hl:=F.nn e (by have:=F.Ll;omega);obtain⟨F1,_,_,_,h0⟩:=push_does W hp hy F (by omega);have e1:=h0 rfl;subst e1;have xi:=push_x hp hy;obtain⟨D1,Dy⟩:=ih1 hy F (by omega) rfl D;have hx1:X1[x]?=X[x]?:=xi.2.2.2 x a (a+1) (fun q=>by subst q;rw[h6]at h7;injection h7;omega) h6 h7 (by omega);have ej:j1=j:=by rw[hx1,h2]at h9;injection h9;omega
  subst ej;exact ih2 hx F hm hr (D1.bump hx h1 h9 h3 h4 (.inr (.inr ⟨hy,Dy⟩)))
 |sent h1 h2 h3 h4 h5 h6 h7 h8 hy hp h9 g1 g2 hr hl1 hl2 hb ih=>exact fun _ _ _ h=>by omega
 |sink h1 h2 h3 h4 h5 h6 h7 h8 hy hmin hl1 g2=>exact fun _ _ _ h=>by omega
theorem mem_get {row:List Int} {j:Nat} (h:j<row.length):row[j]?=some row[j]:=List.getElem?_eq_getElem h
theorem push_ex (W:WF n m E T) (hV:V.length=n) (hC:C≤2000000000) (N:Int) (hN: ∀(y:Nat) (b:Int),V[y]?=some b→b≤N): ∀(d x:Nat) (a:Int),V[x]?=some a→N-a<d→ ∀(c:Nat) (most:Int) (L X:List Int) (row:List Int) (j:Nat),E[x]?=some row→X[x]?=some (j:Int)→row.length≤j+c→X.length=n→(∀z,z<n→ ∃i:Nat,X[z]?=some (i:Int))→Fl m C L→0<most→
  x≠n-1→ ∃k0 r L' X',∀k,k0≤k→PushL n E T V k x most L X r L' X':=by
 intro d
 induction d with
 |zero=>intro x a ha hd;have:=hN x a ha;omega
 |succ d ihd=>
  intro x a ha hd c
  induction c with
  |zero=>intro most L X row j h1 h2 h3 _ _ _ _ _;exact⟨0,0,L,X,fun k _=> .done h1 h2 h3⟩
  |succ c ihc=>
   intro most L X row j h1 h2 h3 hXl hX F hm hx
   by_cases hj:row.length≤j
   ·exact⟨0,0,L,X,fun k _=> .done h1 h2 hj⟩
   have hlx:=(List.getElem?_eq_some_iff.1 h2).1;obtain⟨e,q1,q2,q3⟩:=W.row x row h1 row[j] (List.getElem_mem _);have h3':row[j]?=some (e:Int):=by rw[mem_get (by omega),q1]
   have ty:=W.Tn e q2;have h4:T[e]?=some ((nd T e:Nat):Int):=by
    rw[gG (by rw[W.Tl];exact q2)];unfold nd;rw[Int.toNat_of_nonneg ty.1]
   obtain⟨y,hy⟩: ∃y,y=nd T e:=⟨_,rfl⟩;rw[←hy]at h4;have hyn:y<n:=by rw[hy];unfold nd;omega
   have h5:L[e]?=some (L.getD e 0):=gG (by rw[F.Ll];exact q2);have hVy:V[y]?=some (V.getD y 0):=gG (by omega);have hset: ∀z,z<n→ ∃i:Nat,(X.set x ((j+1:Nat):Int))[z]?=some (i:Int):=fun z hz=>by
    by_cases q:x=z
    ·subst q;exact⟨j+1,by simp[hlx]⟩
    ·rw[List.getElem?_set_ne q];exact hX z hz
   have nx: ∀(X1:List Int),X1.length=n→(∀z,z<n→ ∃i:Nat,X1[z]?=some (i:Int))→X1[x]?=some (j:Int)→ ∃k0 r L' X',∀k,k0≤k→PushL n E T V k x most L (X1.set x ((j+1:Nat):Int)) r L' X':=fun X1 hl1 hX1 hx1=>by
    have hlx1:=(List.getElem?_eq_some_iff.1 hx1).1;refine ihc most L (X1.set x ((j+1:Nat):Int)) row (j+1) h1 (by simp[hlx1]) (by omega) (by simpa using hl1) (fun z hz=>?_) F hm hx
    by_cases q:x=z
    ·subst q;exact⟨j+1,by simp[hlx1]⟩
    ·rw[List.getElem?_set_ne q];exact hX1 z hz
   by_cases sk:L.getD e 0=0∨V.getD y 0≠a+1
   ·obtain⟨k0,r,L',X',hp⟩:=nx X hXl hX h2;refine⟨k0+1,r,L',X',fun k hk=>?_⟩;obtain⟨k,rfl⟩: ∃q,k=q+1:=⟨k-1,by omega⟩;exact .skip h1 h2 h3' h4 h5 ha hVy sk (hp k (by omega))
   have hl0:L.getD e 0≠0:=fun q=>sk (.inl q)
   have hb:V.getD y 0=a+1:=Decidable.byContradiction fun q=>sk (.inr q)
   rw[hb]at hVy;have hl:=F.nn e q2;have hpl:=par_lt q2;have h5p:L[par e]?=some (L.getD (par e) 0):=gG (by rw[F.Ll];exact hpl);have hmin:0<min most (L.getD e 0):=by omega
   have hCe:=F.le e q2;have hn2:=F.nn (par e) hpl
   by_cases hys:y=n-1
   ·exact⟨1,_,_,_,fun k hk=>by
     obtain⟨k,rfl⟩: ∃q,k=q+1:=⟨k-1,by omega⟩;exact .sink h1 h2 h3' h4 h5 ha hVy hl0 hys hmin (by omega) h5p hn2 (by omega)⟩
   obtain⟨i,hXy⟩:=hX y hyn;obtain⟨rowy,hrow⟩: ∃rowy,E[y]?=some rowy:=⟨_,List.getElem?_eq_getElem (by rw[W.El];exact hyn)⟩;obtain⟨k1,r1,L1,X1,hp1⟩:=ihd y (a+1) hVy (by omega) rowy.length (min most (L.getD e 0)) L X rowy i hrow hXy (by omega) hXl hX F hmin hys;have does:=push_does W (hp1 k1 (Nat.le_refl _)) hys F hmin;have xi:=push_x (hp1 k1 (Nat.le_refl _)) hys;obtain⟨F1,r0,rm,hS,hz⟩:=does;have hx1:X1[x]?=X[x]?:=xi.2.2.2 x a (a+1) (fun q=>by subst q;rw[ha]at hVy;injection hVy;omega) ha hVy (by omega)
   by_cases hr:r1=0
   ·have eL:=hz hr;subst eL;subst hr;obtain⟨k0,r,L',X',hp⟩:=nx X1 (by rw[xi.1];exact hXl) (fun z hz=>by
     obtain⟨i,hi⟩:=hX z hz;obtain⟨i',hi',_⟩:=xi.2.1 z i hi;exact⟨i',hi'⟩) (by rw[hx1];exact h2)
    refine⟨max k0 k1+1,r,L',X',fun k hk=>?_⟩;obtain⟨k,rfl⟩: ∃q,k=q+1:=⟨k-1,by omega⟩;exact .fail h1 h2 h3' h4 h5 ha hVy hl0 hys (hp1 k (by omega)) (by rw[hx1];exact h2) (by omega) (hp k (by omega))
   ·have g1:L1[e]?=some (L1.getD e 0):=gG (by rw[F1.Ll];exact q2);have g2:L1[par e]?=some (L1.getD (par e) 0):=gG (by rw[F1.Ll];exact hpl);have c1:=F1.le e q2;have n1:=F1.nn e q2;have n2:=F1.nn (par e) hpl;have far:=(push_far W (hp1 k1 (Nat.le_refl _)) F.Ll).2 e a (a+1) q2 (by rw[q3];exact ha) hVy (by omega);exact⟨k1+1,r1,_,_,fun k hk=>by
     obtain⟨k,rfl⟩: ∃q,k=q+1:=⟨k-1,by omega⟩;exact .sent h1 h2 h3' h4 h5 ha hVy hl0 hys (hp1 k (by omega)) (by omega) g1 g2 (by omega) (by omega) n2 (by omega)⟩
end
end Go.Proofs.Ytlkppimbbbdmbaa.Flow
set_option linter.unusedVariables false
namespace Go.Proofs.Ytlkppimbbbdmbaa.Flow
inductive Scan (T L:List Int) (x:Nat):List Int→List Bool→List Int→List Int→List Bool→List Int→List Int→Prop
 |nil {B V Q}:Scan T L x [] B V Q B V Q
 |skip {e y:Nat} {es B V Q B' V' Q' l b}:L[e]?=some l→T[e]?=some (y:Int)→B[y]?=some b→(l≤0∨b=true)→0≤V.getD y 0→Scan T L x es B V Q B' V' Q'→Scan T L x ((e:Int)::es) B V Q B' V' Q'
 |take {e y:Nat} {es B V Q B' V' Q' l a}:L[e]?=some l→T[e]?=some (y:Int)→B[y]?=some false→0<l→V[x]?=some a→0≤a→a≤1000000→Q.length≤1000000→B[x]?=some true→y≠x→y<V.length→
   Scan T L x es (B.set y true) (V.set y (a+1)) (Q++[(y:Int)]) B' V' Q'→Scan T L x ((e:Int)::es) B V Q B' V' Q'
inductive Bfs (E:List (List Int)) (T L:List Int):Nat→List Bool→List Int→List Int→List Bool→List Int→Prop
 |done {k B V}:Bfs E T L k B V [] B V
 |step {k B V Q B1 V1 Q1 B' V' row} {x:Nat}:E[x]?=some row→Scan T L x row B V Q B1 V1 Q1→Bfs E T L k B1 V1 Q1 B' V'→Bfs E T L (k+1) B V ((x:Int)::Q) B' V'
theorem scan_empty {T L:List Int} {x:Nat} {es:List Int} {B:List Bool} {V Q:List Int} {B':List Bool} {V' Q':List Int} (h:Scan T L x es B V Q B' V' Q'):(T=[]∨L=[])→B'=B:=by
 induction h with
 |nil=>exact fun _=>rfl
 |skip _ _ _ _ _ _ ih=>exact ih
 |take h1 h2 _ _ _ _ _ _ _ _ _ _ _=>
  intro hn
  rcases hn with hn|hn
  ·rw[hn]at h2;cases h2
  ·rw[hn]at h1;cases h1
theorem bfs_empty {E:List (List Int)} {T L:List Int} {k:Nat} {B:List Bool} {V Q:List Int} {B':List Bool} {V':List Int} (h:Bfs E T L k B V Q B' V'):(T=[]∨L=[])→B'=B:=by
 induction h with
 |done=>exact fun _=>rfl
 |step _ h2 _ ih=>exact fun hn=>(ih hn).trans (scan_empty h2 hn)
theorem sumR_0: ∀n,sumR (fun _=>0) n=0
 |0=>rfl
 |n+1=>by rw[sumR,sumR_0 n];rfl
theorem bf' {b:Bool} (h: ¬b=true):b=false:=by cases b<;>simp_all
section
variable {n m:Nat} {E:List (List Int)} {T:List Int} {C:Int}
def isB (B:List Bool) (z:Nat):Bool:=B.getD z false
theorem isB_set {B:List Bool} {y z:Nat} (h:y<B.length):isB (B.set y true) z=if y=z then true else isB B z:=by
 unfold isB
 rw[List.getD_eq_getElem?_getD,List.getD_eq_getElem?_getD,List.getElem?_set]
 by_cases e:y=z
 ·subst e;simp[h]
 ·simp[e]
theorem bO {B:List Bool} {y:Nat} {b:Bool} (h:B[y]?=some b):isB B y=b∧y<B.length:=⟨by unfold isB;rw[List.getD_eq_getElem?_getD,h];rfl,(List.getElem?_eq_some_iff.1 h).1⟩
theorem bG {B:List Bool} {y:Nat} (h:y<B.length):B[y]?=some (isB B y):=by
 unfold isB;rw[List.getElem?_eq_getElem h,List.getD_eq_getElem?_getD,List.getElem?_eq_getElem h];rfl
def cnt (B:List Bool):Nat:=(B.filter (fun b=>b)).length
theorem cnt_le (B:List Bool):cnt B≤B.length:=List.length_filter_le _ _
theorem cnt_set: ∀(B:List Bool) (y:Nat),y<B.length→isB B y=false→cnt (B.set y true)=cnt B+1
 |[],y,h,_=>absurd h (Nat.not_lt_zero _)
 |b::B,0,_,hb=>by
  have:b=false:=hb;subst this
  simp[cnt]
 |b::B,y+1,h,hb=>by
  have ih:=cnt_set B y (by simpa using h) (by simpa [isB]using hb)
  unfold cnt at ih⊢
  rw[List.set_cons_succ,List.filter_cons,List.filter_cons];cases b<;>simp[ih]
structure BI (n m:Nat) (T L:List Int) (B:List Bool) (V Q pend:List Int):Prop where
 Bl:B.length=n
 Vl:V.length=n
 q: ∀a∈Q,∃x:Nat,a=(x:Int)∧x<n∧isB B x=true
 b0:isB B 0=true
 v0:V.getD 0 0=0
 tree: ∀z,z<n→isB B z=true→z=0∨ ∃e,e<2*m∧nd T e=z∧0<L.getD e 0∧isB B (nd T (par e))=true∧V.getD z 0=V.getD (nd T (par e)) 0+1
 vn: ∀z,0≤V.getD z 0∧V.getD z 0≤(cnt B:Int)
 ql:Q.length≤cnt B
 done: ∀z,z<n→isB B z=true→(z:Int)∈Q∨ ∀e,e<2*m→nd T (par e)=z→0<L.getD e 0→isB B (nd T e)=true∨(e:Int)∈pend
theorem scan_ex (W:WF n m E T) (hn:n≤1000000) {L:List Int} (F:Fl m C L) (x:Nat) (hx:x<n): ∀(row:List Int),(∀e∈row,∃e':Nat,e=(e':Int)∧e'<2*m∧nd T (par e')=x)→ ∀(B:List Bool) (V Q:List Int),isB B x=true→BI n m T L B V Q row→
  ∃B' V' Q',Scan T L x row B V Q B' V' Q'∧BI n m T L B' V' Q' []∧Q'.length+cnt B=Q.length+cnt B':=by
 intro row
 induction row with
 |nil=>intro _ B V Q _ I;exact⟨B,V,Q,.nil,I,rfl⟩
 |cons e0 es ih=>
  intro hr B V Q hxB I;obtain⟨e,rfl,he,hsrc⟩:=hr e0 (List.mem_cons_self ..);have hr': ∀e∈es,∃e':Nat,e=(e':Int)∧e'<2*m∧nd T (par e')=x:=fun a ha=>hr a (List.mem_cons_of_mem _ ha)
  have ty:=W.Tn e he;obtain⟨y,hy⟩: ∃y,y=nd T e:=⟨_,rfl⟩;have h4:T[e]?=some (y:Int):=by
   rw[gG (by rw[W.Tl];exact he),hy];unfold nd;rw[Int.toNat_of_nonneg ty.1]
  have hyn:y<n:=by rw[hy];unfold nd;omega
  have h5:L[e]?=some (L.getD e 0):=gG (by rw[F.Ll];exact he);have h6:B[y]?=some (isB B y):=bG (by rw[I.Bl];exact hyn)
  by_cases sk:L.getD e 0≤0∨isB B y=true
  ·have I':BI n m T L B V Q es:=⟨I.Bl,I.Vl,I.q,I.b0,I.v0,I.tree,I.vn,I.ql,fun z hz hb=>(I.done z hz hb).imp_right fun h e' he' hs hp=>(h e' he' hs hp).elim .inl fun hm=>by
    rcases List.mem_cons.1 hm with q|q
    ·obtain rfl:e'=e:=by omega
     rcases sk with sk|sk
     ·omega
     ·exact .inl (by rw[←hy];exact sk)
    ·exact .inr q⟩
   obtain⟨B',V',Q',s,i,c⟩:=ih hr' B V Q hxB I';exact⟨B',V',Q',.skip h5 h4 h6 sk (I.vn y).1 s,i,c⟩
  ·have hL:0<L.getD e 0:=Int.not_le.1 fun h=>sk (.inl h)
   have hb:isB B y=false:=by cases q:isB B y with
    |false=>rfl
    |true=>exact absurd (.inr q) sk
   have hyx:y≠x:=fun q=>by rw[q,hxB]at hb;cases hb
   have hyl:y<B.length:=by rw[I.Bl];exact hyn
   have hyv:y<V.length:=by rw[I.Vl];exact hyn
   have hvx:=I.vn x;have hcl:=cnt_le B;have hBl:=I.Bl;have cs:=cnt_set B y hyl hb;have gV: ∀z,(V.set y (V.getD x 0+1)).getD z 0=if y=z then V.getD x 0+1 else V.getD z 0:=fun z=>getD_set hyv
   have I':BI n m T L (B.set y true) (V.set y (V.getD x 0+1)) (Q++[(y:Int)]) es:=by
    refine⟨by rw[List.length_set];exact I.Bl,by rw[List.length_set];exact I.Vl,?_,?_,?_,?_,?_,by rw[cs,List.length_append];have:=I.ql;simp;omega,?_⟩
    ·intro a ha
     rcases List.mem_append.1 ha with ha|ha
     ·obtain⟨z,h1,h2,h3⟩:=I.q a ha;exact⟨z,h1,h2,by rw[isB_set hyl];(split;· rfl);exact h3⟩
     ·exact⟨y,by simpa using ha,hyn,by rw[isB_set hyl,if_pos rfl]⟩
    ·rw[isB_set hyl,I.b0];split<;>rfl
    ·rw[gV,if_neg]
     ·exact I.v0
     ·intro q;rw[q,I.b0]at hb;cases hb
    ·intro z hz hbz;rw[isB_set hyl]at hbz
     by_cases q:y=z
     ·subst q;refine .inr ⟨e,he,hy.symm,hL,?_,?_⟩
      ·rw[hsrc,isB_set hyl,if_neg hyx];exact hxB
      ·rw[gV,if_pos rfl,hsrc,gV,if_neg hyx]
     ·rw[if_neg q]at hbz;refine(I.tree z hz hbz).imp_right ?_;rintro⟨e',g1,g2,g3,g4,g5⟩;have hne: ¬y=nd T (par e'):=fun q=>by rw[q,g4]at hb;cases hb
      exact⟨e',g1,g2,g3,by rw[isB_set hyl,if_neg hne];exact g4,by rw[gV,if_neg q,gV,if_neg hne];exact g5⟩
    ·intro z;rw[gV,cs]
     have:=I.vn z
     split<;>omega
    ·intro z hz hbz;rw[isB_set hyl]at hbz
     by_cases q:y=z
     ·subst q;exact .inl (List.mem_append_right _ (List.mem_singleton.2 rfl))
     ·rw[if_neg q]at hbz
      rcases I.done z hz hbz with h|h
      ·exact .inl (List.mem_append_left _ h)
      ·refine .inr fun e' he' hs hp=>?_
       rw[isB_set hyl]
       rcases h e' he' hs hp with h|h
       ·exact .inl (by rw[h];split<;>rfl)
       ·rcases List.mem_cons.1 h with h|h
        ·obtain rfl:e'=e:=by omega
         exact .inl (by rw[if_pos hy])
        ·exact .inr h
   obtain⟨B',V',Q',s,i,c⟩:=ih hr' _ _ _ (by rw[isB_set hyl,if_neg hyx];exact hxB) I';refine⟨B',V',Q',.take h5 h4 (by rw[h6,hb]) hL (gG (by rw[I.Vl];exact hx)) hvx.1 (by omega) (by have:=I.ql;omega) (by rw[bG (by rw[I.Bl];exact hx),hxB]) hyx hyv s,i,?_⟩;rw[cs,List.length_append]at c
   simp at c;omega
theorem bfs_ex (W:WF n m E T) (hn:n≤1000000) {L:List Int} (F:Fl m C L): ∀(k:Nat) (B:List Bool) (V Q:List Int),BI n m T L B V Q []→Q.length+n≤k+cnt B→ ∃B' V',(∀k',k≤k'→Bfs E T L k' B V Q B' V')∧BI n m T L B' V' [] []:=by
 intro k
 induction k with
 |zero=>
  intro B V Q I hk;have h1:=cnt_le B;have h2:=I.Bl;obtain rfl:Q=[]:=List.eq_nil_of_length_eq_zero (by omega);exact⟨B,V,fun _ _=> .done,I⟩
 |succ k ih=>
  intro B V Q I hk;cases Q with
  |nil=>exact⟨B,V,fun _ _=> .done,I⟩
  |cons a Q=>
   obtain⟨x,rfl,hx,hxB⟩:=I.q a (List.mem_cons_self ..);obtain⟨row,hrow⟩: ∃row,E[x]?=some row:=⟨_,List.getElem?_eq_getElem (by rw[W.El];exact hx)⟩;have I0:BI n m T L B V Q row:=⟨I.Bl,I.Vl,fun a ha=>I.q a (List.mem_cons_of_mem _ ha),I.b0,I.v0,I.tree,I.vn,by have:=I.ql;simp at this;omega,fun z hz hb=>by
    by_cases q:z=x
    ·subst q;refine .inr fun e he hs hp=> .inr ?_
     obtain⟨row',h1,h2⟩:=W.all e he;rw[hs,hrow]at h1;injection h1 with h1;subst h1;exact h2
    ·rcases I.done z hz hb with h|h
     ·rcases List.mem_cons.1 h with h|h
      ·exact absurd (by omega) q
      ·exact .inl h
     ·exact .inr fun e he hs hp=>(h e he hs hp).imp_right fun h=>absurd h (List.not_mem_nil)⟩
   obtain⟨B1,V1,Q1,s,I1,c⟩:=scan_ex W hn F x hx row (W.row x row hrow) B V Q hxB I0;obtain⟨B',V',h,I'⟩:=ih B1 V1 Q1 I1 (by simp at hk;omega);exact⟨B',V',fun k' hk'=>by
    obtain⟨k',rfl⟩: ∃q,k'=q+1:=⟨k'-1,by omega⟩;exact .step hrow s (h k' (by omega)),I'⟩
def B0 (n:Nat):List Bool:=(List.replicate n false).set 0 true
theorem bi_start (W:WF n m E T) (L:List Int):BI n m T L (B0 n) (List.replicate n 0) [0] []:=by
 have h2:=W.two;have hl:0<(List.replicate n false).length:=by rw[List.length_replicate];omega
 have hb: ∀z,isB (B0 n) z=if 0=z then true else false:=fun z=>by
  unfold B0;rw[isB_set hl];split
  ·rfl
  ·unfold isB;rw[List.getD_eq_getElem?_getD,List.getElem?_replicate];split<;>rfl
 have hv: ∀z,(List.replicate n (0:Int)).getD z 0=0:=fun z=>by
  rw[List.getD_eq_getElem?_getD,List.getElem?_replicate];split<;>rfl
 refine⟨by simp[B0],by simp,fun a ha=>⟨0,by simpa using ha,by omega,by rw[hb];rfl⟩,by rw[hb];rfl,hv 0,fun z _ h=>?_,fun z=>by rw[hv];omega,?_,fun z _ h=>?_⟩
 ·rw[hb]at h;split at h
  ·exact .inl (by omega)
  ·cases h
 ·show 1≤cnt (B0 n)
  unfold B0;rw[cnt_set _ 0 hl (by unfold isB;rw[List.getD_eq_getElem?_getD,List.getElem?_replicate];split<;>rfl)];omega
 ·rw[hb]at h;split at h
  ·rename_i q;subst q;exact .inl (by simp)
  ·cases h
structure Reached (n m:Nat) (T L:List Int) (B:List Bool) (V:List Int):Prop where
 Bl:B.length=n
 Vl:V.length=n
 b0:isB B 0=true
 v0:V.getD 0 0=0
 vn: ∀z,-1≤V.getD z 0∧V.getD z 0≤(n:Int)∧(isB B z=true→0≤V.getD z 0)
 tree: ∀z,z<n→isB B z=true→z=0∨ ∃e,e<2*m∧nd T e=z∧0<L.getD e 0∧isB B (nd T (par e))=true∧V.getD z 0=V.getD (nd T (par e)) 0+1
 closed: ∀e,e<2*m→isB B (nd T (par e))=true→0<L.getD e 0→isB B (nd T e)=true
theorem bfs_start (W:WF n m E T) (hn:n≤1000000) {L:List Int} (F:Fl m C L): ∃B V,(∀k,n+1≤k→Bfs E T L k (B0 n) (List.replicate n 0) [0] B V)∧Reached n m T L B V:=by
 obtain⟨B,V,h,I⟩:=bfs_ex W hn F (n+1) _ _ _ (bi_start W L) (by simp;omega);refine⟨B,V,h,⟨I.Bl,I.Vl,I.b0,I.v0,fun z=>?_,I.tree,fun e he hs hp=>?_⟩⟩
 ·have a:=I.vn z;have b:=cnt_le B;have c:=I.Bl;exact⟨by omega,by omega,fun _=>a.1⟩
 ·have hlt:nd T (par e)<n:=by have:=W.Tn (par e) (par_lt he);have:=W.two;unfold nd;omega
  rcases I.done _ hlt hs with h|h
  ·cases h
  ·exact(h e he rfl hp).resolve_right (List.not_mem_nil)
theorem Reached.least (W:WF n m E T) {L V:List Int} {B:List Bool} (R:Reached n m T L B V) {S:Nat→Bool} (h0:S 0=true) (hS: ∀e,e<2*m→S (nd T (par e))=true→0<L.getD e 0→S (nd T e)=true): ∀z,z<n→isB B z=true→S z=true:=by
 have key: ∀(d z:Nat),z<n→isB B z=true→V.getD z 0=(d:Int)→S z=true:=by
  intro d
  induction d with
  |zero=>
   intro z hz hb hv
   rcases R.tree z hz hb with rfl|⟨e,h1,h2,h3,h4,h5⟩
   ·exact h0
   ·have:=(R.vn (nd T (par e))).2.2 h4;omega
  |succ d ih=>
   intro z hz hb hv
   rcases R.tree z hz hb with rfl|⟨e,h1,h2,h3,h4,h5⟩
   ·exact h0
   ·have hlt:nd T (par e)<n:=by have:=W.Tn (par e) (par_lt h1);have:=W.two;unfold nd;omega
    rw[←h2];exact hS e h1 (ih _ hlt h4 (by omega)) h3
 intro z hz hb
 have:=(R.vn z).2.2 hb
 exact key (V.getD z 0).toNat z hz hb (by omega)
def dOf (n:Nat) (B:List Bool) (V:List Int):List Int:=(List.range n).map fun z=>if isB B z=true then V.getD z 0 else-1
theorem dOf_set {n:Nat} {B:List Bool} {V:List Int} {y:Nat} {a:Int} (hB:y<B.length) (hV:y<V.length) (hy:y<n):dOf n (B.set y true) (V.set y a)=(dOf n B V).set y a:=by
 apply List.ext_getElem (by simp[dOf])
 intro i h1 h2;rw[List.getElem_set];simp only[dOf,List.getElem_map,List.getElem_range];rw[isB_set hB,getD_set hV]
 by_cases e:y=i
 ·simp[e]
 ·simp[e]
theorem dOf_start {n:Nat} (hn:1≤n):dOf n (B0 n) (List.replicate n 0)=(List.replicate n (-1)).set 0 0:=by
 apply List.ext_getElem (by simp[dOf])
 intro i h1 h2;rw[List.getElem_set];simp only[dOf,List.getElem_map,List.getElem_range,List.getElem_replicate]
 unfold B0
 rw[isB_set (by simp;omega)];have hi:i<n:=by simpa [dOf]using h1
 by_cases e:0=i
 ·subst e;rw[if_pos rfl,if_pos rfl,if_pos rfl,List.getD_eq_getElem?_getD,List.getElem?_replicate,if_pos hi];rfl
 ·rw[if_neg e,if_neg e]
  unfold isB
  rw[List.getD_eq_getElem?_getD,List.getElem?_replicate,if_pos hi];rfl
theorem dOf_len (n:Nat) (B:List Bool) (V:List Int):(dOf n B V).length=n:=by simp[dOf]
theorem dOf_get {n:Nat} {B:List Bool} {V:List Int} {z:Nat} (h:z<n):(dOf n B V)[z]?=some (if isB B z=true then V.getD z 0 else-1):=by
 unfold dOf
 rw[List.getElem?_map,List.getElem?_range h];rfl
theorem dOf_getD {n:Nat} {B:List Bool} {V:List Int} {z:Nat} (h:z<n):(dOf n B V).getD z 0=if isB B z=true then V.getD z 0 else-1:=by
 rw[List.getD_eq_getElem?_getD,dOf_get h];rfl
theorem Reached.dOf (W:WF n m E T) {L V:List Int} {B:List Bool} (R:Reached n m T L B V):Reached n m T L B (Flow.dOf n B V):=by
 have h2:=W.two;refine⟨R.Bl,dOf_len _ _ _,R.b0,by rw[dOf_getD (by omega),if_pos R.b0];exact R.v0,fun z=>?_,fun z hz hb=>?_,R.closed⟩
 ·by_cases hz:z<n
  ·have:=R.vn z
   rw[dOf_getD hz]
   split
   ·rename_i hb
    exact⟨this.1,this.2.1,fun _=>this.2.2 hb⟩
   ·exact⟨by omega,by omega,fun h=>absurd h ‹_›⟩
  ·rw[List.getD_eq_getElem?_getD,List.getElem?_eq_none (by rw[dOf_len];omega)];exact⟨by show(-1:Int)≤0;omega,by show(0:Int)≤n;omega,fun _=>Int.le_refl 0⟩
 ·refine(R.tree z hz hb).imp_right ?_;rintro⟨e,h1,h2,h3,h4,h5⟩;have hp:nd T (par e)<n:=by have:=W.Tn (par e) (par_lt h1);unfold nd;omega
  refine⟨e,h1,h2,h3,h4,?_⟩;rw[dOf_getD hz,if_pos hb,dOf_getD hp,if_pos h4];exact h5
theorem first_push (W:WF n m E T) {L V:List Int} {B:List Bool} (F:Fl m C L) (R:Reached n m T L B V) (hs:isB B (n-1)=true) {k:Nat} {big r:Int} {L' X':List Int} (hbig:0<big)
  (h:PushL n E T V k 0 big L (List.replicate n 0) r L' X'):0<r:=by
 have h2:=W.two;have hx:(0:Nat)≠n-1:=by omega
 obtain⟨_,r0,_,_,_⟩:=push_does W h hx F hbig;refine Decidable.byContradiction fun hr=>?_
 have D0:DInv n E T V L (List.replicate n 0):=by
  intro z row j _ hz i e y hi _ _;rw[List.getElem?_replicate]at hz
  split at hz
  ·injection hz with hz;omega
  ·cases hz
 obtain⟨D,dead⟩:=push_zero W h hx F hbig (by omega) D0;have xi:=push_x h hx;have step: ∀(z e:Nat),e<2*m→nd T e=z→0<L.getD e 0→V.getD z 0=V.getD (nd T (par e)) 0+1→z<n→Dead E X' (nd T (par e))→z≠n-1∧Dead E X' z:=by
  intro z e he hz hp hv hzn hd;have ty:=W.Tn e he;have tp:=W.Tn (par e) (par_lt he);obtain⟨row,j,g1,g2,g3⟩:=hd;obtain⟨row',g4,g5⟩:=W.all e he;rw[g1]at g4;injection g4 with g4;subst g4
  obtain⟨i,hi,g6⟩:=List.mem_iff_getElem.1 g5;have h4:T[e]?=some (z:Int):=by
   rw[gG (by rw[W.Tl];exact he),←hz];unfold nd;rw[Int.toNat_of_nonneg ty.1]
  have hVl:=R.Vl;have hpn:nd T (par e)<n:=by unfold nd;omega
  rcases D _ row j g1 g2 i e z (by omega) (by rw[List.getElem?_eq_getElem hi,g6]) h4 with q|⟨a,q1,q2⟩|q
  ·have:=(gO q).1;omega
  ·have:=(gO q1).1
   exact absurd (by rw[gG (by omega),hv,this]) q2
  ·exact q
 have key: ∀(d z:Nat),z<n→isB B z=true→V.getD z 0=(d:Int)→V.getD z 0<V.getD (n-1) 0→Dead E X' z:=by
  intro d
  induction d with
  |zero=>
   intro z hz hb hv hlt
   rcases R.tree z hz hb with rfl|⟨e,h1,h2,h3,h4,h5⟩
   ·exact dead
   ·have:=(R.vn (nd T (par e))).2.2 h4;omega
  |succ d ih=>
   intro z hz hb hv hlt
   rcases R.tree z hz hb with rfl|⟨e,h1,h2,h3,h4,h5⟩
   ·exact dead
   ·have hpn:nd T (par e)<n:=by have:=W.Tn (par e) (par_lt h1);unfold nd;omega
    exact(step z e h1 h2 h3 h5 hz (ih _ hpn h4 (by omega) (by omega))).2
 rcases R.tree (n-1) (by omega) hs with h|⟨e,h1,h2,h3,h4,h5⟩
 ·omega
 ·have hpn:nd T (par e)<n:=by have:=W.Tn (par e) (par_lt h1);unfold nd;omega
  have hv:=(R.vn (nd T (par e))).2.2 h4;exact(step (n-1) e h1 h2 h3 h5 (by omega) (key (V.getD (nd T (par e)) 0).toNat _ hpn h4 (by omega) (by omega))).1 rfl
inductive Phase (n:Nat) (E:List (List Int)) (T V:List Int) (big:Int):Nat→List Int→List Int→Int→List Int→Int→Prop
 |stop {k L X s L' X'}:PushL n E T V k 0 big L X 0 L' X'→Phase n E T V big (k+1) L X s L' s
 |more {k L X s r L1 X1 L' s'}:PushL n E T V k 0 big L X r L1 X1→0<r→0≤s→s+r≤1000000000000→Phase n E T V big k L1 X1 (s+r) L' s'→Phase n E T V big (k+1) L X s L' s'
inductive Run (n:Nat) (E:List (List Int)) (T:List Int) (φ:List Bool→List Int→List Int) (big:Int):Nat→List Int→Int→List Int→Int→Prop
 |stop {k L s B V}:Bfs E T L k (B0 n) (List.replicate n 0) [0] B V→B[n-1]?=some false→Run n E T φ big (k+1) L s L s
 |more {k L s B V L1 s1 L' s'}:Bfs E T L k (B0 n) (List.replicate n 0) [0] B V→B[n-1]?=some true→0≤V.getD (n-1) 0→(∀(z:Nat) (a:Int),(φ B V)[z]?=some a→ -1≤a∧a≤1000000)→(φ B V).length=n→Phase n E T (φ B V) big k L (List.replicate n 0) s L1 s1→Run n E T φ big k L1 s1 L' s'→Run n E T φ big (k+1) L s L' s'
theorem b0_last {n:Nat} (h:2≤n):(B0 n)[n-1]?=some false:=by
 unfold B0
 rw[List.getElem?_set,if_neg (by omega),List.getElem?_replicate,if_pos (by omega)]
theorem bfs_some {n k:Nat} (hn:2≤n) {E:List (List Int)} {T L:List Int} {B:List Bool} {V:List Int} (h:Bfs E T L k (B0 n) (List.replicate n 0) [0] B V) (hb:B[n-1]?=some true):T.length≠0∧L.length≠0:=by
 have no: ¬(T=[]∨L=[]):=fun he=>by
  rw[bfs_empty h he,b0_last hn]at hb;cases hb
 exact⟨fun h0=>no (.inl (List.eq_nil_of_length_eq_zero h0)),fun h0=>no (.inr (List.eq_nil_of_length_eq_zero h0))⟩
def S0 (z:Nat):Bool:=decide (z=0)
theorem resid_nn {L:List Int} (F:Fl m C L) (S:Nat→Bool):0≤resid T L S (2*m):=by
 refine sumR_nn _ (fun e he=>?_)
 split
 ·exact F.nn e he
 ·exact Int.le_refl _
theorem phase_ex (W:WF n m E T) {V:List Int} (hV:V.length=n) (hC:C≤2000000000) (N:Int) (hN: ∀(y:Nat) (b:Int),V[y]?=some b→b≤N) {big:Int} (hbig:0<big): ∀(d:Nat) (L X:List Int) (s:Int),resid T L S0 (2*m)≤d→0≤s→s+resid T L S0 (2*m)≤1000000000000→X.length=n→(∀z,z<n→ ∃i:Nat,X[z]?=some (i:Int))→Fl m C L→
  ∃k0 L' s',(∀k,k0≤k→Phase n E T V big k L X s L' s')∧Fl m C L'∧s≤s'∧(∀S:Nat→Bool,S 0=true→S (n-1)=false→resid T L' S (2*m)=resid T L S (2*m)-(s'-s))∧(X=List.replicate n 0→ ∀B,Reached n m T L B V→isB B (n-1)=true→s<s'):=by
 have h2:=W.two;have hx:(0:Nat)≠n-1:=by omega
 have s0:S0 0=true:=rfl;have s1:S0 (n-1)=false:=by unfold S0;exact decide_eq_false (fun h=>hx h.symm)
 intro d
 induction d with
 |zero=>
  intro L X s hd hs0 hsd hXl hX F;obtain⟨row,hrow⟩: ∃row,E[0]?=some row:=⟨_,List.getElem?_eq_getElem (by rw[W.El];omega)⟩;obtain⟨i,hi⟩:=hX 0 (by omega);obtain⟨k0,r,L',X',hp⟩:=push_ex W hV hC N hN (N-V.getD 0 0+1).toNat 0 (V.getD 0 0) (gG (by omega)) (by have:=hN 0 _ (gG (by omega));omega) row.length big L X row i hrow hi (by omega) hXl hX F hbig hx;obtain⟨F',r0,rm,hS,hz⟩:=push_does W (hp k0 (Nat.le_refl _)) hx F hbig;have e1:=hS S0 s1;rw[if_pos s0]at e1
  have:=resid_nn F' (T:=T) S0
  obtain rfl:r=0:=by omega
  have eL:=hz rfl;subst eL;refine⟨k0+1,L',s,fun k hk=>?_,F,Int.le_refl _,fun S _ _=>by omega,fun eX B R hb=>?_⟩
  ·obtain⟨k,rfl⟩: ∃q,k=q+1:=⟨k-1,by omega⟩;exact .stop (hp k (by omega))
  ·subst eX
   have:=first_push W F R hb hbig (hp k0 (Nat.le_refl _));omega
 |succ d ih=>
  intro L X s hd hs0 hsd hXl hX F;obtain⟨row,hrow⟩: ∃row,E[0]?=some row:=⟨_,List.getElem?_eq_getElem (by rw[W.El];omega)⟩;obtain⟨i,hi⟩:=hX 0 (by omega);obtain⟨k0,r,L',X',hp⟩:=push_ex W hV hC N hN (N-V.getD 0 0+1).toNat 0 (V.getD 0 0) (gG (by omega)) (by have:=hN 0 _ (gG (by omega));omega) row.length big L X row i hrow hi (by omega) hXl hX F hbig hx;obtain⟨F',r0,rm,hS,hz⟩:=push_does W (hp k0 (Nat.le_refl _)) hx F hbig;have xi:=push_x (hp k0 (Nat.le_refl _)) hx;have e1:=hS S0 s1;rw[if_pos s0]at e1;have nn':=resid_nn F' (T:=T) S0
  by_cases hr:r=0
  ·subst hr;have eL:=hz rfl;subst eL;refine⟨k0+1,L',s,fun k hk=>?_,F,Int.le_refl _,fun S _ _=>by omega,fun eX B R hb=>?_⟩
   ·obtain⟨k,rfl⟩: ∃q,k=q+1:=⟨k-1,by omega⟩;exact .stop (hp k (by omega))
   ·subst eX
    have:=first_push W F R hb hbig (hp k0 (Nat.le_refl _));omega
  ·obtain⟨k1,L2,s2,hph,F2,hs2,hS2,_⟩:=ih L' X' (s+r) (by omega) (by omega) (by omega) (by rw[xi.1];exact hXl) (fun z hz=>by
     obtain⟨i,hi⟩:=hX z hz;obtain⟨i',hi',_⟩:=xi.2.1 z i hi;exact⟨i',hi'⟩) F'
   refine⟨max k0 k1+1,L2,s2,fun k hk=>?_,F2,by omega,fun S a b=>?_,fun _ _ _ _=>by omega⟩
   ·obtain⟨k,rfl⟩: ∃q,k=q+1:=⟨k-1,by omega⟩;exact .more (hp k (by omega)) (by omega) hs0 (by omega) (hph k (by omega))
   ·rw[hS2 S a b,hS S b,if_pos a];omega
theorem run_ex (W:WF n m E T) (hn:n≤1000000) (hC:C≤2000000000) {φ:List Bool→List Int→List Int} (hφ: ∀L B V,Reached n m T L B V→Reached n m T L B (φ B V)) {big:Int} (hbig:0<big): ∀(d:Nat) (L:List Int) (s:Int),resid T L S0 (2*m)≤d→0≤s→s+resid T L S0 (2*m)≤1000000000000→Fl m C L→
  ∃k0 L' s',(∀k,k0≤k→Run n E T φ big k L s L' s')∧Fl m C L'∧(∀S:Nat→Bool,S 0=true→S (n-1)=false→resid T L' S (2*m)=resid T L S (2*m)-(s'-s))∧ ∃B V,(∀k,n+1≤k→Bfs E T L' k (B0 n) (List.replicate n 0) [0] B V)∧Reached n m T L' B V∧isB B (n-1)=false:=by
 have h2:=W.two;have hx:(0:Nat)≠n-1:=by omega
 have s0:S0 0=true:=rfl;have s1:S0 (n-1)=false:=by unfold S0;exact decide_eq_false (fun h=>hx h.symm)
 intro d
 induction d with
 |zero=>
  intro L s hd hs0 hsd F;obtain⟨B,V,hB,R⟩:=bfs_start W hn F;cases hb:isB B (n-1)with
  |false=>
   refine⟨n+2,L,s,fun k hk=>?_,F,fun S _ _=>by omega,B,V,hB,R,hb⟩;obtain⟨k,rfl⟩: ∃q,k=q+1:=⟨k-1,by omega⟩;exact .stop (hB k (by omega)) (by rw[bG (by rw[R.Bl];omega),hb])
  |true=>
   obtain⟨k1,L1,s1',hp,F1,hs1,hS,hlt⟩:=phase_ex W (hφ L B V R).Vl hC n (fun y b h=>by have:=(hφ L B V R).vn y;rw[(gO h).1]at this;exact this.2.1) hbig 0 L (List.replicate n 0) s hd hs0 (by omega) (by simp) (fun z hz=>⟨0,by simp[hz]⟩) F;have a:=hS S0 s0 s1;have b:=resid_nn F1 (T:=T) S0
   have:=hlt rfl B (hφ L B V R) hb
   omega
 |succ d ih=>
  intro L s hd hs0 hsd F;obtain⟨B,V,hB,R⟩:=bfs_start W hn F;cases hb:isB B (n-1)with
  |false=>
   refine⟨n+2,L,s,fun k hk=>?_,F,fun S _ _=>by omega,B,V,hB,R,hb⟩;obtain⟨k,rfl⟩: ∃q,k=q+1:=⟨k-1,by omega⟩;exact .stop (hB k (by omega)) (by rw[bG (by rw[R.Bl];omega),hb])
  |true=>
   obtain⟨k1,L1,s1',hp,F1,hs1,hS,hlt⟩:=phase_ex W (hφ L B V R).Vl hC n (fun y b h=>by have:=(hφ L B V R).vn y;rw[(gO h).1]at this;exact this.2.1) hbig (d+1) L (List.replicate n 0) s hd hs0 (by omega) (by simp) (fun z hz=>⟨0,by simp[hz]⟩) F;have a:=hS S0 s0 s1;have b:=resid_nn F1 (T:=T) S0;have l:=hlt rfl B (hφ L B V R) hb;obtain⟨k2,L2,s2,hr,F2,hS2,hfin⟩:=ih L1 s1' (by omega) (by omega) (by omega) F1;refine⟨max (max k1 k2) (n+1)+1,L2,s2,fun k hk=>?_,F2,fun S g1 g2=>?_,hfin⟩
   ·obtain⟨k,rfl⟩: ∃q,k=q+1:=⟨k-1,by omega⟩;exact .more (hB k (by omega)) (by rw[bG (by rw[R.Bl];omega),hb]) ((R.vn _).2.2 hb) (fun z a h=>by have:=(hφ L B V R).vn z;rw[(gO h).1]at this;omega) (hφ L B V R).Vl (hp k (by omega)) (hr k (by omega))
   ·rw[hS2 S g1 g2,hS S g1 g2];omega
structure LeastCut (n m:Nat) (T L:List Int) (B:Nat→Bool):Prop where
 src:B 0=true
 snk:B (n-1)=false
 min: ∀S:Nat→Bool,S 0=true→S (n-1)=false→resid T L B (2*m)≤resid T L S (2*m)
 low: ∀S:Nat→Bool,S 0=true→S (n-1)=false→resid T L S (2*m)≤resid T L B (2*m)→ ∀z,z<n→B z=true→S z=true
theorem run_cut (W:WF n m E T) (hn:n≤1000000) (hC:C≤2000000000) {φ:List Bool→List Int→List Int} (hφ: ∀L B V,Reached n m T L B V→Reached n m T L B (φ B V)) {big:Int} (hbig:0<big) {L:List Int} (F:Fl m C L) (hcap:resid T L S0 (2*m)≤1000000000000):
  ∃k0 L' s' B V,(∀k,k0≤k→Run n E T φ big k L 0 L' s'∧Bfs E T L' k (B0 n) (List.replicate n 0) [0] B V)∧Fl m C L'∧Reached n m T L' B V∧0≤s'∧resid T L (isB B) (2*m)=s'∧LeastCut n m T L (isB B):=by
 have hnn:=resid_nn F (T:=T) S0;obtain⟨k0,L',s',hr,F',hS,B,V,hB,R,hb⟩:=run_ex W hn hC hφ hbig (resid T L S0 (2*m)).toNat L 0 (by omega) (Int.le_refl _) (by omega) F;have z:resid T L' (isB B) (2*m)=0:=by
  unfold resid
  rw[sumR_congr (g:=fun _=>0) _ (fun e he=>?_)]
  ·exact sumR_0 _
  ·split
   ·rename_i hc
    unfold cross at hc
    rw[Bool.and_eq_true,Bool.not_eq_true']at hc;refine Decidable.byContradiction fun hne=>?_
    have:=F'.nn e he
    have:=R.closed e he hc.1 (by omega)
    rw[hc.2]at this;cases this
   ·rfl
 have zB:=hS (isB B) R.b0 hb;refine⟨max k0 (n+1),L',s',B,V,fun k hk=>⟨hr k (by omega),hB k (by omega)⟩,F',R,?_,by omega,R.b0,hb,fun S a b=>?_,fun S a b h=>?_⟩
 ·have:=resid_nn F (T:=T) (isB B);omega
 ·have:=hS S a b
  have:=resid_nn F' (T:=T) S
  omega
 ·have e:=hS S a b;have nn:=resid_nn F' (T:=T) S;have zero:resid T L' S (2*m)=0:=by omega
  refine R.least W a (fun e he hs hp=>?_);have q:=sumR_zero _ (fun i hi=>by
   split
   ·exact F'.nn i hi
   ·exact Int.le_refl _) zero e he
  refine Decidable.byContradiction fun hne=>?_
  have hc:cross T S e=true:=by unfold cross;rw[hs,bf' hne];rfl
  rw[if_pos hc]at q;omega
end
theorem snoc_ind {α:Type} {P:List α→Prop} (h0:P []) (h: ∀l a,P l→P (l++[a])) (l:List α):P l:=by
 have key: ∀r:List α,P r.reverse:=by
  intro r
  induction r with
  |nil=>exact h0
  |cons a r ih=>rw[List.reverse_cons];exact h _ _ ih
 have:=key l.reverse
 rwa [List.reverse_reverse]at this
abbrev Ed:=Int×Int×Int
def netT (l:List Ed):List Int:=l.flatMap fun e=>[e.2.1,e.1]
def netL (l:List Ed):List Int:=l.flatMap fun e=>[e.2.2,0]
def addE (E:List (List Int)) (x:Nat) (e:Int):List (List Int):=E.set x (E.getD x []++[e])
def netE (n:Nat) (l:List Ed):List (List Int):=(l.foldl (fun(s:List (List Int)×Nat) e=>(addE (addE s.1 e.1.toNat ((2*s.2:Nat):Int)) e.2.1.toNat ((2*s.2+1:Nat):Int),s.2+1)) (List.replicate n [],0)).1
theorem netT_snoc (l:List Ed) (e:Ed):netT (l++[e])=netT l++[e.2.1,e.1]:=by simp[netT]
theorem netL_snoc (l:List Ed) (e:Ed):netL (l++[e])=netL l++[e.2.2,0]:=by simp[netL]
theorem net_idx (n:Nat) (l:List Ed):(l.foldl (fun(s:List (List Int)×Nat) e=>(addE (addE s.1 e.1.toNat ((2*s.2:Nat):Int)) e.2.1.toNat ((2*s.2+1:Nat):Int),s.2+1)) (List.replicate n [],0)).2=l.length:=by
 induction l using snoc_ind with
 |h0=>rfl
 |h l a ih=>rw[List.foldl_append];simp only[List.foldl_cons,List.foldl_nil,List.length_append,List.length_singleton,ih]
theorem netE_snoc (n:Nat) (l:List Ed) (e:Ed):netE n (l++[e])=addE (addE (netE n l) e.1.toNat ((2*l.length:Nat):Int)) e.2.1.toNat ((2*l.length+1:Nat):Int):=by
 unfold netE
 rw[List.foldl_append];simp only[List.foldl_cons,List.foldl_nil];rw[net_idx]
theorem netT_len (l:List Ed):(netT l).length=2*l.length:=by
 induction l using snoc_ind with
 |h0=>rfl
 |h l a ih=>rw[netT_snoc,List.length_append,ih];simp;omega
theorem netL_len (l:List Ed):(netL l).length=2*l.length:=by
 induction l using snoc_ind with
 |h0=>rfl
 |h l a ih=>rw[netL_snoc,List.length_append,ih];simp;omega
theorem addE_len (E:List (List Int)) (x:Nat) (e:Int):(addE E x e).length=E.length:=by simp[addE]
theorem netE_len (n:Nat) (l:List Ed):(netE n l).length=n:=by
 induction l using snoc_ind with
 |h0=>simp[netE]
 |h l a ih=>rw[netE_snoc,addE_len,addE_len,ih]
def edOk (n:Nat) (C:Int) (e:Ed):Prop:=0≤e.1∧e.1<n∧0≤e.2.1∧e.2.1<n∧0≤e.2.2∧e.2.2≤C
theorem app2 {L:List Int} {a b:Int} {M:Nat} (h:L.length=2*M) (j:Nat):(L++[a,b]).getD j 0=if j<2*M then L.getD j 0 else if j=2*M then a else if j=2*M+1 then b else 0:=by
 rw[List.getD_eq_getElem?_getD,List.getElem?_append]
 by_cases c:j<L.length
 ·rw[if_pos c,if_pos (by omega),List.getD_eq_getElem?_getD]
 ·rw[if_neg c,if_neg (by omega)]
  by_cases c1:j=2*M
  ·rw[if_pos c1,show j-L.length=0 by omega];rfl
  ·rw[if_neg c1]
   by_cases c2:j=2*M+1
   ·rw[if_pos c2,show j-L.length=1 by omega];rfl
   ·rw[if_neg c2,List.getElem?_eq_none (by simp;omega)];rfl
theorem addE_row {E:List (List Int)} {x z:Nat} {e a:Int} {row:List Int} (h:(addE E x e)[z]?=some row) (ha:a∈row):(∃row',E[z]?=some row'∧a∈row')∨(z=x∧a=e):=by
 unfold addE at h
 rw[List.getElem?_set]at h
 by_cases c:x=z
 ·subst c;rw[if_pos rfl]at h
  split at h
  ·rename_i hl
   injection h with h;subst h
   rcases List.mem_append.1 ha with q|q
   ·refine .inl ⟨_,List.getElem?_eq_getElem hl,?_⟩
    rwa [List.getD_eq_getElem?_getD,List.getElem?_eq_getElem hl]at q
   ·exact .inr ⟨rfl,by simpa using q⟩
  ·cases h
 ·rw[if_neg c]at h;exact .inl ⟨row,h,ha⟩
theorem addE_old {E:List (List Int)} {x z:Nat} {e a:Int} {row:List Int} (h:E[z]?=some row) (ha:a∈row): ∃row',(addE E x e)[z]?=some row'∧a∈row':=by
 unfold addE
 rw[List.getElem?_set];have hz:=(List.getElem?_eq_some_iff.1 h).1
 by_cases c:x=z
 ·subst c;rw[if_pos rfl,if_pos hz];refine⟨_,rfl,List.mem_append_left _ ?_⟩;rw[List.getD_eq_getElem?_getD,h];exact ha
 ·rw[if_neg c];exact⟨row,h,ha⟩
theorem addE_new {E:List (List Int)} {x:Nat} {e:Int} (h:x<E.length): ∃row',(addE E x e)[x]?=some row'∧e∈row':=by
 unfold addE
 rw[List.getElem?_set,if_pos rfl,if_pos h];exact⟨_,rfl,List.mem_append_right _ (List.mem_singleton.2 rfl)⟩
theorem nd_app2 {l:List Ed} {e:Ed} (j:Nat):nd (netT (l++[e])) j=if j<2*l.length then nd (netT l) j else if j=2*l.length then e.2.1.toNat else if j=2*l.length+1 then e.1.toNat else 0:=by
 unfold nd
 rw[netT_snoc,app2 (netT_len l)]
 split
 ·rfl
 ·split
  ·rfl
  ·split<;>rfl
theorem par_two (k:Nat):par (2*k)=2*k+1:=by unfold par;rw[if_pos (by omega)]
theorem par_two1 (k:Nat):par (2*k+1)=2*k:=by unfold par;rw[if_neg (by omega)];omega
theorem net_wf {n:Nat} {C:Int} (hn:2≤n) (l:List Ed):(∀e∈l,edOk n C e)→WF n l.length (netE n l) (netT l)∧Fl l.length C (netL l):=by
 induction l using snoc_ind with
 |h0=>exact fun _=>⟨⟨hn,by simp[netE],rfl,fun e he=>by simp at he,(fun x row hx e he=>by
   rw[show netE n []=List.replicate n []from rfl,List.getElem?_replicate]at hx
   split at hx
   ·injection hx with hx;subst hx;cases he
   ·cases hx),fun e he=>by simp at he⟩,⟨rfl,fun e he=>by simp at he,fun e he=>by simp at he⟩⟩
 |h l a ih=>
  intro h;obtain⟨W,F⟩:=ih fun e he=>h e (List.mem_append_left _ he)
  obtain⟨a1,a2,a3,a4,a5,a6⟩:=h a (List.mem_append_right _ (List.mem_singleton.2 rfl));have hl:(l++[a]).length=l.length+1:=by simp
  have pr: ∀e,e<2*(l.length+1)→(e<2*l.length∧par e<2*l.length)∨(e=2*l.length∧par e=2*l.length+1)∨(e=2*l.length+1∧par e=2*l.length):=fun e he=>by
   by_cases c:e<2*l.length
   ·exact .inl ⟨c,par_lt c⟩
   ·by_cases c2:e=2*l.length
    ·exact .inr (.inl ⟨c2,by rw[c2,par_two]⟩)
    ·obtain rfl:e=2*l.length+1:=by omega
     exact .inr (.inr ⟨rfl,par_two1 _⟩)
  rw[hl];refine⟨⟨hn,netE_len n _,by rw[netT_len,hl],fun e he=>?_,fun x row hx e he=>?_,fun e he=>?_⟩,⟨by rw[netL_len,hl],fun e he=>?_,fun e he=>?_⟩⟩
  ·rw[netT_snoc,app2 (netT_len l)]
   split
   ·exact W.Tn e ‹_›
   ·split
    ·exact⟨a3,a4⟩
    ·rw[if_pos (by omega)];exact⟨a1,a2⟩
  ·rw[netE_snoc]at hx
   rcases addE_row hx he with⟨row1,h1,he1⟩|⟨q1,q2⟩
   ·rcases addE_row h1 he1 with⟨row2,h2,he2⟩|⟨q1,q2⟩
    ·obtain⟨e',g1,g2,g3⟩:=W.row x row2 h2 e he2;exact⟨e',g1,by omega,by rw[nd_app2,if_pos (par_lt g2)];exact g3⟩
    ·refine⟨2*l.length,q2,by omega,?_⟩;rw[par_two,nd_app2,if_neg (by omega),if_neg (by omega),if_pos rfl,q1]
   ·refine⟨2*l.length+1,q2,by omega,?_⟩;rw[par_two1,nd_app2,if_neg (by omega),if_pos rfl,q1]
  ·rw[netE_snoc,nd_app2]
   rcases pr e he with⟨c,d⟩|⟨c,d⟩|⟨c,d⟩
   ·rw[if_pos d];obtain⟨row,h1,h2⟩:=W.all e c;obtain⟨row1,h3,h4⟩:=addE_old (x:=a.1.toNat) (e:=((2*l.length:Nat):Int)) h1 h2;exact addE_old h3 h4
   ·rw[d,if_neg (by omega),if_neg (by omega),if_pos rfl,c];obtain⟨row1,h3,h4⟩:=addE_new (E:=netE n l) (x:=a.1.toNat) (e:=((2*l.length:Nat):Int)) (by rw[netE_len];omega);exact addE_old h3 h4
   ·rw[d,if_neg (by omega),if_pos rfl,c];exact addE_new (by rw[addE_len,netE_len];omega)
  ·rw[netL_snoc,app2 (netL_len l)]
   split
   ·exact F.nn e ‹_›
   ·split
    ·exact a5
    ·split<;>exact Int.le_refl _
  ·rw[netL_snoc,app2 (netL_len l),app2 (netL_len l)]
   rcases pr e he with⟨c,d⟩|⟨c,d⟩|⟨c,d⟩
   ·rw[if_pos c,if_pos d];exact F.le e c
   ·rw[d,if_neg (by omega),if_pos c,if_neg (by omega),if_neg (by omega),if_pos rfl];omega
   ·rw[d,if_neg (by omega),if_neg (by omega),if_pos c,if_neg (by omega),if_pos rfl];omega
def capL (S:Nat→Bool):List Ed→Int
 |[]=>0
 |e::l=>(if(S e.1.toNat && !S e.2.1.toNat)=true then e.2.2 else 0)+capL S l
theorem capL_append (S:Nat→Bool) (a b:List Ed):capL S (a++b)=capL S a+capL S b:=by
 induction a with
 |nil=>simp[capL]
 |cons x a ih=>rw[List.cons_append,capL,capL,ih];omega
theorem resid_net (S:Nat→Bool) (l:List Ed):resid (netT l) (netL l) S (2*l.length)=capL S l:=by
 induction l using snoc_ind with
 |h0=>rfl
 |h l a ih=>
  rw[capL_append,←ih];have hl:2*(l++[a]).length=2*l.length+1+1:=by simp;omega
  unfold resid
  rw[hl,sumR,sumR];have e0:sumR (fun e=>if cross (netT (l++[a])) S e=true then(netL (l++[a])).getD e 0 else 0) (2*l.length)=sumR (fun e=>if cross (netT l) S e=true then(netL l).getD e 0 else 0) (2*l.length):=sumR_congr _ fun e he=>by
   unfold cross
   rw[nd_app2,nd_app2,if_pos (par_lt he),if_pos he,netL_snoc,app2 (netL_len l),if_pos he]
  rw[e0]
  unfold cross
  rw[par_two,par_two1];simp only[nd_app2,netL_snoc,app2 (netL_len l)];have d1:(2*l.length+1<2*l.length)=False:=eq_false (by omega);have d2:(2*l.length+1=2*l.length)=False:=eq_false (by omega);have d3:(2*l.length<2*l.length)=False:=eq_false (by omega);have d4:(2*l.length=2*l.length+1)=False:=eq_false (by omega);simp only[d1,d2,d3,d4,if_true,if_false,ite_self,capL]
  split<;>omega
def edgesAt (N:Nat) (i:Nat) (v:Int) (l:List Int):List Ed:=
 (if 0<v then [(0,(i:Int)+1,v)]else [])++(if v<0 then [((i:Int)+1,(N:Int)+1,-v)]else [])++l.map fun k=>((i:Int)+1,k+1,1000000000)
def edgesTo (arcs:List (List Int)) (v:List Int):Nat→List Ed
 |0=>[]
 |i+1=>edgesTo arcs v i++edgesAt arcs.length i (v.getD i 0) (arcs.getD i [])
def sumV (v:List Int) (C:Nat→Bool) (n:Nat):Int:=sumR (fun i=>if C i=true then v.getD i 0 else 0) n
def posV (v:List Int) (n:Nat):Int:=sumR (fun i=>if 0<v.getD i 0 then v.getD i 0 else 0) n
def Closed (arcs:List (List Int)) (C:Nat→Bool):Prop:= ∀i,i<arcs.length→C i=true→ ∀k∈arcs.getD i [],C k.toNat=true
def Arcs (arcs:List (List Int)):Prop:= ∀i,i<arcs.length→ ∀k∈arcs.getD i [],0≤k∧k<(i:Int)
structure Best (arcs:List (List Int)) (v:List Int) (C:Nat→Bool):Prop where
 closed:Closed arcs C
 most: ∀D,Closed arcs D→sumV v D arcs.length≤sumV v C arcs.length
 low: ∀D,Closed arcs D→sumV v C arcs.length≤sumV v D arcs.length→ ∀i,i<arcs.length→C i=true→D i=true
theorem Best.uniq {arcs:List (List Int)} {v:List Int} {C D:Nat→Bool} (h:Best arcs v C) (h':Best arcs v D) (i:Nat) (hi:i<arcs.length):C i=D i:=by
 rw[Bool.eq_iff_iff];exact⟨h.low D h'.closed (h'.most C h.closed) i hi,h'.low C h.closed (h.most D h'.closed) i hi⟩
def inC (S:Nat→Bool) (i:Nat):Bool:=S (i+1)
def cutC (C:Nat→Bool) (N:Nat) (z:Nat):Bool:=if z=0 then true else if z≤N then C (z-1)else false
theorem capL_arcs (S:Nat→Bool) (i:Nat): ∀(l:List Int),(∀k∈l,0≤k)→0≤capL S (l.map fun k=>((i:Int)+1,k+1,1000000000))∧
  ((inC S i=true→ ∀k∈l,inC S k.toNat=true)→capL S (l.map fun k=>((i:Int)+1,k+1,1000000000))=0)∧
  (inC S i=true→(∃k∈l,inC S k.toNat=false)→1000000000≤capL S (l.map fun k=>((i:Int)+1,k+1,1000000000)))
 |[],_=>⟨Int.le_refl _,fun _=>rfl,fun _ ⟨k,h,_⟩=>by cases h⟩
 |k::l,hl=>by
  obtain⟨h1,h2,h3⟩:=capL_arcs S i l fun k hk=>hl k (List.mem_cons_of_mem _ hk)
  have hk:=hl k (List.mem_cons_self ..);have e1:((i:Int)+1).toNat=i+1:=by omega
  have e2:(k+1).toNat=k.toNat+1:=by omega
  rw[List.map_cons,capL];simp only[e1,e2];have f1:S (i+1)=inC S i:=rfl;have f2:S (k.toNat+1)=inC S k.toNat:=rfl;rw[f1,f2];refine⟨by split<;>omega,fun h=>?_,fun hi ⟨a,ha,hb⟩=>?_⟩
  ·rw[h2 (fun hi a ha=>h hi a (List.mem_cons_of_mem _ ha))];cases hi:inC S i with
   |false=>rfl
   |true=>rw[h hi k (List.mem_cons_self ..)];rfl
  ·rcases List.mem_cons.1 ha with rfl|ha
   ·rw[hi,hb]
    show 1000000000≤(1000000000:Int)+_
    omega
   ·have:=h3 hi ⟨a,ha,hb⟩
    split<;>omega
theorem capL_at (S:Nat→Bool) (N i:Nat) (v:Int) (l:List Int) (h0:S 0=true) (hN:S (N+1)=false):
  capL S (edgesAt N i v l)=((if 0<v then v else 0)-(if inC S i=true then v else 0))+capL S (l.map fun k=>((i:Int)+1,k+1,1000000000)):=by
 unfold edgesAt
 rw[capL_append,capL_append];have e1:((i:Int)+1).toNat=i+1:=by omega
 have e2:((N:Int)+1).toNat=N+1:=by omega
 have f1:S (i+1)=inC S i:=rfl
 congr 1
 by_cases c1:0<v
 ·rw[if_pos c1,if_neg (by omega),if_pos c1];simp only[capL,e1,f1,Int.toNat_zero,h0];cases inC S i<;>simp
 ·rw[if_neg c1,if_neg c1]
  by_cases c2:v<0
  ·rw[if_pos c2];simp only[capL,e1,e2,f1,hN];cases inC S i<;>simp
  ·rw[if_neg c2];simp only[capL]
   split<;>omega
theorem capL_edges (S:Nat→Bool) (arcs:List (List Int)) (v:List Int) (hA:Arcs arcs) (h0:S 0=true) (hN:S (arcs.length+1)=false): ∀n,n≤arcs.length→
  posV v n-sumV v (inC S) n≤capL S (edgesTo arcs v n)∧
  ((∀i,i<n→inC S i=true→ ∀k∈arcs.getD i [],inC S k.toNat=true)→capL S (edgesTo arcs v n)=posV v n-sumV v (inC S) n)∧
  ((∃i,i<n∧inC S i=true∧ ∃k∈arcs.getD i [],inC S k.toNat=false)→posV v n-sumV v (inC S) n+1000000000≤capL S (edgesTo arcs v n))
 |0,_=>⟨Int.le_refl _,fun _=>rfl,fun⟨i,h,_⟩=>by omega⟩
 |n+1,hn=>by
  obtain⟨h1,h2,h3⟩:=capL_edges S arcs v hA h0 hN n (by omega);have hl:=fun k hk=>(hA n (by omega) k hk).1
  obtain⟨g1,g2,g3⟩:=capL_arcs S n (arcs.getD n []) hl;have e:=capL_at S arcs.length n (v.getD n 0) (arcs.getD n []) h0 hN;have p:posV v (n+1)=posV v n+(if 0<v.getD n 0 then v.getD n 0 else 0):=rfl;have q:sumV v (inC S) (n+1)=sumV v (inC S) n+(if inC S n=true then v.getD n 0 else 0):=rfl;rw[edgesTo,capL_append,e,p,q];refine⟨by omega,fun h=>?_,fun⟨i,hi,hb,k,hk,hc⟩=>?_⟩
  ·rw[h2 (fun i hi=>h i (by omega)),g2 (h n (by omega))];omega
  ·by_cases c:i=n
   ·subst c
    have:=g3 hb ⟨k,hk,hc⟩
    omega
   ·have:=h3 ⟨i,by omega,hb,k,hk,hc⟩
    omega
theorem sumV_le_pos (v:List Int) (C:Nat→Bool): ∀n,sumV v C n≤posV v n
 |0=>Int.le_refl _
 |n+1=>by
  have ih:=sumV_le_pos v C n;have p:posV v (n+1)=posV v n+(if 0<v.getD n 0 then v.getD n 0 else 0):=rfl;have q:sumV v C (n+1)=sumV v C n+(if C n=true then v.getD n 0 else 0):=rfl;rw[p,q]
  split<;>split<;>omega
theorem sumV_congr {v:List Int} {C D:Nat→Bool} {n:Nat} (h: ∀i,i<n→C i=D i):sumV v C n=sumV v D n:=sumR_congr n fun i hi=>by rw[h i hi]
theorem best_of_cut {arcs:List (List Int)} {v:List Int} (hA:Arcs arcs) (hP:posV v arcs.length<1000000000) {B:Nat→Bool}
  (h:LeastCut (arcs.length+2) (edgesTo arcs v arcs.length).length (netT (edgesTo arcs v arcs.length)) (netL (edgesTo arcs v arcs.length)) B):Best arcs v (inC B):=by
 have snk:B (arcs.length+1)=false:=h.snk;have cutE: ∀S:Nat→Bool,resid (netT (edgesTo arcs v arcs.length)) (netL (edgesTo arcs v arcs.length)) S (2*(edgesTo arcs v arcs.length).length)=capL S (edgesTo arcs v arcs.length):=fun S=>resid_net S _
 have c0: ∀D,cutC D arcs.length 0=true:=fun _=>rfl
 have cN: ∀D,cutC D arcs.length (arcs.length+1)=false:=fun D=>by unfold cutC;rw[if_neg (by omega),if_neg (by omega)]
 have cI: ∀D i,i<arcs.length→inC (cutC D arcs.length) i=D i:=fun D i hi=>by unfold inC cutC;rw[if_neg (by omega),if_pos (by omega),Nat.add_sub_cancel]
 have capD: ∀D,Closed arcs D→capL (cutC D arcs.length) (edgesTo arcs v arcs.length)=posV v arcs.length-sumV v D arcs.length:=fun D hD=>by
  rw[(capL_edges _ arcs v hA (c0 D) (cN D) _ (Nat.le_refl _)).2.1,sumV_congr (cI D)];intro i hi hb k hk;have hk':=hA i hi k hk;rw[cI D i hi]at hb;rw[cI D _ (by omega)];exact hD i hi hb k hk
 obtain⟨b1,b2,b3⟩:=capL_edges B arcs v hA h.src snk _ (Nat.le_refl _);have le: ∀D,Closed arcs D→capL B (edgesTo arcs v arcs.length)≤posV v arcs.length-sumV v D arcs.length:=fun D hD=>by
  have:=h.min (cutC D arcs.length) (c0 D) (cN D)
  rw[cutE,cutE,capD D hD]at this;exact this
 have hcl:Closed arcs (inC B):=by
  intro i hi hb k hk;refine Decidable.byContradiction fun hc=>?_
  have a:=b3 ⟨i,hi,hb,k,hk,bf' hc⟩;have b:=le (fun _=>false) (fun i _ h=>by cases h);have c:=sumV_le_pos v (inC B) arcs.length;have e:sumV v (fun _=>false) arcs.length=0:=sumR_0 _
  omega
 have eB:=b2 hcl;refine⟨hcl,fun D hD=>?_,fun D hD hle i hi hb=>?_⟩
 ·have:=le D hD;omega
 ·have:=h.low (cutC D arcs.length) (c0 D) (cN D) (by rw[cutE,cutE,capD D hD];omega) (i+1) (by omega) hb
  rw[←cI D i hi];exact this
end Go.Proofs.Ytlkppimbbbdmbaa.Flow
set_option linter.unusedVariables false
namespace Go.Proofs.Ytlkppimbbbdmbaa.Flow
def allB:Nat→List (List Bool)
 |0=>[[]]
 |n+1=>(allB n).flatMap fun c=>[false::c,true::c]
theorem mem_allB: ∀c:List Bool,c∈allB c.length
 |[]=>by simp[allB]
 |b::c=>by
  have:=mem_allB c
  show b::c∈(allB c.length).flatMap _
  rw[List.mem_flatMap];exact⟨c,this,by cases b<;>simp⟩
theorem allB_len: ∀n c,c∈allB n→c.length=n
 |0,c,h=>by simp[allB]at h;rw[h];rfl
 |n+1,c,h=>by
  rw[allB,List.mem_flatMap]at h;obtain⟨d,hd,hc⟩:=h
  have:=allB_len n d hd
  simp at hc
  rcases hc with rfl|rfl<;>simp[this]
def mkB (D:Nat→Bool) (n:Nat):List Bool:=(List.range n).map D
theorem mkB_len (D:Nat→Bool) (n:Nat):(mkB D n).length=n:=by simp[mkB]
theorem isB_mkB {D:Nat→Bool} {n i:Nat} (h:i<n):isB (mkB D n) i=D i:=by
 unfold isB mkB
 rw[List.getD_eq_getElem?_getD,List.getElem?_map,List.getElem?_range h];rfl
def closedB (arcs:List (List Int)) (c:List Bool):Bool:=(List.range arcs.length).all fun i=>!isB c i||(arcs.getD i []).all fun k=>isB c k.toNat
theorem closedB_iff {arcs:List (List Int)} {c:List Bool}:closedB arcs c=true↔Closed arcs (isB c):=by
 unfold closedB Closed
 rw[List.all_eq_true]
 constructor
 ·intro h i hi hc k hk
  have:=h i (List.mem_range.2 hi)
  rw[hc]at this;simp only[Bool.not_true,Bool.false_or,List.all_eq_true]at this;exact this k hk
 ·intro h i hi;cases hc:isB c i
  ·rfl
  ·simp only[Bool.not_true,Bool.false_or,List.all_eq_true];exact fun k hk=>h i (List.mem_range.1 hi) hc k hk
theorem Closed.congr {arcs:List (List Int)} (hA:Arcs arcs) {C D:Nat→Bool} (h:Closed arcs C) (e: ∀i,i<arcs.length→C i=D i):Closed arcs D:=by
 intro i hi hD k hk;have hk':=hA i hi k hk;rw[←e _ (by omega)];exact h i hi (by rw[e i hi];exact hD) k hk
theorem Best.congr {arcs:List (List Int)} {v:List Int} (hA:Arcs arcs) {C D:Nat→Bool} (h:Best arcs v C) (e: ∀i,i<arcs.length→C i=D i):Best arcs v D:=by
 have s:sumV v C arcs.length=sumV v D arcs.length:=sumV_congr e;exact⟨h.closed.congr hA e,fun X hX=>by rw[←s];exact h.most X hX,fun X hX hle i hi hD=>h.low X hX (by rw[s];exact hle) i hi (by rw[e i hi];exact hD)⟩
def okB (arcs:List (List Int)) (v:List Int) (c:List Bool):Bool:=
 closedB arcs c && (allB arcs.length).all fun d=>!closedB arcs d||(decide (sumV v (isB d) arcs.length≤sumV v (isB c) arcs.length)&& (decide (sumV v (isB d) arcs.length<sumV v (isB c) arcs.length)||(List.range arcs.length).all fun i=>!isB c i||isB d i))
theorem okB_iff {arcs:List (List Int)} {v:List Int} {c:List Bool} (hA:Arcs arcs):okB arcs v c=true↔Best arcs v (isB c):=by
 unfold okB
 rw[Bool.and_eq_true,closedB_iff,List.all_eq_true]
 constructor
 ·rintro⟨h1,h2⟩;have key: ∀D,Closed arcs D→sumV v D arcs.length≤sumV v (isB c) arcs.length∧(sumV v D arcs.length<sumV v (isB c) arcs.length∨ ∀i,i<arcs.length→isB c i=true→D i=true):=by
   intro D hD;have e: ∀i,i<arcs.length→D i=isB (mkB D arcs.length) i:=fun i hi=>(isB_mkB hi).symm
   have m:=mem_allB (mkB D arcs.length);rw[mkB_len]at m
   have:=h2 _ m
   rw[closedB_iff.2 (hD.congr hA e),Bool.not_true,Bool.false_or,Bool.and_eq_true,Bool.or_eq_true,decide_eq_true_eq,decide_eq_true_eq,List.all_eq_true,←sumV_congr e]at this;refine⟨this.1,this.2.imp id fun h i hi hc=>?_⟩;have q:=h i (List.mem_range.2 hi);rw[hc,Bool.not_true,Bool.false_or,←e i hi]at q;exact q
  exact⟨h1,fun D hD=>(key D hD).1,fun D hD hle i hi hc=>by
   rcases(key D hD).2 with h|h
   ·omega
   ·exact h i hi hc⟩
 ·intro h;refine⟨h.closed,fun d _=>?_⟩;cases hd:closedB arcs d
  ·rfl
  ·rw[Bool.not_true,Bool.false_or,Bool.and_eq_true,Bool.or_eq_true,decide_eq_true_eq,decide_eq_true_eq,List.all_eq_true];have hD:=closedB_iff.1 hd;refine⟨h.most _ hD,?_⟩
   by_cases hl:sumV v (isB d) arcs.length<sumV v (isB c) arcs.length
   ·exact .inl hl
   ·refine .inr fun i hi=>?_
    cases hc:isB c i
    ·rfl
    ·rw[h.low _ hD (by omega) i (List.mem_range.1 hi) hc];rfl
def bestB (arcs:List (List Int)) (v:List Int):List Bool:=((allB arcs.length).find? (okB arcs v)).getD (List.replicate arcs.length false)
theorem bestB_len (arcs:List (List Int)) (v:List Int):(bestB arcs v).length=arcs.length:=by
 unfold bestB
 rcases h:(allB arcs.length).find? (okB arcs v)with _|c
 ·simp
 ·exact allB_len _ _ (List.mem_of_find?_eq_some h)
theorem bestB_best {arcs:List (List Int)} {v:List Int} (hA:Arcs arcs) {C:Nat→Bool} (h:Best arcs v C):Best arcs v (isB (bestB arcs v)):=by
 have e: ∀i,i<arcs.length→C i=isB (mkB C arcs.length) i:=fun i hi=>(isB_mkB hi).symm
 have h2:=(okB_iff hA).2 (h.congr hA e);have m:=mem_allB (mkB C arcs.length);rw[mkB_len]at m
 unfold bestB
 rcases hf:(allB arcs.length).find? (okB arcs v)with _|c
 ·exact absurd h2 (by simpa using List.find?_eq_none.1 hf _ m)
 ·exact(okB_iff hA).1 (List.find?_some hf)
theorem bestB_is {arcs:List (List Int)} {v:List Int} (hA:Arcs arcs) {C:Nat→Bool} (h:Best arcs v C) {i:Nat} (hi:i<arcs.length):isB (bestB arcs v) i=C i:=(bestB_best hA h).uniq h i hi
structure Fit (arcs:List (List Int)) (v:List Int):Prop where
 n:arcs.length≤120
 vl:v.length=arcs.length
 rows: ∀i,i<arcs.length→(arcs.getD i []).length≤120
 arcs:Arcs arcs
 vals: ∀x∈v,-1000000000≤x∧x≤1000000
def fitB (arcs:List (List Int)) (v:List Int):Bool:=
 decide (arcs.length≤120)&& (decide (v.length=arcs.length)&& (((List.range arcs.length).all fun i=>decide ((arcs.getD i []).length≤120)&& (arcs.getD i []).all fun k=>decide (0≤k)&& decide (k<(i:Int)))&& v.all fun x=>decide (-1000000000≤x)&& decide (x≤1000000)))
theorem fitB_iff {arcs:List (List Int)} {v:List Int}:fitB arcs v=true↔Fit arcs v:=by
 unfold fitB
 simp only[Bool.and_eq_true,List.all_eq_true,decide_eq_true_eq,List.mem_range];exact⟨fun⟨h1,h2,h3,h4⟩=>⟨h1,h2,fun i hi=>(h3 i hi).1,fun i hi k hk=>(h3 i hi).2 k hk,h4⟩,fun h=>⟨h.n,h.vl,fun i hi=>⟨h.rows i hi,fun k hk=>h.arcs i hi k hk⟩,h.vals⟩⟩
section
variable {arcs:List (List Int)} {v:List Int}
theorem Fit.at_ (F:Fit arcs v) (i:Nat): -1000000000≤v.getD i 0∧v.getD i 0≤1000000:=by
 rw[List.getD_eq_getElem?_getD]
 rcases h:v[i]? with _|x
 ·exact⟨by show(-1000000000:Int)≤0;omega,by show(0:Int)≤1000000;omega⟩
 ·exact F.vals x (List.mem_of_getElem? h)
theorem Fit.pos (F:Fit arcs v): ∀n:Nat,posV v n≤1000000*(n:Int)
 |0=>Int.le_refl _
 |n+1=>by
  have ih:=Fit.pos F n;have p:posV v (n+1)=posV v n+(if 0<v.getD n 0 then v.getD n 0 else 0):=rfl
  have:=(F.at_ n).2
  rw[p]
  split<;>omega
theorem Fit.edges (F:Fit arcs v): ∀n,n≤arcs.length→ ∀e∈edgesTo arcs v n,edOk (arcs.length+2) 1000000000 e
 |0,_=>fun e he=>by cases he
 |n+1,hn=>by
  intro e he;rw[edgesTo,List.mem_append]at he
  rcases he with he|he
  ·exact Fit.edges F n (by omega) e he
  ·have hv:=F.at_ n
   unfold edgesAt at he
   rw[List.mem_append,List.mem_append,List.mem_map]at he
   rcases he with(he|he)|⟨k,hk,rfl⟩
   ·split at he
    ·rw[List.mem_singleton]at he;subst he
     unfold edOk;simp only;omega
    ·cases he
   ·split at he
    ·rw[List.mem_singleton]at he;subst he
     unfold edOk;simp only;omega
    ·cases he
   ·have:=F.arcs n (by omega) k hk
    unfold edOk;simp only;omega
theorem Fit.count (F:Fit arcs v): ∀n,n≤arcs.length→(edgesTo arcs v n).length≤121*n
 |0,_=>Nat.le_refl _
 |n+1,hn=>by
  have ih:=Fit.count F n (by omega)
  have:=F.rows n (by omega)
  rw[edgesTo,List.length_append];have:(edgesAt arcs.length n (v.getD n 0) (arcs.getD n [])).length≤121:=by
   unfold edgesAt
   rw[List.length_append,List.length_append,List.length_map]
   split<;>split<;>simp only[List.length_cons,List.length_nil]<;>omega
  omega
def netOf (arcs:List (List Int)) (v:List Int):List Ed:=edgesTo arcs v arcs.length
theorem Fit.net (F:Fit arcs v):WF (arcs.length+2) (netOf arcs v).length (netE (arcs.length+2) (netOf arcs v)) (netT (netOf arcs v))∧Fl (netOf arcs v).length 1000000000 (netL (netOf arcs v)):=
 net_wf (by omega) _ (F.edges _ (Nat.le_refl _))
theorem Fit.big (F:Fit arcs v):(netOf arcs v).length≤14520:=by have:=F.count _ (Nat.le_refl _);have:=F.n;unfold netOf;omega
theorem Fit.cap (F:Fit arcs v):resid (netT (netOf arcs v)) (netL (netOf arcs v)) S0 (2*(netOf arcs v).length)≤1000000000000:=by
 rw[resid_net];have h0: ∀i,inC S0 i=false:=fun i=>by unfold inC S0;exact decide_eq_false (by omega)
 have:=(capL_edges S0 arcs v F.arcs rfl (by unfold S0;exact decide_eq_false (by omega)) _ (Nat.le_refl _)).2.1 (fun i _ h=>by rw[h0]at h;cases h)
 unfold netOf
 rw[this];have e:sumV v (inC S0) arcs.length=0:=by rw[sumV_congr (D:=fun _=>false) (fun i _=>h0 i)];exact sumR_0 _
 have:=F.pos arcs.length
 have:=F.n
 omega
theorem Fit.best (F:Fit arcs v) {B:Nat→Bool} (h:LeastCut (arcs.length+2) (netOf arcs v).length (netT (netOf arcs v)) (netL (netOf arcs v)) B):Best arcs v (inC B):=
 best_of_cut F.arcs (by have:=F.pos arcs.length;have:=F.n;omega) h
theorem Fit.reach (F:Fit arcs v) {φ:List Bool→List Int→List Int} (hφ: ∀L B V,Reached (arcs.length+2) (netOf arcs v).length (netT (netOf arcs v)) L B V→Reached (arcs.length+2) (netOf arcs v).length (netT (netOf arcs v)) L B (φ B V)) {big:Int} (hbig:0<big):
  ∃k L' s' B V,Run (arcs.length+2) (netE (arcs.length+2) (netOf arcs v)) (netT (netOf arcs v)) φ big k (netL (netOf arcs v)) 0 L' s'∧Bfs (netE (arcs.length+2) (netOf arcs v)) (netT (netOf arcs v)) L' k (B0 (arcs.length+2)) (List.replicate (arcs.length+2) 0) [0] B V∧
   Reached (arcs.length+2) (netOf arcs v).length (netT (netOf arcs v)) L' B V∧isB B 0=true∧isB B (arcs.length+1)=false∧(∀i,i<arcs.length→isB B (i+1)=isB (bestB arcs v) i)∧Best arcs v (isB (bestB arcs v))∧LeastCut (arcs.length+2) (netOf arcs v).length (netT (netOf arcs v)) (netL (netOf arcs v)) (isB B)∧resid (netT (netOf arcs v)) (netL (netOf arcs v)) (isB B) (2*(netOf arcs v).length)=s':=by
 obtain⟨k,L',s',B,V,h,_,h2,_,h4,h5⟩:=run_cut F.net.1 (by have:=F.n;omega) (by omega) hφ hbig F.net.2 F.cap;have hb:=F.best h5;exact⟨k,L',s',B,V,(h k (Nat.le_refl _)).1,(h k (Nat.le_refl _)).2,h2,h5.src,h5.snk,fun i hi=>(bestB_is F.arcs hb hi).symm,bestB_best F.arcs hb,h5,h4⟩
end
def blk (s:Nat→Bool) (n:Nat):List Nat:=(List.range n).filter s
def rk (s:Nat→Bool) (n:Nat):Nat:=(blk s n).length
theorem blk_succ (s:Nat→Bool) (n:Nat):blk s (n+1)=blk s n++(if s n=true then [n]else []):=by
 unfold blk
 rw[List.range_succ,List.filter_append]
 congr 1
 cases h:s n<;>simp[h]
theorem rk_succ (s:Nat→Bool) (n:Nat):rk s (n+1)=rk s n+(if s n=true then 1 else 0):=by
 unfold rk
 rw[blk_succ,List.length_append]
 split<;>rfl
theorem rk_mono (s:Nat→Bool) {a b:Nat} (h:a≤b):rk s a≤rk s b:=by
 induction b with
 |zero=>rw[show a=0 by omega];exact Nat.le_refl _
 |succ b ih=>
  by_cases c:a≤b
  ·have:=ih c;rw[rk_succ];omega
  ·rw[show a=b+1 by omega];exact Nat.le_refl _
theorem rk_lt (s:Nat→Bool) {a b:Nat} (h:a<b) (ha:s a=true):rk s a<rk s b:=by
 have:=rk_mono s (show a+1≤b from h)
 rw[rk_succ,if_pos ha]at this
 omega
theorem rk_le (s:Nat→Bool) (n:Nat):rk s n≤n:=by
 unfold rk blk
 have:=List.length_filter_le s (List.range n)
 rwa [List.length_range]at this
theorem blk_nth (s:Nat→Bool): ∀ {n i:Nat},i<n→s i=true→(blk s n)[rk s i]?=some i
 |0,_,h,_=>by omega
 |n+1,i,h,hi=>by
  rw[blk_succ]
  by_cases c:i<n
  ·rw[List.getElem?_append_left (rk_lt s c hi)];exact blk_nth s c hi
  ·have e:i=n:=by omega
   subst e;rw[if_pos hi]
   show(blk s i++[i])[(blk s i).length]?=some i
   rw[List.getElem?_append_right (Nat.le_refl _),Nat.sub_self];rfl
theorem blk_at (s:Nat→Bool): ∀ {n j:Nat},j<rk s n→ ∃i,i<n∧s i=true∧rk s i=j
 |0,j,h=>by unfold rk blk at h;simp at h
 |n+1,j,h=>by
  by_cases c:j<rk s n
  ·obtain⟨i,h1,h2,h3⟩:=blk_at s c;exact⟨i,by omega,h2,h3⟩
  ·rw[rk_succ]at h
   split at h
   ·rename_i hn;exact⟨n,by omega,hn,by omega⟩
   ·omega
def subV (v:List Int) (s:Nat→Bool) (n:Nat):List Int:=(blk s n).map fun i=>v.getD i 0
def subRow (l:List Int) (s:Nat→Bool):List Int:=(l.filter fun k=>s k.toNat).map fun k=>((rk s k.toNat:Nat):Int)
def subA (arcs:List (List Int)) (s:Nat→Bool) (n:Nat):List (List Int):=(blk s n).map fun i=>subRow (arcs.getD i []) s
def lift (s:Nat→Bool) (D:Nat→Bool) (i:Nat):Bool:=s i && D (rk s i)
theorem subA_len (arcs:List (List Int)) (s:Nat→Bool) (n:Nat):(subA arcs s n).length=rk s n:=by unfold subA rk;rw[List.length_map]
theorem subV_len (v:List Int) (s:Nat→Bool) (n:Nat):(subV v s n).length=rk s n:=by unfold subV rk;rw[List.length_map]
theorem subA_at {arcs:List (List Int)} {s:Nat→Bool} {n i:Nat} (h:i<n) (hi:s i=true):(subA arcs s n).getD (rk s i) []=subRow (arcs.getD i []) s:=by
 unfold subA
 rw[List.getD_eq_getElem?_getD,List.getElem?_map,blk_nth s h hi];rfl
theorem subV_succ (v:List Int) (s:Nat→Bool) (n:Nat):subV v s (n+1)=subV v s n++(if s n=true then [v.getD n 0]else []):=by
 unfold subV
 rw[blk_succ,List.map_append]
 split<;>rfl
theorem sub_sum (v:List Int) (s:Nat→Bool) (D:Nat→Bool): ∀n,sumV (subV v s n) D (rk s n)=sumV v (lift s D) n
 |0=>rfl
 |n+1=>by
  have ih:=sub_sum v s D n;have q:sumV v (lift s D) (n+1)=sumV v (lift s D) n+(if lift s D n=true then v.getD n 0 else 0):=rfl;have pre: ∀x:List Int,sumV (subV v s n++x) D (rk s n)=sumV (subV v s n) D (rk s n):=fun x=>by
   unfold sumV
   refine sumR_congr _ fun i hi=>?_
   rw[List.getD_eq_getElem?_getD,List.getElem?_append_left (by rw[subV_len];exact hi),←List.getD_eq_getElem?_getD]
  rw[q,rk_succ,subV_succ]
  by_cases c:s n=true
  ·rw[if_pos c,if_pos c];have p:sumV (subV v s n++[v.getD n 0]) D (rk s n+1)=sumV (subV v s n++[v.getD n 0]) D (rk s n)+(if D (rk s n)=true then(subV v s n++[v.getD n 0]).getD (rk s n) 0 else 0):=rfl;have g:(subV v s n++[v.getD n 0]).getD (rk s n) 0=v.getD n 0:=by
    rw[List.getD_eq_getElem?_getD,List.getElem?_append_right (by rw[subV_len];exact Nat.le_refl _),subV_len,Nat.sub_self];rfl
   rw[p,pre,ih,g]
   unfold lift
   rw[c,Bool.true_and]
  ·rw[if_neg c,if_neg c,Nat.add_zero,pre,ih]
   unfold lift
   rw[bf' c,Bool.false_and,if_neg (by simp),Int.add_zero]
def ClosedIn (arcs:List (List Int)) (s C:Nat→Bool):Prop:= ∀i,i<arcs.length→s i=true→C i=true→ ∀k∈arcs.getD i [],s k.toNat=true→C k.toNat=true
theorem sub_arcs {arcs:List (List Int)} (hA:Arcs arcs) (s:Nat→Bool):Arcs (subA arcs s arcs.length):=by
 intro j hj k hk;rw[subA_len]at hj;obtain⟨i,h1,h2,rfl⟩:=blk_at s hj;rw[subA_at h1 h2]at hk
 unfold subRow at hk
 rw[List.mem_map]at hk;obtain⟨a,ha,rfl⟩:=hk;rw[List.mem_filter]at ha
 have:=hA i h1 a ha.1
 have:=rk_lt s (show a.toNat<i by omega) ha.2
 omega
theorem lift_in {arcs:List (List Int)} (hA:Arcs arcs) {s D:Nat→Bool} (h:Closed (subA arcs s arcs.length) D):ClosedIn arcs s (lift s D):=by
 intro i hi hs hc k hk hsk
 unfold lift at hc⊢
 rw[hs,Bool.true_and]at hc;rw[hsk,Bool.true_and];have hk':=hA i hi k hk
 have:=h (rk s i) (by rw[subA_len];exact rk_lt s hi hs) hc ((rk s k.toNat:Nat):Int) (by
  rw[subA_at hi hs]
  unfold subRow
  rw[List.mem_map];exact⟨k,List.mem_filter.2 ⟨hk,hsk⟩,rfl⟩)
 rwa [Int.toNat_natCast]at this
def down (s X:Nat→Bool) (n j:Nat):Bool:=match(blk s n)[j]? with|some i=>X i|none=>false
theorem down_at {s X:Nat→Bool} {n i:Nat} (h:i<n) (hi:s i=true):down s X n (rk s i)=X i:=by unfold down;rw[blk_nth s h hi]
theorem down_closed {arcs:List (List Int)} (hA:Arcs arcs) {s X:Nat→Bool} (h:ClosedIn arcs s X):Closed (subA arcs s arcs.length) (down s X arcs.length):=by
 intro j hj hc k hk;rw[subA_len]at hj;obtain⟨i,h1,h2,rfl⟩:=blk_at s hj;rw[subA_at h1 h2]at hk;rw[down_at h1 h2]at hc
 unfold subRow at hk
 rw[List.mem_map]at hk;obtain⟨a,ha,rfl⟩:=hk;rw[List.mem_filter]at ha;have ha':=hA i h1 a ha.1;rw[Int.toNat_natCast,down_at (by omega) ha.2];exact h i h1 h2 hc a ha.1 ha.2
structure BestIn (arcs:List (List Int)) (v:List Int) (s C:Nat→Bool):Prop where
 sub: ∀i,C i=true→s i=true
 closed:ClosedIn arcs s C
 most: ∀X,ClosedIn arcs s X→sumV v (fun i=>s i && X i) arcs.length≤sumV v C arcs.length
 low: ∀X,ClosedIn arcs s X→sumV v C arcs.length≤sumV v (fun i=>s i && X i) arcs.length→ ∀i,i<arcs.length→C i=true→X i=true
theorem best_in {arcs:List (List Int)} {v:List Int} (hA:Arcs arcs) {s D:Nat→Bool} (h:Best (subA arcs s arcs.length) (subV v s arcs.length) D):BestIn arcs v s (lift s D):=by
 have sd: ∀X,sumV (subV v s arcs.length) (down s X arcs.length) (rk s arcs.length)=sumV v (fun i=>s i && X i) arcs.length:=fun X=>by
  rw[sub_sum];refine sumV_congr fun i hi=>?_
  unfold lift
  cases hs:s i
  ·rfl
  ·rw[down_at hi hs]
 have sl:=sub_sum v s D arcs.length;refine⟨fun i hi=>?_,lift_in hA h.closed,fun X hX=>?_,fun X hX hle i hi hc=>?_⟩
 ·unfold lift at hi;rw[Bool.and_eq_true]at hi;exact hi.1
 ·have:=h.most _ (down_closed hA hX)
  rw[subA_len,sd,sl]at this;exact this
 ·unfold lift at hc
  rw[Bool.and_eq_true]at hc
  have:=h.low _ (down_closed hA hX) (by rw[subA_len,sd,sl];exact hle) (rk s i) (by rw[subA_len];exact rk_lt s hi hc.1) hc.2
  rwa [down_at hi hc.1]at this
theorem sumV_mono {v:List Int} {C:Nat→Bool} {w:List Int}: ∀n:Nat,(∀i,i<n→C i=true→v.getD i 0=w.getD i 0)→sumV v C n=sumV w C n
 |0,_=>rfl
 |n+1,h=>by
  have p:sumV v C (n+1)=sumV v C n+(if C n=true then v.getD n 0 else 0):=rfl;have q:sumV w C (n+1)=sumV w C n+(if C n=true then w.getD n 0 else 0):=rfl;rw[p,q,sumV_mono n fun i hi=>h i (by omega)]
  split
  ·rename_i hc;rw[h n (by omega) hc]
  ·rfl
theorem sumV_out {v:List Int} {C:Nat→Bool} {i:Nat} (hc:C i=true): ∀n:Nat,i<n→sumV v C n≤posV v n+v.getD i 0-(if 0<v.getD i 0 then v.getD i 0 else 0)
 |0,h=>by omega
 |n+1,h=>by
  have p:sumV v C (n+1)=sumV v C n+(if C n=true then v.getD n 0 else 0):=rfl;have q:posV v (n+1)=posV v n+(if 0<v.getD n 0 then v.getD n 0 else 0):=rfl;rw[p,q]
  by_cases c:i=n
  ·subst c
   have:=sumV_le_pos v C i
   rw[if_pos hc]
   omega
  ·have:=sumV_out (v:=v) hc n (by omega)
   split<;>split<;>omega
theorem best_inside {arcs:List (List Int)} {v w:List Int} (hA:Arcs arcs) {s C:Nat→Bool} (hs:Closed arcs s) (hv: ∀i,i<arcs.length→w.getD i 0=if s i=true then v.getD i 0 else-1000000000) (hP:posV w arcs.length<1000000000) (h:Best arcs w C) {D:Nat→Bool} (hD:BestIn arcs v s D) (i:Nat) (hi:i<arcs.length):C i=D i:=by
 have hsub: ∀i,i<arcs.length→C i=true→s i=true:=fun i hi hc=>by
  refine Decidable.byContradiction fun hn=>?_
  have a:=h.most (fun _=>false) (fun i _ h=>by cases h);have e:sumV w (fun _=>false) arcs.length=0:=sumR_0 _;have b:=sumV_out (v:=w) hc arcs.length hi;have c:=hv i hi;rw[if_neg hn]at c;rw[c]at b;rw[if_neg (by omega)]at b
  omega
 have sw: ∀X:Nat→Bool,(∀i,i<arcs.length→X i=true→s i=true)→sumV w X arcs.length=sumV v X arcs.length:=fun X hX=>sumV_mono _ fun i hi hx=>by rw[hv i hi,if_pos (hX i hi hx)]
 have and_: ∀X:Nat→Bool,(∀i,i<arcs.length→X i=true→s i=true)→sumV v (fun i=>s i && X i) arcs.length=sumV v X arcs.length:=fun X hX=>sumV_congr fun i hi=>by
  cases hc:X i
  ·exact Bool.and_false _
  ·rw[hX i hi hc];rfl
 have cin:ClosedIn arcs s C:=fun i hi _ hc k hk _=>h.closed i hi hc k hk
 have dcl:Closed arcs D:=fun i hi hc k hk=>hD.closed i hi (hD.sub i hc) hc k hk (hs i hi (hD.sub i hc) k hk)
 have dsub: ∀i,i<arcs.length→D i=true→s i=true:=fun i _=>hD.sub i
 have a:=h.most D dcl;have b:=hD.most C cin;rw[sw D dsub,sw C hsub]at a;rw[and_ C hsub]at b;rw[Bool.eq_iff_iff];refine⟨h.low D dcl (by rw[sw D dsub,sw C hsub];exact b) i hi,hD.low C cin (by rw[and_ C hsub];exact a) i hi⟩
theorem best_forced {arcs:List (List Int)} {v w:List Int} (hA:Arcs arcs) {f s C:Nat→Bool} (hf:Closed arcs f) (hs: ∀i,s i=!f i) (hv: ∀i,i<arcs.length→w.getD i 0=if f i=true then 0 else v.getD i 0) (h:Best arcs w C) {D:Nat→Bool} (hD:BestIn arcs v s D) (i:Nat) (hi:i<arcs.length):(C i||f i)=(D i||f i):=by
 have sw: ∀X:Nat→Bool,sumV w X arcs.length=sumV v (fun i=>s i && X i) arcs.length:=fun X=>by
  unfold sumV
  refine sumR_congr _ fun i hi=>?_
  show(if X i=true then w.getD i 0 else 0)=(if(s i && X i)=true then v.getD i 0 else 0)
  rw[hv i hi,hs i];cases f i<;>cases X i<;>rfl
 have cin:ClosedIn arcs s C:=fun i hi _ hc k hk _=>h.closed i hi hc k hk
 have dcl:Closed arcs (fun i=>D i||f i):=by
  intro i hi hc k hk;rw[Bool.or_eq_true]at hc⊢
  by_cases hfk:f k.toNat=true
  ·exact .inr hfk
  ·rcases hc with hc|hc
   ·exact .inl (hD.closed i hi (hD.sub i hc) hc k hk (by rw[hs,bf' hfk];rfl))
   ·exact .inr (hf i hi hc k hk)
 have e:sumV v (fun i=>s i && (D i||f i)) arcs.length=sumV v D arcs.length:=sumV_congr fun i hi=>by
  cases hd:D i
  ·show(s i && (false||f i))=false
   rw[hs i];cases f i<;>rfl
  ·show(s i && (true||f i))=true
   rw[hD.sub i hd];rfl
 have a:=h.most _ dcl;have b:=hD.most C cin;rw[sw,sw,e]at a;rw[Bool.eq_iff_iff,Bool.or_eq_true,Bool.or_eq_true]
 constructor
 ·rintro(hc|hc)
  ·have:=h.low _ dcl (by rw[sw,sw,e];exact b) i hi hc
   rwa [Bool.or_eq_true]at this
  ·exact .inr hc
 ·rintro(hc|hc)
  ·exact .inl (hD.low C cin a i hi hc)
  ·exact .inr hc
end Go.Proofs.Ytlkppimbbbdmbaa.Flow
