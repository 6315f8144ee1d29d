/- How the arguments of this seat's laws read: slices of whole numbers and slices of such slices, out of the row's own reading. -/
import Derived.WalkKit
import Derived.ProofKit
import Derived.OpenShut
import Derived.ShutString
import Derived.ChangeOld
import Derived.Below
import Derived.SizedLaws
import Derived.ChangeSlices
import Derived.Deep.Matrix
import Derived.Test.YtlkppimbbbdmbaaWSized
import Derived.Test.YtlkppimbbbdmbaaWMore
namespace Go.Proofs.Ytlkppimbbbdmbaa.Opn
open Go.ChangeShapes Go.WideShapes Go.ChangeAt Go.RowKit Go.Proofs.YtlkppimbbbdmbaaW.PrintWords Go.Deep
set_option linter.unusedVariables false
def okI (k:IntKind) (zs:List Int):Prop:= ∀n∈zs,(Lit.int k n).wf=true
section
variable {H:Type} {enc:TypeId×Value→H} {P:Program} {W:World}
theorem C_of_cells {α:Type} {d:Kd α} {A:Option Addr} {n:Nat} {xs:List α} (hs:d.sz=1) (hl:xs.length=n) (hn:n≤maxLen)
    (h:0<n→ ∃ad,A=some ad∧ ∀(j:Nat) (p:α),xs[j]?=some p→ ∃v,d.K W p [v]∧W.cell? (ad.add j)=some v):d.C W A n xs:=by
  refine⟨hl,by unfold maxLen at hn;omega,fun hp=>?_⟩
  obtain⟨ad,rfl,hc⟩:=h hp
  refine⟨ad,rfl,fun j p hj=>?_⟩
  obtain⟨v,hk,hv⟩:=hc j p hj
  refine⟨[v],by rw[hs];rfl,hk,fun i u hu=>?_⟩
  rw[hs,Nat.mul_one]
  cases i with
  |zero=>simp at hu;subst hu;exact hv
  |succ i=>simp at hu
theorem ints_cell {t e:TypeId} {k:IntKind} {fuel:Nat} {v:Value} {x:DataW H×List MemPlace} (hu:P.underlying t=some (.slice e)) (he:P.underlying e=some (.int k)) (hc:P.cellsOf e=1)
    (hf:DataW.trod enc P W 0 (fun _=>true) true fuel t [v]=some x):
    ∃(a:Option Addr) (len cap:Nat) (zs:List Int),v= .slice a len cap∧zs.length=len∧len≤cap∧len≤maxLen∧(Kd.int k).C W a len zs∧okI k zs:=by
  rcases open_ints hu he hc hf with⟨hcs,_⟩|⟨x,l,c,zs,hcs,_,hl,hm,hz,_,hcell,hwz⟩
  · have hv:v= .slice none 0 0:=by simpa using hcs
    exact⟨none,0,0,[],hv,rfl,Nat.le_refl _,by simp[maxLen],⟨rfl,by omega,fun h=>absurd h (by omega)⟩,fun n hn=>by cases hn⟩
  · have hv:v= .slice (some x) l c:=by simpa using hcs
    have hz':zs.length=c:=by simpa using hz
    refine⟨some x,l,c,zs.take l,hv,by rw[List.length_take];omega,hl,by omega,C_of_cells rfl (by rw[List.length_take];omega) (by omega) (fun hp=>⟨x,rfl,fun j p hj=>?_⟩),fun n hn=>hwz n (List.mem_of_mem_take hn)⟩
    have hjl:j<l:=by have:=(List.getElem?_eq_some_iff.1 hj).1;rw[List.length_take]at this;omega
    have hjv:zs.getD j 0=p:=by
      rw[List.getElem?_take]at hj;simp[hjl]at hj
      rw[List.getD_eq_getElem?_getD,hj];rfl
    exact⟨.int k p,rfl,by rw[←hjv];exact hcell j (by omega)⟩
theorem ints_open {t e:TypeId} {k:IntKind} {a:Option Addr} {len cap:Nat} {d:DataW H} {ps:List MemPlace} (hu:P.underlying t=some (.slice e)) (he:P.underlying e=some (.int k)) (hc:P.cellsOf e=1)
    (h:DataW.Trod enc P W 0 (fun _=>true) true t (.slice a len cap) d ps):
    ∃zs:List Int,zs.length=len∧len≤cap∧len≤maxLen∧(Kd.int k).C W a len zs∧okI k zs:=by
  obtain⟨fuel,hf⟩:=h
  obtain⟨a',len',cap',zs,hv,h⟩:=ints_cell (v:= .slice a len cap) hu he hc hf
  injection hv with e1 e2 e3
  subst e1;subst e2;subst e3
  exact⟨zs,h⟩
end
end Go.Proofs.Ytlkppimbbbdmbaa.Opn
