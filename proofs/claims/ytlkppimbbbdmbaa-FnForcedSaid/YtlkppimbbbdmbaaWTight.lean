-- Cut down by wip/trimw.py from the words that print.sh lays: only what this seat's texts name.
import Derived.Test.YtlkppimbbbdmbaaProg
import Derived.Below
import Derived.Deep.Draws
import Derived.Deep.AppendLies
import Derived.Maps.AppendAt
import Derived.OwnWalk
import Derived.Laws.BytesArg
import Derived.Laws.MakeOwn
import Derived.Laws.OwnMore
import Derived.Deep.OwnRows
import Derived.Tactics
import Derived.Lib.ConvBytes
import Derived.Laws.Slices
import Derived.WalkKit
import Derived.KernelRfl
import Derived.RowKit3
import Derived.Deep.LoopGhost
import Derived.Deep.QuietTactic
import Derived.BigQuiet
import Derived.WideLaws
import Derived.Deep.DeepCutAuto
import Derived.Deep.CutBlock
import Derived.Deep.RegionHeld3
import Derived.Laws.Rows
import Derived.Lib.AppendStr
import Derived.ArgAppend
import Derived.Laws.IdiomCopy
import Derived.OrdersHeld
import Derived.Laws.BitsLemmas
import Derived.RowKit
import Derived.Test.YtlkppimbbbdmbaaWWords
import Derived.Test.YtlkppimbbbdmbaaWLast
import Derived.Test.YtlkppimbbbdmbaaWTab
import Derived.Test.YtlkppimbbbdmbaaWFour
import Derived.Test.YtlkppimbbbdmbaaWQPut
import Derived.Test.YtlkppimbbbdmbaaWApart
import Derived.Test.YtlkppimbbbdmbaaWArr
import Derived.Test.YtlkppimbbbdmbaaWZeros
import Derived.Test.YtlkppimbbbdmbaaWFoot
import Derived.Test.YtlkppimbbbdmbaaWKept
import Derived.Test.YtlkppimbbbdmbaaWShare
import Derived.Test.YtlkppimbbbdmbaaWN
import Derived.Test.YtlkppimbbbdmbaaWFootNe
import Derived.Test.YtlkppimbbbdmbaaWAt
import Derived.Test.YtlkppimbbbdmbaaWEqStruct
import Derived.Test.YtlkppimbbbdmbaaWRepsOne
import Derived.Test.YtlkppimbbbdmbaaWInv
import Derived.Test.YtlkppimbbbdmbaaWInvWords
import Derived.Test.YtlkppimbbbdmbaaWGuard
import Derived.Test.YtlkppimbbbdmbaaWNEv
import Derived.Test.YtlkppimbbbdmbaaWMore
namespace Go.Proofs.YtlkppimbbbdmbaaW.PrintMore
open Go.RowKit Go.Proofs.YtlkppimbbbdmbaaW.PrintWords Go.Proofs.YtlkppimbbbdmbaaW.PrintLast
set_option linter.unusedVariables false
section
open Go
variable {α:Type} {d:Kd α} {e base n:Nat} {ok:Nat→Prop} {w w0 w1 W W1:World} {v u:Value} {xs:List α} {g g':Nat} {o:Obj} {A:Option Addr} {row:Option Nat} {p q:Prop}
theorem eqx (h:p:=by first|rfl|(simp;done)|(simp[*];done)):p:=h
theorem erx (h:p:=by first|rfl|(simp[errW_none,errW_some]<;>rfl)|(simp[*,errW_none,errW_some]<;>rfl)):p:=h
theorem nlx (h:p:=by first|exact Kd.R_nil _ _ _ _ _|exact Kd.N_nil _ _ _ _ _|exact Kd.V_nil _ _ _ _ _|exact Kd.Q_nil _ _ _ _ _|exact Kd.S_nil _ _ _ _ _):p:=h
theorem asx (h:p:=by first|(with_reducible assumption)|assumption):p:=h
theorem om2 {r:Prop} (a:Aside0 p) (b:Aside0 q) (h:p→q→r:=by intro a_ b_;omega):r:=h a.out b.out
theorem eB (h:p→q:=by intro h_;repeat(first|(with_reducible first|exact h_|apply below_alloc|apply pw_below_drewN|apply below_drew1|refine below_set ?_ (IsS68.ge HI0.out)|refine below_set ?_ (Aside0.out (by assumption)))|exact h_)):p→q:=h
theorem eK (h:p→q:=by intro h_;repeat(first|(with_reducible first|exact h_|apply KeepBut.set_|apply keep_drewN|apply keep_drew|apply keep_alloc|refine keep_far ?_ (Aside0.out (by assumption)) _)|exact h_)):p→q:=h
theorem eW (h:p→q:=by intro h_;(with_reducible repeat(first|refine blk_drewN ?_ _|refine blk_drew ?_|refine blk_alloc ?_ _));exact h_):p→q:=h
theorem eC (h:p→q:=by intro h_;repeat(first|exact h_|(with_reducible refine Kd.C_alloc ?_ _)|(with_reducible refine Kd.C_drewN ?_ _)|(with_reducible refine Kd.C_drew ?_))):p→q:=h
theorem cB (a:Aside0 (Below n w0 W)) (h:Below n w0 W→Below n w0 W1:=by exact eB):Below n w0 W1:=h a.out
theorem cK (a:Aside0 (KeepBut w0 W g row)) (h:KeepBut w0 W g row→KeepBut w0 W1 g row:=by exact eK):KeepBut w0 W1 g row:=h a.out
theorem cW (a:Aside0 (W.heap[g]?=some o)) (h:W.heap[g]?=some o→W1.heap[g]?=some o:=by exact eW):W1.heap[g]?=some o:=h a.out
theorem cC (a:Aside0 (Kd.C d W A n xs)) (h:Kd.C d W A n xs→Kd.C d W1 A n xs:=by exact eC):Kd.C d W1 A n xs:=h a.out
theorem cjx (h:p:=by intro k_ h_;first|(with_reducible exact h_)|trivial|(simp only[h_,ne_eq,not_false_eq_true,and_self];done)|(simp[h_,Value.ownBlock];done)):p:=h
theorem d0x (h:p:=by repeat(first|exact Drawn0.refl _|apply Drawn0.step)):p:=h
theorem omx (h:p:=by first|omega|exact Nat.le_refl _):p:=h
theorem cb_ (a:Aside0 (Kd.C d w A n xs)) (b:Aside0 (Below w0.heap.size w0 W)) (h:Kd.C d w A n xs→Below w0.heap.size w0 W→Kd.C d W1 A n xs:=by intro h_ b_;first|exact Kd.C_below h_ b_|(repeat(first|exact h_|(with_reducible refine Kd.C_alloc ?_ _)|(with_reducible refine Kd.C_drewN ?_ _)|(with_reducible refine Kd.C_drew ?_));done)|(refine Kd.C_below h_ ?_;revert b_;exact eB)):Kd.C d W1 A n xs:=h a.out b.out
theorem eR (h:p→q:=by intro h_;(with_reducible repeat(first|apply Kd.R_alloc|apply Kd.R_drewN|apply Kd.R_drew));exact h_):p→q:=h
theorem eS (h:p→q:=by intro h_;(with_reducible repeat(first|apply Kd.S_alloc|apply Kd.S_drewN|apply Kd.S_drew));exact h_):p→q:=h
theorem eN (h:p→q:=by intro h_;(with_reducible repeat(first|apply Kd.N_alloc|apply Kd.N_drewN|apply Kd.N_drew));exact h_):p→q:=h
theorem eQ (h:p→q:=by intro h_;(with_reducible repeat(first|apply Kd.Q_alloc|apply Kd.Q_drewN|apply Kd.Q_drew));exact h_):p→q:=h
theorem eV (h:p→q:=by intro h_;(with_reducible repeat(first|apply Kd.V_alloc|apply Kd.V_drewN|apply Kd.V_drew));exact h_):p→q:=h
theorem cR (a:Aside0 (Kd.R d e W base ok v xs)) (h:Kd.R d e W base ok v xs→Kd.R d e W1 base ok v xs:=by exact eR):Kd.R d e W1 base ok v xs:=h a.out
theorem mR (a:Aside0 (Kd.R d e W base ok v xs)) {ok':Nat→Prop} (h:Kd.R d e W base ok v xs→Kd.R d e W1 base ok v xs:=by exact eR) (m: ∀k,ok k→ok' k:=by exact cjx):Aside0 (Kd.R d e W1 base ok' v xs):=⟨Kd.R_mono (h a.out) m⟩
theorem rR {A:Option Addr} {n c:Nat} (a:Aside0 (Kd.R d e W base ok (.slice A n c) xs)) (h:Kd.C d W A xs.length xs→Kd.C d W1 A xs.length xs:=by exact eC):Kd.C d W1 A xs.length xs:=h (Kd.R_reads' a.out).2.2
theorem lR {A:Option Addr} {n c:Nat} (a:Aside0 (Kd.R d e W base ok (.slice A n c) xs)):n≤c:=(Kd.R_reads' a.out).2.1
theorem sR (a:Aside0 (Kd.R d e W base ok v xs)): ∃A c,v= .slice A xs.length c:=Kd.R_slice a.out
theorem eRr (ho:Kd.R d e W1 base ok v xs) {b':Nat} (hle:b'≤base):Aside0 (Kd.R d e W1 b' ok v xs):=⟨Kd.R_lower ho hle⟩
theorem aR (a:Aside0 (Kd.R d e W base ok v xs)) (hv: ∀k,u.ownBlock=some k→W1.heap.size≤k) (hb:Below W1.heap.size W1 w1) (h:Kd.R d e W base ok v xs→Kd.R d e W1 base ok v xs:=by exact eR):Aside0 (Kd.R d e w1 base (fun k=>ok k∧some k≠u.ownBlock) v xs):=⟨Kd.R_elder' (h a.out) hv hb⟩
theorem bR (a:Aside0 (Kd.R d e W base ok v xs)) (hb:Below W1.heap.size W1 w1) (h:Kd.R d e W base ok v xs→Kd.R d e W1 base ok v xs:=by exact eR):Aside0 (Kd.R d e w1 base ok v xs):=⟨Kd.R_below (h a.out) hb⟩
theorem nRR {β:Type} {d2:Kd β} {e2 base2:Nat} {ok2:Nat→Prop} {ys:List β} (ho:Kd.R d e w1 W1.heap.size ok v xs) (a:Aside0 (Kd.R d2 e2 W base2 ok2 u ys)) (h:Kd.R d2 e2 W base2 ok2 u ys→Kd.R d2 e2 W1 base2 ok2 u ys:=by exact eR):Kd.R d e w1 W1.heap.size (fun k=>ok k∧some k≠u.ownBlock) v xs:=Kd.R_new' ho (Kd.R_lt (h a.out))
theorem cS (a:Aside0 (Kd.S d e W base ok v xs)) (h:Kd.S d e W base ok v xs→Kd.S d e W1 base ok v xs:=by exact eS):Kd.S d e W1 base ok v xs:=h a.out
theorem mS (a:Aside0 (Kd.S d e W base ok v xs)) {ok':Nat→Prop} (h:Kd.S d e W base ok v xs→Kd.S d e W1 base ok v xs:=by exact eS) (m: ∀k,ok k→ok' k:=by exact cjx):Aside0 (Kd.S d e W1 base ok' v xs):=⟨Kd.S_mono (h a.out) m⟩
theorem rS {A:Option Addr} {n c:Nat} (a:Aside0 (Kd.S d e W base ok (.slice A n c) xs)) (h:Kd.C d W A xs.length xs→Kd.C d W1 A xs.length xs:=by exact eC):Kd.C d W1 A xs.length xs:=h (Kd.S_reads' a.out).2.2
theorem lS {A:Option Addr} {n c:Nat} (a:Aside0 (Kd.S d e W base ok (.slice A n c) xs)):n≤c:=(Kd.S_reads' a.out).2.1
theorem sS (a:Aside0 (Kd.S d e W base ok v xs)): ∃A c,v= .slice A xs.length c:=Kd.S_slice a.out
theorem eSr (ho:Kd.S d e W1 base ok v xs) {b':Nat} (hle:b'≤base):Aside0 (Kd.S d e W1 b' ok v xs):=⟨Kd.S_lower ho hle⟩
theorem aS (a:Aside0 (Kd.S d e W base ok v xs)) (hv: ∀k,u.ownBlock=some k→W1.heap.size≤k) (hb:Below W1.heap.size W1 w1) (h:Kd.S d e W base ok v xs→Kd.S d e W1 base ok v xs:=by exact eS):Aside0 (Kd.S d e w1 base (fun k=>ok k∧some k≠u.ownBlock) v xs):=⟨Kd.S_elder' (h a.out) hv hb⟩
theorem bS (a:Aside0 (Kd.S d e W base ok v xs)) (hb:Below W1.heap.size W1 w1) (h:Kd.S d e W base ok v xs→Kd.S d e W1 base ok v xs:=by exact eS):Aside0 (Kd.S d e w1 base ok v xs):=⟨Kd.S_below (h a.out) hb⟩
theorem nSR {β:Type} {d2:Kd β} {e2 base2:Nat} {ok2:Nat→Prop} {ys:List β} (ho:Kd.S d e w1 W1.heap.size ok v xs) (a:Aside0 (Kd.R d2 e2 W base2 ok2 u ys)) (h:Kd.R d2 e2 W base2 ok2 u ys→Kd.R d2 e2 W1 base2 ok2 u ys:=by exact eR):Kd.S d e w1 W1.heap.size (fun k=>ok k∧some k≠u.ownBlock) v xs:=Kd.S_new' ho (Kd.R_lt (h a.out))
theorem nSS {β:Type} {d2:Kd β} {e2 base2:Nat} {ok2:Nat→Prop} {ys:List β} (ho:Kd.S d e w1 W1.heap.size ok v xs) (a:Aside0 (Kd.S d2 e2 W base2 ok2 u ys)) (h:Kd.S d2 e2 W base2 ok2 u ys→Kd.S d2 e2 W1 base2 ok2 u ys:=by exact eS):Kd.S d e w1 W1.heap.size (fun k=>ok k∧some k≠u.ownBlock) v xs:=Kd.S_new' ho (Kd.S_lt (h a.out))
theorem cN (a:Aside0 (Kd.N d e W base ok v xs)) (h:Kd.N d e W base ok v xs→Kd.N d e W1 base ok v xs:=by exact eN):Kd.N d e W1 base ok v xs:=h a.out
theorem rN {A:Option Addr} {n c:Nat} (a:Aside0 (Kd.N d e W base ok (.slice A n c) xs)) (h:Kd.C d W A xs.length xs→Kd.C d W1 A xs.length xs:=by exact eC):Kd.C d W1 A xs.length xs:=h (Kd.N_reads' a.out).2.2
theorem lN {A:Option Addr} {n c:Nat} (a:Aside0 (Kd.N d e W base ok (.slice A n c) xs)):n≤c:=(Kd.N_reads' a.out).2.1
theorem sN (a:Aside0 (Kd.N d e W base ok v xs)): ∃A c,v= .slice A xs.length c:=Kd.N_slice a.out
theorem eNr (ho:Kd.N d e W1 base ok v xs) {b':Nat} (hle:b'≤base):Aside0 (Kd.N d e W1 b' ok v xs):=⟨Kd.N_lower ho hle⟩
theorem aN (a:Aside0 (Kd.N d e W base ok v xs)) (hv: ∀k,u.ownBlock=some k→W1.heap.size≤k) (hb:Below W1.heap.size W1 w1) (h:Kd.N d e W base ok v xs→Kd.N d e W1 base ok v xs:=by exact eN):Aside0 (Kd.N d e w1 base (fun k=>ok k∧some k≠u.ownBlock) v xs):=⟨Kd.N_elder' (h a.out) hv hb⟩
theorem cQ (a:Aside0 (Kd.Q d e W base ok v xs)) (h:Kd.Q d e W base ok v xs→Kd.Q d e W1 base ok v xs:=by exact eQ):Kd.Q d e W1 base ok v xs:=h a.out
theorem cV (a:Aside0 (Kd.V d e W base ok v xs)) (h:Kd.V d e W base ok v xs→Kd.V d e W1 base ok v xs:=by exact eV):Kd.V d e W1 base ok v xs:=h a.out
theorem rV {A:Option Addr} {n c:Nat} (a:Aside0 (Kd.V d e W base ok (.slice A n c) xs)) (h:Kd.C d W A xs.length xs→Kd.C d W1 A xs.length xs:=by exact eC):Kd.C d W1 A xs.length xs:=h (Kd.V_reads' a.out).2.2
theorem lV {A:Option Addr} {n c:Nat} (a:Aside0 (Kd.V d e W base ok (.slice A n c) xs)):n≤c:=(Kd.V_reads' a.out).2.1
theorem sV (a:Aside0 (Kd.V d e W base ok v xs)): ∃A c,v= .slice A xs.length c:=Kd.V_slice a.out
theorem kz (a:Aside0 (KeepBut w0 W g row)) (h:KeepBut w0 W g row→KeepBut w0 W1 g row:=by exact eK):w0.heap.size≤W1.heap.size:=keep_size (h a.out)
theorem bz (a:Aside0 (Below w0.heap.size w0 W)) (h:Below w0.heap.size w0 W→Below w0.heap.size w0 W1:=by exact eB):w0.heap.size≤W1.heap.size:=below_size (h a.out)
theorem nz {x:Option α} {r:α} (h:x=some r) (e:x=none:=by rfl):p:=by rw[e]at h;cases h
variable {i_:Decidable p}
theorem itn {x:Option α} {r:α} (h:(if p then x else none)=some r):p∧x=some r:=by
 by_cases c:p
 ·rw[if_pos c]at h;exact⟨c,h⟩
 ·rw[if_neg c]at h;exact absurd h (by simp)
theorem itd {x:Option α} {r:α} (h:(if p then x else none)=some r):decide p=true∧x=some r:=⟨decide_eq_true (itn h).1,(itn h).2⟩
theorem ite_ {x:Option α} {r:α} (h:(if p then x else none)=some r):p=True∧decide p=true∧x=some r:=⟨eq_true (itn h).1,decide_eq_true (itn h).1,(itn h).2⟩
theorem itm {x:Option α} {r:α} (h:(if p then x else none)=some r):Aside0 p∧x=some r:=⟨⟨(itn h).1⟩,(itn h).2⟩
theorem itp {x y r:Option α} (h:(if p then x else y)=r):p∧x=r∨ ¬p∧y=r:=by
 by_cases c:p
 ·rw[if_pos c]at h;exact .inl ⟨c,h⟩
 ·rw[if_neg c]at h;exact .inr ⟨c,h⟩
theorem itb {x y r:Option α} (h:(if p then x else y)=r):decide p=true∧x=r∨decide p=false∧y=r:=
 (itp h).elim (fun h=> .inl ⟨decide_eq_true h.1,h.2⟩) (fun h=> .inr ⟨decide_eq_false h.1,h.2⟩)
theorem itt {b:Bool} {x y r:Option α} (h:(if b=true then x else y)=r):b=true∧x=r∨b=false∧y=r:=by
 cases b
 ·exact .inr ⟨rfl,h⟩
 ·exact .inl ⟨rfl,h⟩
theorem bnd {β:Type} {x:Option β} {f:β→Option α} {r:α} (h:x.bind f=some r): ∃t,Aside0 (x=some t)∧f t=some r:=by
 obtain⟨t,e,h⟩:=Option.bind_eq_some_iff.mp h;exact⟨t,⟨e⟩,h⟩
theorem nmb {β:Type} {x:β} {f:β→Option α} {r:Option α} (h:(some x).bind f=r): ∃y,Aside0 (y=x)∧f y=r:=⟨x,⟨rfl⟩,h⟩
theorem nmx {β:Type} (x:β): ∃y,Aside0 (y=x):=⟨x,⟨rfl⟩⟩
theorem jix {β:Type} (x:β): ∃y,x=y:=⟨x,rfl⟩
variable {x0 x1 x2 x3:Value} {l_:List Value} {t:TypeId}
theorem bc0 (a:Aside0 (w.heap[g]?=some (.cells (List.toArray (x0::l_)) t (0,0)))):w.cell? ⟨g,0,none⟩=some x0:=(blk_cell a.out 0).trans rfl
theorem bc1 (a:Aside0 (w.heap[g]?=some (.cells (List.toArray (x0::x1::l_)) t (0,0)))):w.cell? ⟨g,1,none⟩=some x1:=(blk_cell a.out 1).trans rfl
theorem bc2 (a:Aside0 (w.heap[g]?=some (.cells (List.toArray (x0::x1::x2::l_)) t (0,0)))):w.cell? ⟨g,2,none⟩=some x2:=(blk_cell a.out 2).trans rfl
theorem bf_ {cs:Array Value} (a:Aside0 (w.heap[g]?=some (.cells cs t (0,0)))) (i:Nat):w.frozen? ⟨g,i,none⟩=false:=blk_frozen a.out i
theorem hc_ {p:Addr} (a:Aside0 (Below w.heap.size w W)) (h:w.cell? p=some v) (k:Below w.heap.size w W→Below w.heap.size w w1:=by exact eB):w1.cell? p=some v:=((k a.out).cell (World.block_lt_of_cell? w _ h)).trans h
theorem ldi {k:IntKind} {ys:List Int} {i:Int} (h:Kd.C (Kd.int k) w A n ys) (h0:decide (0≤i)=true:=by exact asx) (h1:decide (i<(n:Int))=true:=by exact asx): ∃ad,A=some ad∧w.cell? (ad.add i.toNat)=some (.int k (rd ys i))∧(0≤i)=True∧(i<(n:Int))=True:=by
 obtain⟨ad,e,h2⟩:=Kd.at_int h i (of_decide_eq_true h0) (of_decide_eq_true h1);exact⟨ad,e,h2,eq_true (of_decide_eq_true h0),eq_true (of_decide_eq_true h1)⟩
theorem ldb {ys:List Bool} {i:Int} (h:Kd.C Kd.bool w A n ys) (h0:decide (0≤i)=true:=by exact asx) (h1:decide (i<(n:Int))=true:=by exact asx): ∃ad,A=some ad∧w.cell? (ad.add i.toNat)=some (.bool (rdOf false ys i))∧(0≤i)=True∧(i<(n:Int))=True:=by
 obtain⟨ad,e,h2⟩:=Kd.at_bool h i (of_decide_eq_true h0) (of_decide_eq_true h1);exact⟨ad,e,h2,eq_true (of_decide_eq_true h0),eq_true (of_decide_eq_true h1)⟩
theorem bs (a:Aside0 (Below w0.heap.size w0 W)) (hb:Below W1.heap.size W1 w1) (h:Below w0.heap.size w0 W→Below w0.heap.size w0 W1:=by exact eB):Aside0 (Below w0.heap.size w0 w1):=⟨below_step (h a.out) hb⟩
theorem kt (a:Aside0 (KeepBut w0 W g none)) (hk:KeepBut W1 w1 g none) (h:KeepBut w0 W g none→KeepBut w0 W1 g none:=by exact eK):Aside0 (KeepBut w0 w1 g none):=⟨KeepBut.trans (h a.out) hk (.inl rfl)⟩
theorem kb (a:Aside0 (KeepBut w0 W g none)) (hb:Below W1.heap.size W1 w1) (h:KeepBut w0 W g none→KeepBut w0 W1 g none:=by exact eK):Aside0 (KeepBut w0 w1 g none):=⟨KeepBut.trans (h a.out) (KeepBut.of_below hb g none) (.inl rfl)⟩
theorem bb (a:Aside0 (W.heap[g]?=some o)) (hb:Below W1.heap.size W1 w1) (h:W.heap[g]?=some o→W1.heap[g]?=some o:=by exact eW):Aside0 (w1.heap[g]?=some o):=⟨blk_below (h a.out) hb⟩
theorem bk (a:Aside0 (W.heap[g']?=some o)) (hk:KeepBut W1 w1 g none) (b:Aside0 (g'≠g)) (h:W.heap[g']?=some o→W1.heap[g']?=some o:=by exact eW):Aside0 (w1.heap[g']?=some o):=⟨KeepBut.blk hk (h a.out) b.out (by simp)⟩
theorem gs (hg:g=W1.heap.size) (a:Aside0 (Below w0.heap.size w0 W)) (h:Below w0.heap.size w0 W→Below w0.heap.size w0 W1:=by exact eB):Aside0 (w0.heap.size≤g):=⟨by rw[hg];exact below_size (h a.out)⟩
theorem gk (hg:g'=W1.heap.size) (a:Aside0 (KeepBut w0 W g row)) (h:KeepBut w0 W g row→KeepBut w0 W1 g row:=by exact eK):Aside0 (w0.heap.size≤g'):=⟨by rw[hg];exact keep_size (h a.out)⟩
theorem gw (hg:g'=W1.heap.size) (b:Aside0 (n≤w0.heap.size)) (a:Aside0 (KeepBut w0 W g row)) (h:KeepBut w0 W g row→KeepBut w0 W1 g row:=by exact eK):Aside0 (n≤g'):=⟨Nat.le_trans b.out (gk hg a h).out⟩
theorem nl (hg:g'=W1.heap.size) (a:Aside0 (W.heap[g]?=some o)) (h:W.heap[g]?=some o→W1.heap[g]?=some o:=by exact eW):Aside0 (g≠g'):=⟨by rw[hg];exact Nat.ne_of_lt (blk_lt (h a.out))⟩
theorem ng (hg:g'=W1.heap.size) (a:Aside0 (W.heap[g]?=some o)) (h:W.heap[g]?=some o→W1.heap[g]?=some o:=by exact eW):Aside0 (g'≠g):=⟨by rw[hg];exact Nat.ne_of_gt (blk_lt (h a.out))⟩
end
section
open Go
variable {P:Program} {ops:Array Oper} {Q:Exit→Act→World→Prop} {md:Region.Mode} {S:World→Prop} {ds:List Nat} {T:Bool×List (List Nat×List Nat)}
theorem pu_ (HT:Aside0 (rtab md ops=T)) (i:Nat) (N:Option Tmp) {oi:Oper} {v:Value} {fuel:Nat} {l:Array Bool} {a a':Act} {w:World} {l':Array Bool}
 (h:wpAnyLast P md ops Q S ds fuel l' a' w)
 (hi:ops[i]?=some oi:=by rfl) (hN:oi.dst=N:=by rfl)
 (hl:l.setIfInBounds i true=l':=by(simp only[List.setIfInBounds_toArray,List.set_cons_zero,List.set_cons_succ];rfl))
 (hc:anyT T l.toList l'.toList i=true:=by kernel_rfl)
 (hQ: ∀c a w,Q (.panic c) (a.put oi.dst v) w→Q (.panic c) a w:=by exact fun _ _ _ h=>h)
 (hy:Yields P ops oi v a:=by(refine Or.inl ⟨by rfl,?_⟩;intro w';go_simp;with_reducible rfl))
 (ha:a.put N v=a':=by(simp only[Act.put,List.setIfInBounds_toArray,List.set_cons_zero,List.set_cons_succ,i64_w,i32_w];rfl)):
 wpAnyLast P md ops Q S ds (fuel+1) l a w:=pure_ l' hi hN (any_of HT.out hc) hQ hy ha h
theorem pv_ (i:Nat) (N:Option Tmp) {oi:Oper} {v:Value} {fuel:Nat} {l:Array Bool} {a a':Act} {w:World} {l':Array Bool}
 (h:wpAnyLast P md ops Q S ds fuel l' a' w)
 (hi:ops[i]?=some oi:=by rfl) (hN:oi.dst=N:=by rfl)
 (hl:l.setIfInBounds i true=l':=by(simp only[List.setIfInBounds_toArray,List.set_cons_zero,List.set_cons_succ];rfl))
 (hc:anyB md ops l l' i=true:=by kernel_rfl)
 (hQ: ∀c a w,Q (.panic c) (a.put oi.dst v) w→Q (.panic c) a w:=by exact fun _ _ _ h=>h)
 (hy:Yields P ops oi v a:=by(refine Or.inl ⟨by rfl,?_⟩;intro w';go_simp;with_reducible rfl))
 (ha:a.put N v=a':=by(simp only[Act.put,List.setIfInBounds_toArray,List.set_cons_zero,List.set_cons_succ,i64_w,i32_w];rfl)):
 wpAnyLast P md ops Q S ds (fuel+1) l a w:=pure_ l' hi hN hc hQ hy ha h
theorem on_ (HT:Aside0 (rtab md ops=T)) (i:Nat) (N:Option Tmp) {oi:Oper} {fuel:Nat} {l:Array Bool} {a:Act} {w:World} {l':Array Bool}
 (h: ∀K:Act→World→Prop,Shut (∀a' w',S w'→(S w'→wpAnyLast P md ops Q S ds fuel l' a' w')→K a' w')→if Region.wanted oi (yielded ops a.tmps)=true then Oper.wp P oi a w K Q else K (a.put N undef) w)
 (hi:ops[i]?=some oi:=by rfl) (hN:oi.dst=N:=by rfl)
 (hl:l.setIfInBounds i true=l':=by(simp only[List.setIfInBounds_toArray,List.set_cons_zero,List.set_cons_succ];rfl))
 (hc:(readyT T.2 l.toList==[i]&& l.toList.set i true==l'.toList)=true:=by kernel_rfl) (hd:i∉ds:=by decide):
 wpAnyLast P md ops Q S ds (fuel+1) l a w:=one_ l' hi hN (one_of HT.out hc) hd h
theorem pn_ (HT:Aside0 (rtab md ops=T)) (i:Nat) (N:Option Tmp) {oi:Oper} {fuel:Nat} {l:Array Bool} {a a':Act} {w:World} {l':Array Bool}
 (h:wpAnyLast P md ops Q S ds fuel l' a' w)
 (hi:ops[i]?=some oi:=by rfl) (hN:oi.dst=N:=by rfl)
 (hl:l.setIfInBounds i true=l':=by(simp only[List.setIfInBounds_toArray,List.set_cons_zero,List.set_cons_succ];rfl))
 (hc:anyT T l.toList l'.toList i=true:=by kernel_rfl)
 (hQ: ∀c a w,Q (.panic c) (a.put oi.dst undef) w→Q (.panic c) a w:=by exact fun _ _ _ h=>h)
 (hy:Yields P ops oi undef a:=by exact Or.inr ⟨by rfl,rfl⟩)
 (ha:a.put N undef=a':=by(simp only[Act.put,List.setIfInBounds_toArray,List.set_cons_zero,List.set_cons_succ,i64_w,i32_w];rfl)):
 wpAnyLast P md ops Q S ds (fuel+1) l a w:=pure_ l' hi hN (any_of HT.out hc) hQ hy ha h
theorem ov_ (i:Nat) (N:Option Tmp) {oi:Oper} {fuel:Nat} {l:Array Bool} {a:Act} {w:World} {l':Array Bool}
 (h: ∀K:Act→World→Prop,Shut (∀a' w',S w'→(S w'→wpAnyLast P md ops Q S ds fuel l' a' w')→K a' w')→if Region.wanted oi (yielded ops a.tmps)=true then Oper.wp P oi a w K Q else K (a.put N undef) w)
 (hi:ops[i]?=some oi:=by rfl) (hN:oi.dst=N:=by rfl)
 (hl:l.setIfInBounds i true=l':=by(simp only[List.setIfInBounds_toArray,List.set_cons_zero,List.set_cons_succ];rfl))
 (hc:readyB md ops l l' i=true:=by kernel_rfl) (hd:i∉ds:=by decide):
 wpAnyLast P md ops Q S ds (fuel+1) l a w:=one_ l' hi hN hc hd h
variable {w:World}
theorem tv1_ (hS:S w) (i:Nat) (N:Option Tmp) {oi:Oper} {v:Value} {fuel:Nat} {l:Array Bool} {a a':Act} {l':Array Bool}
 (h:wpAnyLast P md ops Q S ds fuel l' a' w)
 (hi:ops[i]?=some oi:=by rfl) (hN:oi.dst=N:=by rfl)
 (hl:l.setIfInBounds i true=l':=by(simp only[List.setIfInBounds_toArray,List.set_cons_zero,List.set_cons_succ];rfl))
 (hc:takeB md ops ds l l' i=true:=by kernel_rfl)
 (hQ: ∀c a w,Q (.panic c) (a.put oi.dst v) w→Q (.panic c) a w:=by exact fun _ _ _ h=>h)
 (hy:YieldsIf P ops S oi v a:=by(refine Or.inl ⟨by rfl,?_⟩;rintro w' s0;go_simp;with_reducible rfl))
 (ha:a.put N v=a':=by(simp only[Act.put,List.setIfInBounds_toArray,List.set_cons_zero,List.set_cons_succ,i64_w,i32_w];rfl)):
 wpAnyLast P md ops Q S ds (fuel+1) l a w:=take_ l' hi hN hc hQ hy hS ha h
theorem tv2_ (hS:S w) (i:Nat) (N:Option Tmp) {oi:Oper} {v:Value} {fuel:Nat} {l:Array Bool} {a a':Act} {l':Array Bool}
 (h:wpAnyLast P md ops Q S ds fuel l' a' w)
 (hi:ops[i]?=some oi:=by rfl) (hN:oi.dst=N:=by rfl)
 (hl:l.setIfInBounds i true=l':=by(simp only[List.setIfInBounds_toArray,List.set_cons_zero,List.set_cons_succ];rfl))
 (hc:takeB md ops ds l l' i=true:=by kernel_rfl)
 (hQ: ∀c a w,Q (.panic c) (a.put oi.dst v) w→Q (.panic c) a w:=by exact fun _ _ _ h=>h)
 (hy:YieldsIf P ops S oi v a:=by(refine Or.inl ⟨by rfl,?_⟩;rintro w' ⟨s0,s1⟩;go_simp;with_reducible rfl))
 (ha:a.put N v=a':=by(simp only[Act.put,List.setIfInBounds_toArray,List.set_cons_zero,List.set_cons_succ,i64_w,i32_w];rfl)):
 wpAnyLast P md ops Q S ds (fuel+1) l a w:=take_ l' hi hN hc hQ hy hS ha h
theorem tk3_ {B:List Nat} (HT:Aside0 (rtab md ops=T)) (HW:Aside0 (waitsOk T.2 B=true)) (hS:S w) (i:Nat) (N:Option Tmp) {oi:Oper} {v:Value} {fuel:Nat} {l:Array Bool} {a a':Act} {l':Array Bool}
 (h:wpAnyLast P md ops Q S ds fuel l' a' w)
 (hi:ops[i]?=some oi:=by rfl) (hN:oi.dst=N:=by rfl)
 (hl:l.setIfInBounds i true=l':=by(simp only[List.setIfInBounds_toArray,List.set_cons_zero,List.set_cons_succ];rfl))
 (hc:takeW T B ds l.toList l'.toList i=true:=by kernel_rfl)
 (hQ: ∀c a w,Q (.panic c) (a.put oi.dst v) w→Q (.panic c) a w:=by exact fun _ _ _ h=>h)
 (hy:YieldsIf P ops S oi v a:=by(refine Or.inl ⟨by rfl,?_⟩;rintro w' ⟨s0,s1,s2⟩;go_simp;with_reducible rfl))
 (ha:a.put N v=a':=by(simp only[Act.put,List.setIfInBounds_toArray,List.set_cons_zero,List.set_cons_succ,i64_w,i32_w];rfl)):
 wpAnyLast P md ops Q S ds (fuel+1) l a w:=take_ l' hi hN (take_ofW HT.out HW.out hc) hQ hy hS ha h
theorem tv3_ (hS:S w) (i:Nat) (N:Option Tmp) {oi:Oper} {v:Value} {fuel:Nat} {l:Array Bool} {a a':Act} {l':Array Bool}
 (h:wpAnyLast P md ops Q S ds fuel l' a' w)
 (hi:ops[i]?=some oi:=by rfl) (hN:oi.dst=N:=by rfl)
 (hl:l.setIfInBounds i true=l':=by(simp only[List.setIfInBounds_toArray,List.set_cons_zero,List.set_cons_succ];rfl))
 (hc:takeB md ops ds l l' i=true:=by kernel_rfl)
 (hQ: ∀c a w,Q (.panic c) (a.put oi.dst v) w→Q (.panic c) a w:=by exact fun _ _ _ h=>h)
 (hy:YieldsIf P ops S oi v a:=by(refine Or.inl ⟨by rfl,?_⟩;rintro w' ⟨s0,s1,s2⟩;go_simp;with_reducible rfl))
 (ha:a.put N v=a':=by(simp only[Act.put,List.setIfInBounds_toArray,List.set_cons_zero,List.set_cons_succ,i64_w,i32_w];rfl)):
 wpAnyLast P md ops Q S ds (fuel+1) l a w:=take_ l' hi hN hc hQ hy hS ha h
theorem tv4_ (hS:S w) (i:Nat) (N:Option Tmp) {oi:Oper} {v:Value} {fuel:Nat} {l:Array Bool} {a a':Act} {l':Array Bool}
 (h:wpAnyLast P md ops Q S ds fuel l' a' w)
 (hi:ops[i]?=some oi:=by rfl) (hN:oi.dst=N:=by rfl)
 (hl:l.setIfInBounds i true=l':=by(simp only[List.setIfInBounds_toArray,List.set_cons_zero,List.set_cons_succ];rfl))
 (hc:takeB md ops ds l l' i=true:=by kernel_rfl)
 (hQ: ∀c a w,Q (.panic c) (a.put oi.dst v) w→Q (.panic c) a w:=by exact fun _ _ _ h=>h)
 (hy:YieldsIf P ops S oi v a:=by(refine Or.inl ⟨by rfl,?_⟩;rintro w' ⟨s0,s1,s2,s3⟩;go_simp;with_reducible rfl))
 (ha:a.put N v=a':=by(simp only[Act.put,List.setIfInBounds_toArray,List.set_cons_zero,List.set_cons_succ,i64_w,i32_w];rfl)):
 wpAnyLast P md ops Q S ds (fuel+1) l a w:=take_ l' hi hN hc hQ hy hS ha h
theorem tv5_ (hS:S w) (i:Nat) (N:Option Tmp) {oi:Oper} {v:Value} {fuel:Nat} {l:Array Bool} {a a':Act} {l':Array Bool}
 (h:wpAnyLast P md ops Q S ds fuel l' a' w)
 (hi:ops[i]?=some oi:=by rfl) (hN:oi.dst=N:=by rfl)
 (hl:l.setIfInBounds i true=l':=by(simp only[List.setIfInBounds_toArray,List.set_cons_zero,List.set_cons_succ];rfl))
 (hc:takeB md ops ds l l' i=true:=by kernel_rfl)
 (hQ: ∀c a w,Q (.panic c) (a.put oi.dst v) w→Q (.panic c) a w:=by exact fun _ _ _ h=>h)
 (hy:YieldsIf P ops S oi v a:=by(refine Or.inl ⟨by rfl,?_⟩;rintro w' ⟨s0,s1,s2,s3,s4⟩;go_simp;with_reducible rfl))
 (ha:a.put N v=a':=by(simp only[Act.put,List.setIfInBounds_toArray,List.set_cons_zero,List.set_cons_succ,i64_w,i32_w];rfl)):
 wpAnyLast P md ops Q S ds (fuel+1) l a w:=take_ l' hi hN hc hQ hy hS ha h
theorem tk6_ {B:List Nat} (HT:Aside0 (rtab md ops=T)) (HW:Aside0 (waitsOk T.2 B=true)) (hS:S w) (i:Nat) (N:Option Tmp) {oi:Oper} {v:Value} {fuel:Nat} {l:Array Bool} {a a':Act} {l':Array Bool}
 (h:wpAnyLast P md ops Q S ds fuel l' a' w)
 (hi:ops[i]?=some oi:=by rfl) (hN:oi.dst=N:=by rfl)
 (hl:l.setIfInBounds i true=l':=by(simp only[List.setIfInBounds_toArray,List.set_cons_zero,List.set_cons_succ];rfl))
 (hc:takeW T B ds l.toList l'.toList i=true:=by kernel_rfl)
 (hQ: ∀c a w,Q (.panic c) (a.put oi.dst v) w→Q (.panic c) a w:=by exact fun _ _ _ h=>h)
 (hy:YieldsIf P ops S oi v a:=by(refine Or.inl ⟨by rfl,?_⟩;rintro w' ⟨s0,s1,s2,s3,s4,s5⟩;go_simp;with_reducible rfl))
 (ha:a.put N v=a':=by(simp only[Act.put,List.setIfInBounds_toArray,List.set_cons_zero,List.set_cons_succ,i64_w,i32_w];rfl)):
 wpAnyLast P md ops Q S ds (fuel+1) l a w:=take_ l' hi hN (take_ofW HT.out HW.out hc) hQ hy hS ha h
theorem tk7_ {B:List Nat} (HT:Aside0 (rtab md ops=T)) (HW:Aside0 (waitsOk T.2 B=true)) (hS:S w) (i:Nat) (N:Option Tmp) {oi:Oper} {v:Value} {fuel:Nat} {l:Array Bool} {a a':Act} {l':Array Bool}
 (h:wpAnyLast P md ops Q S ds fuel l' a' w)
 (hi:ops[i]?=some oi:=by rfl) (hN:oi.dst=N:=by rfl)
 (hl:l.setIfInBounds i true=l':=by(simp only[List.setIfInBounds_toArray,List.set_cons_zero,List.set_cons_succ];rfl))
 (hc:takeW T B ds l.toList l'.toList i=true:=by kernel_rfl)
 (hQ: ∀c a w,Q (.panic c) (a.put oi.dst v) w→Q (.panic c) a w:=by exact fun _ _ _ h=>h)
 (hy:YieldsIf P ops S oi v a:=by(refine Or.inl ⟨by rfl,?_⟩;rintro w' ⟨s0,s1,s2,s3,s4,s5,s6⟩;go_simp;with_reducible rfl))
 (ha:a.put N v=a':=by(simp only[Act.put,List.setIfInBounds_toArray,List.set_cons_zero,List.set_cons_succ,i64_w,i32_w];rfl)):
 wpAnyLast P md ops Q S ds (fuel+1) l a w:=take_ l' hi hN (take_ofW HT.out HW.out hc) hQ hy hS ha h
theorem nr_ (N:Option Tmp) {v:Value} {fuel:Nat} {l:Array Bool} {a a':Act} (h:wpAnyLast P md ops Q S ds fuel l a' w) (ha:a.put N v=a':=by(show Act.put _ _ _=_;simp only[Act.put,List.setIfInBounds_toArray,List.set_cons_zero,List.set_cons_succ,i64_w,i32_w];rfl)):wpAnyLast P md ops Q S ds fuel l (a.put N v) w:=norm_ ha h
theorem cal_ {rest:List Oper} {oi:Oper} {a:Act} {fn:Func} {xs_:Array Operand} {ts:Array TypeId} {R:Ending→World→Prop} (f:FuncId) (N:Option Tmp) (hf:P.funcs[f]?=some fn) (args:Array Value)
 (hop:oi.op= .call {callee:= .value (.func f),args:=xs_,argTypes:=ts}) (hc:Calls P f args w R)
 (h: ∀e w',R e w'→ ∃v,e= .returned v∧wpList P ops Q rest (a.put N v) w')
 (hd:oi.dst=N:=by rfl) (hg:oi.guard=none:=by rfl) (hname:(fn.name== "runtime.NumGoroutine")=false:=by kernel_rfl) (hb:fn.body.isSome=true:=by rfl)
 (hargs:xs_.map a.eval=args:=by((try simp only[List.map_toArray,List.map_cons,List.map_nil]);first|done|rfl|(simp only[List.length_drop,List.length_take];rfl))):wpList P ops Q (oi::rest) a w:=
 goesL_ N hd hg hf hname hb args hop hargs (hc.mono h)
theorem ral_ {oi:Oper} {N:Option Tmp} {a:Act} {K:Act→World→Prop} {f:FuncId} {fn:Func} {xs_:Array Operand} {ts:Array TypeId} {R:Ending→World→Prop} (hf:P.funcs[f]?=some fn) (args:Array Value) (hc:Calls P f args w R)
 (h: ∀e w',R e w'→ ∃v,e= .returned v∧K (a.put N v) w')
 (hop:oi.op= .call {callee:= .value (.func f),args:=xs_,argTypes:=ts}:=by rfl) (hname:(fn.name== "runtime.NumGoroutine")=false:=by kernel_rfl) (hb:fn.body.isSome=true:=by rfl)
 (hw:Region.wanted oi (yielded ops a.tmps)=true:=by rfl) (hN:oi.dst=N:=by rfl)
 (hargs:xs_.map a.eval=args:=by((try simp only[List.map_toArray,List.map_cons,List.map_nil]);first|done|rfl|(simp only[List.length_drop,List.length_take];rfl))):if Region.wanted oi (yielded ops a.tmps)=true then Oper.wp P oi a w K Q else K (a.put N undef) w:=
 goes_ hf hname hb args hw hN hop hargs (hc.mono h)
end
end Go.Proofs.YtlkppimbbbdmbaaW.PrintMore
