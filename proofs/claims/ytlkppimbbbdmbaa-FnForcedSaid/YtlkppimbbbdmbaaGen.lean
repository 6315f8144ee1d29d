/- Small laws about rounds (Ev), reads and stores in lists, and whole numbers: shared by the pure statements of this seat. -/
import Derived.Test.YtlkppimbbbdmbaaWWords
namespace Go.Proofs.Ytlkppimbbbdmbaa.Gen
open Go.RowKit Go.Proofs.YtlkppimbbbdmbaaW.PrintWords
theorem wr (n:Int) (h1: -9223372036854775808≤n) (h2:n≤9223372036854775807):wrap64 n=n:=by unfold wrap64;omega
theorem wr_nat (i n:Nat) (h:i<n) (hn:n<9223372036854775807):wrap64 ((i:Int)+1)=((i+1:Nat):Int):=by unfold wrap64;omega
theorem rd_nat (xs:List Int) (i:Nat):rd xs (i:Int)=xs.getD i 0:=by unfold rd;rw[Int.toNat_natCast]
theorem rd_get (xs:List Int) (i:Nat) (h:i<xs.length):rd xs (i:Int)=xs[i]:=by rw[rd_nat];simp[List.getD_eq_getElem?_getD,h]
theorem rd_mid (pre:List Int) (x:Int) (suf:List Int):rd (pre++x::suf) (pre.length:Int)=x:=by rw[rd_nat];simp
theorem rdOf_nat {α:Type} (d:α) (xs:List α) (i:Nat):rdOf d xs (i:Int)=xs.getD i d:=by unfold rdOf;rw[Int.toNat_natCast]
theorem nn (i:Nat):(0:Int)≤(i:Int):=Int.natCast_nonneg i
theorem Ev.pos {α:Type} {c:Prop} [Decidable c] {A B:Nat→Option α} {r:α} (h:c) (k:Ev A r):Ev (fun n=>if c then A n else B n) r:=by
  simp only[if_pos h];exact k
theorem Ev.neg {α:Type} {c:Prop} [Decidable c] {A B:Nat→Option α} {r:α} (h: ¬c) (k:Ev B r):Ev (fun n=>if c then A n else B n) r:=by
  simp only[if_neg h];exact k
theorem Ev.cases {α:Type} {c:Prop} [Decidable c] {A B:Nat→Option α} {r:α} (h1:c→Ev A r) (h2: ¬c→Ev B r):Ev (fun n=>if c then A n else B n) r:=by
  by_cases h:c
  · exact Ev.pos h (h1 h)
  · exact Ev.neg h (h2 h)
theorem Ev.sbind {α β:Type} {a:α} {f:Nat→α→Option β} {r:β} (k:Ev (fun n=>f n a) r):Ev (fun n=>(some a).bind (f n)) r:=k
theorem Ev.cast {α:Type} {g:Nat→Option α} {r r':α} (h:r=r') (k:Ev g r):Ev g r':=h▸k
theorem Ev.ex {α:Type} {g:Nat→Option α} {r:α} (h:Ev g r): ∃k,g k=some r:=h.rounds
theorem dr {α:Type} (xs:List α) (i:Nat) (h:i<xs.length):xs.drop i=xs[i]::xs.drop (i+1):=List.drop_eq_getElem_cons h
theorem dr0 {α:Type} (xs:List α) (i:Nat) (h:xs.length≤i):xs.drop i=[]:=List.drop_eq_nil_of_le h
theorem bf {b:Bool} (h: ¬b=true):b=false:=by cases b<;>simp_all
end Go.Proofs.Ytlkppimbbbdmbaa.Gen
