/- Words of this claim's own, beside the print's: facts on rows that the printed walks lack. No condition. -/
import Derived.Test.YtjmhhgnknjfnlaaWWords
import Derived.Test.YtjmhhgnknjfnlaaWMore
namespace Go.Proofs.YtjmhhgnknjfnlaaW.PrintMore
open Go.RowKit Go.Proofs.YtjmhhgnknjfnlaaW.PrintWords
namespace Kd
open Go.Proofs.YtjmhhgnknjfnlaaW.PrintWords.Kd
section
variable {α : Type} {d : Kd α} {e base : Nat} {ok : Nat → Prop} {W : World} {A A1 : Option Addr} {xs ys : List α} {m c n : Nat}
/-- A cut of a row of one's own, from m on, as it reads at the row's own world. -/
theorem R_dropC (h : d.R e W base ok (.slice A n c) xs) (hm : m ≤ xs.length) (hA : A1 = if c = m then A else A.map (·.add (m * d.sz))) (hy : ys = xs.drop m) : d.C W A1 ys.length ys := by
  obtain ⟨h1, h2, h3⟩ := R_reads' h
  subst hA hy
  exact C_drop h3 hm (by omega)
end
end Kd
end Go.Proofs.YtjmhhgnknjfnlaaW.PrintMore
