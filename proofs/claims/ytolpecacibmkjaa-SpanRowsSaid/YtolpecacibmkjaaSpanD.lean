/- SpanReached. No condition. -/
import Derived.Test.YtolpecacibmkjaaSpanC
import Derived.Test.YtolpecacibmkjaaSpanP
namespace Go.Proofs.Ytolpecacibmkjaa
open Go.RowKit

theorem rowLo_gaps (xs : List Int) (lo hi z : Int) : ∀ (b c : Int), c ≤ b → rowLo xs c lo hi z true ≤ rowLo xs b lo hi z false := by
  unfold rowLo
  induction xs with
  | nil => intro b c h; exact h
  | cons x l ih =>
    intro b c h
    have := (oneR_gaps x lo hi z).1
    exact ih _ _ (by dsimp only; omega)
theorem rowHi_gaps (xs : List Int) (lo hi z : Int) : ∀ (b c : Int), b ≤ c → rowHi xs b lo hi z false ≤ rowHi xs c lo hi z true := by
  unfold rowHi
  induction xs with
  | nil => intro b c h; exact h
  | cons x l ih =>
    intro b c h
    have := (oneR_gaps x lo hi z).2.1
    exact ih _ _ (by dsimp only; omega)
theorem rowLo_bias (xs : List Int) (lo hi z : Int) : ∀ (b c : Int), c ≤ b → rowLo xs c lo hi z true ≤ b := by
  unfold rowLo
  induction xs with
  | nil => intro b c h; exact h
  | cons x l ih =>
    intro b c h
    have := (oneR_gaps x lo hi z).2.2.1
    exact ih _ _ (by dsimp only; omega)
theorem rowHi_bias (xs : List Int) (lo hi z : Int) : ∀ (b c : Int), b ≤ c → b ≤ rowHi xs c lo hi z true := by
  unfold rowHi
  induction xs with
  | nil => intro b c h; exact h
  | cons x l ih =>
    intro b c h
    have := (oneR_gaps x lo hi z).2.2.2
    exact ih _ _ (by dsimp only; omega)
end Go.Proofs.Ytolpecacibmkjaa
