/-
  Plain words on memory: a slice of numbers, of records of numbers, of slices, as it reads in a world; kept over what leaves old blocks alone.
-/
import Derived.WalkKit
import Derived.WalkSpells
import Derived.WalkLawsBesides
import Derived.Deep.Draws
import Derived.Deep.OwnRows
namespace Go.Proofs.Ytebmlphobgaboab
open Go.RowKit

open Classical in
/-! three new blocks, two new blocks, one: what their cells hold -/
section
variable (W : World) (a b c : Array Value) (s t u : TypeId) (i : Nat)
end

end Go.Proofs.Ytebmlphobgaboab
