/-
  No cell of these rows narrows 'for every input' (looked for: loops, veiled, ifaces, maps, wideKeys, modest, calm, conditions, laid).
  DERIVED. THE GIVEN ROWS OF THIS SEAT. 8 by the template 'for every input the law returns true; each argument reads behind the call as it read before'; 0 by the template 'total and deterministic' (their statements: YtfhpahnflnahkaaTotals.lean).
  GIVEN WITH THE SEED: the statements are not yours to turn. If you find one false, say at which input.
  Laid BY PROGRAM, IN A SANDBOX (cutbox-rows.mjs): the forced cells as the released guide's own fill.sh prints them over the translation 0f19f84895b31b95… (all of the seat's roots in one cut). By AI agents, Wed Nov 11 2026. No macro, syntax, notation, axiom, sorry.
-/
import Derived.Test.YtfhpahnflnahkaaChecked
import GoSem.Claim
import GoSem.ClaimJoined
import GoSem.ClaimMapViews
import Derived.JoinedTies
import Derived.KernelRfl
namespace Go.Proofs.Ytfhpahnflnahkaa
/- THE CELL 'sum', in the pinned program and in every row, IS THE sha256 OF THE DUMP (.gsa) THAT YtfhpahnflnahkaaProg.lean LOADS. Nothing in Lean hashes anything: it is a label: what it is worth is what the hold of that sum in a sandbox is worth. -/
noncomputable def Try.pinned : Pinned := { name := "ytfhpahnflnahkaa", sum := "0f19f84895b31b95437d51c90db0848fa392229318f2a2269fd0bf2046733998", checked := Try.checked }
namespace Rows
def none {H : Type} : Left H := { results := [], args := [] }

/-- 'laws.FnExactSlackOfBonds': WHATEVER THE INPUT: true; the input reads as it did. -/
def fnExactSlackOfBondsSpec : ChangeSpec := { name := "fnExactSlackOfBonds", fn := fun _ => fun
  | [d1, d2, d3] => { results := [.lit (.bool true)], args := [d1, d2, d3] }
  | _ => none }
def fnExactSlackOfBondsRow : OpenClaim := { program := "ytfhpahnflnahkaa", sum := "0f19f84895b31b95437d51c90db0848fa392229318f2a2269fd0bf2046733998", func := "loop.example/g00941/laws.FnExactSlackOfBonds", spec := "fnExactSlackOfBonds", unfollowed := true, recurses := true, apart := false }
def FnExactSlackOfBondsSaid : Prop := fnExactSlackOfBondsRow.holds Try.pinned (OpenSpec.ofChange fnExactSlackOfBondsSpec)

/-- ITS FALSE NEIGHBOUR: 'it returns false'. Refute it at one input. -/
def fnExactSlackOfBondsWrong : ChangeSpec := { name := "fnExactSlackOfBonds", fn := fun _ => fun
  | [d1, d2, d3] => { results := [.lit (.bool false)], args := [d1, d2, d3] }
  | _ => none }
def FnExactSlackOfBondsWrongFalsely : Prop := fnExactSlackOfBondsRow.holds Try.pinned (OpenSpec.ofChange fnExactSlackOfBondsWrong)

/-- 'laws.FnExactIsKept': WHATEVER THE INPUT: true; the input reads as it did. -/
def fnExactIsKeptSpec : ChangeSpec := { name := "fnExactIsKept", fn := fun _ => fun
  | [d1, d2] => { results := [.lit (.bool true)], args := [d1, d2] }
  | _ => none }
def fnExactIsKeptRow : OpenClaim := { program := "ytfhpahnflnahkaa", sum := "0f19f84895b31b95437d51c90db0848fa392229318f2a2269fd0bf2046733998", func := "loop.example/g00941/laws.FnExactIsKept", spec := "fnExactIsKept", unfollowed := true, recurses := true, apart := false }
def FnExactIsKeptSaid : Prop := fnExactIsKeptRow.holds Try.pinned (OpenSpec.ofChange fnExactIsKeptSpec)

/-- ITS FALSE NEIGHBOUR: 'it returns false'. Refute it at one input. -/
def fnExactIsKeptWrong : ChangeSpec := { name := "fnExactIsKept", fn := fun _ => fun
  | [d1, d2] => { results := [.lit (.bool false)], args := [d1, d2] }
  | _ => none }
def FnExactIsKeptWrongFalsely : Prop := fnExactIsKeptRow.holds Try.pinned (OpenSpec.ofChange fnExactIsKeptWrong)

/-- 'laws.FnExactDueOfLast': WHATEVER THE INPUT: true; the input reads as it did. -/
def fnExactDueOfLastSpec : ChangeSpec := { name := "fnExactDueOfLast", fn := fun _ => fun
  | [d1, d2, d3] => { results := [.lit (.bool true)], args := [d1, d2, d3] }
  | _ => none }
def fnExactDueOfLastRow : OpenClaim := { program := "ytfhpahnflnahkaa", sum := "0f19f84895b31b95437d51c90db0848fa392229318f2a2269fd0bf2046733998", func := "loop.example/g00941/laws.FnExactDueOfLast", spec := "fnExactDueOfLast", unfollowed := true, recurses := true, apart := false }
def FnExactDueOfLastSaid : Prop := fnExactDueOfLastRow.holds Try.pinned (OpenSpec.ofChange fnExactDueOfLastSpec)

/-- ITS FALSE NEIGHBOUR: 'it returns false'. Refute it at one input. -/
def fnExactDueOfLastWrong : ChangeSpec := { name := "fnExactDueOfLast", fn := fun _ => fun
  | [d1, d2, d3] => { results := [.lit (.bool false)], args := [d1, d2, d3] }
  | _ => none }
def FnExactDueOfLastWrongFalsely : Prop := fnExactDueOfLastRow.holds Try.pinned (OpenSpec.ofChange fnExactDueOfLastWrong)

/-- 'laws.FnExactRelabelGraph': WHATEVER THE INPUT: true; the input reads as it did. -/
def fnExactRelabelGraphSpec : ChangeSpec := { name := "fnExactRelabelGraph", fn := fun _ => fun
  | [d1, d2] => { results := [.lit (.bool true)], args := [d1, d2] }
  | _ => none }
def fnExactRelabelGraphRow : OpenClaim := { program := "ytfhpahnflnahkaa", sum := "0f19f84895b31b95437d51c90db0848fa392229318f2a2269fd0bf2046733998", func := "loop.example/g00941/laws.FnExactRelabelGraph", spec := "fnExactRelabelGraph", unfollowed := true, recurses := true, apart := false }
def FnExactRelabelGraphSaid : Prop := fnExactRelabelGraphRow.holds Try.pinned (OpenSpec.ofChange fnExactRelabelGraphSpec)

/-- ITS FALSE NEIGHBOUR: 'it returns false'. Refute it at one input. -/
def fnExactRelabelGraphWrong : ChangeSpec := { name := "fnExactRelabelGraph", fn := fun _ => fun
  | [d1, d2] => { results := [.lit (.bool false)], args := [d1, d2] }
  | _ => none }
def FnExactRelabelGraphWrongFalsely : Prop := fnExactRelabelGraphRow.holds Try.pinned (OpenSpec.ofChange fnExactRelabelGraphWrong)

/-- 'laws.FnExactSlacksOf': WHATEVER THE INPUT: true; the input reads as it did. -/
def fnExactSlacksOfSpec : ChangeSpec := { name := "fnExactSlacksOf", fn := fun _ => fun
  | [d1, d2] => { results := [.lit (.bool true)], args := [d1, d2] }
  | _ => none }
def fnExactSlacksOfRow : OpenClaim := { program := "ytfhpahnflnahkaa", sum := "0f19f84895b31b95437d51c90db0848fa392229318f2a2269fd0bf2046733998", func := "loop.example/g00941/laws.FnExactSlacksOf", spec := "fnExactSlacksOf", unfollowed := true, recurses := true, apart := false }
def FnExactSlacksOfSaid : Prop := fnExactSlacksOfRow.holds Try.pinned (OpenSpec.ofChange fnExactSlacksOfSpec)

/-- ITS FALSE NEIGHBOUR: 'it returns false'. Refute it at one input. -/
def fnExactSlacksOfWrong : ChangeSpec := { name := "fnExactSlacksOf", fn := fun _ => fun
  | [d1, d2] => { results := [.lit (.bool false)], args := [d1, d2] }
  | _ => none }
def FnExactSlacksOfWrongFalsely : Prop := fnExactSlacksOfRow.holds Try.pinned (OpenSpec.ofChange fnExactSlacksOfWrong)

/-- 'laws.FnExactPartOfGraph': WHATEVER THE INPUT: true; the input reads as it did. -/
def fnExactPartOfGraphSpec : ChangeSpec := { name := "fnExactPartOfGraph", fn := fun _ => fun
  | [d1, d2] => { results := [.lit (.bool true)], args := [d1, d2] }
  | _ => none }
def fnExactPartOfGraphRow : OpenClaim := { program := "ytfhpahnflnahkaa", sum := "0f19f84895b31b95437d51c90db0848fa392229318f2a2269fd0bf2046733998", func := "loop.example/g00941/laws.FnExactPartOfGraph", spec := "fnExactPartOfGraph", unfollowed := true, recurses := true, apart := false }
def FnExactPartOfGraphSaid : Prop := fnExactPartOfGraphRow.holds Try.pinned (OpenSpec.ofChange fnExactPartOfGraphSpec)

/-- ITS FALSE NEIGHBOUR: 'it returns false'. Refute it at one input. -/
def fnExactPartOfGraphWrong : ChangeSpec := { name := "fnExactPartOfGraph", fn := fun _ => fun
  | [d1, d2] => { results := [.lit (.bool false)], args := [d1, d2] }
  | _ => none }
def FnExactPartOfGraphWrongFalsely : Prop := fnExactPartOfGraphRow.holds Try.pinned (OpenSpec.ofChange fnExactPartOfGraphWrong)

/-- 'laws.FnExactTightPlaces': WHATEVER THE INPUT: true; the input reads as it did. -/
def fnExactTightPlacesSpec : ChangeSpec := { name := "fnExactTightPlaces", fn := fun _ => fun
  | [d1, d2] => { results := [.lit (.bool true)], args := [d1, d2] }
  | _ => none }
def fnExactTightPlacesRow : OpenClaim := { program := "ytfhpahnflnahkaa", sum := "0f19f84895b31b95437d51c90db0848fa392229318f2a2269fd0bf2046733998", func := "loop.example/g00941/laws.FnExactTightPlaces", spec := "fnExactTightPlaces", unfollowed := true, recurses := true, apart := false }
def FnExactTightPlacesSaid : Prop := fnExactTightPlacesRow.holds Try.pinned (OpenSpec.ofChange fnExactTightPlacesSpec)

/-- ITS FALSE NEIGHBOUR: 'it returns false'. Refute it at one input. -/
def fnExactTightPlacesWrong : ChangeSpec := { name := "fnExactTightPlaces", fn := fun _ => fun
  | [d1, d2] => { results := [.lit (.bool false)], args := [d1, d2] }
  | _ => none }
def FnExactTightPlacesWrongFalsely : Prop := fnExactTightPlacesRow.holds Try.pinned (OpenSpec.ofChange fnExactTightPlacesWrong)

/-- 'laws.FnExactShiftTimetable': WHATEVER THE INPUT: true; the input reads as it did. -/
def fnExactShiftTimetableSpec : ChangeSpec := { name := "fnExactShiftTimetable", fn := fun _ => fun
  | [d1, d2, d3] => { results := [.lit (.bool true)], args := [d1, d2, d3] }
  | _ => none }
def fnExactShiftTimetableRow : OpenClaim := { program := "ytfhpahnflnahkaa", sum := "0f19f84895b31b95437d51c90db0848fa392229318f2a2269fd0bf2046733998", func := "loop.example/g00941/laws.FnExactShiftTimetable", spec := "fnExactShiftTimetable", unfollowed := true, recurses := true, apart := false }
def FnExactShiftTimetableSaid : Prop := fnExactShiftTimetableRow.holds Try.pinned (OpenSpec.ofChange fnExactShiftTimetableSpec)

/-- ITS FALSE NEIGHBOUR: 'it returns false'. Refute it at one input. -/
def fnExactShiftTimetableWrong : ChangeSpec := { name := "fnExactShiftTimetable", fn := fun _ => fun
  | [d1, d2, d3] => { results := [.lit (.bool false)], args := [d1, d2, d3] }
  | _ => none }
def FnExactShiftTimetableWrongFalsely : Prop := fnExactShiftTimetableRow.holds Try.pinned (OpenSpec.ofChange fnExactShiftTimetableWrong)

/- THE SECOND FORM. 'bulk': how many values and letters a reading holds, each counted each time it is reached (what is shared counts as often as it is met; a slice's spare places count too). A statement '..UptoSaid' is the law's where the arguments, and the package variables that the reading takes, are together of bulk at most 1048576: NARROWER than '..Said'. Prove '..Said' where nothing that the law and all that it calls make is longer than what came in: it says more and counts as full. Else prove '..UptoSaid'. A law counts once. -/
mutual
def uptoBulk {H : Type} : DataW H → Nat
  | .lit (.string bytes) => bytes.length + 1
  | .lit _ => 1
  | .nil => 1
  | .ptr d => uptoBulk d + 1
  | .slice elems spare => uptoBulkAll elems + uptoBulkAll spare + 1
  | .agg parts => uptoBulkAll parts + 1
  | .iface _ d => uptoBulk d + 1
  | .map entries => uptoBulkEntries entries + 1
  | .held _ => 1
def uptoBulkAll {H : Type} : List (DataW H) → Nat
  | [] => 0
  | d :: r => uptoBulk d + uptoBulkAll r
def uptoBulkEntries {H : Type} : List (Lit × DataW H) → Nat
  | [] => 0
  | x :: r => uptoBulkEntry x + uptoBulkEntries r
def uptoBulkEntry {H : Type} : Lit × DataW H → Nat
  | (.string bytes, d) => bytes.length + uptoBulk d + 1
  | (_, d) => uptoBulk d + 1
 end
def uptoSmall : (H : Type) → List (DataW H) → Bool := fun _ ds => decide (uptoBulkAll ds ≤ 1048576)
def OpenSpec.upto (s : _root_.Go.ChangeSpec) : _root_.Go.OpenSpec := { _root_.Go.OpenSpec.ofChange s with cond := some uptoSmall }

/-- 'laws.FnExactSlackOfBonds', WHERE WHAT IT READS IS OF BULK AT MOST 1048576: true; the input reads as it did. -/
def fnExactSlackOfBondsUptoRow : OpenClaim := { program := "ytfhpahnflnahkaa", sum := "0f19f84895b31b95437d51c90db0848fa392229318f2a2269fd0bf2046733998", func := "loop.example/g00941/laws.FnExactSlackOfBonds", spec := "fnExactSlackOfBonds", unfollowed := true, recurses := true, apart := false, narrowed := true }
def FnExactSlackOfBondsUptoSaid : Prop := fnExactSlackOfBondsUptoRow.holds Try.pinned (OpenSpec.upto fnExactSlackOfBondsSpec)

/-- 'laws.FnExactIsKept', WHERE WHAT IT READS IS OF BULK AT MOST 1048576: true; the input reads as it did. -/
def fnExactIsKeptUptoRow : OpenClaim := { program := "ytfhpahnflnahkaa", sum := "0f19f84895b31b95437d51c90db0848fa392229318f2a2269fd0bf2046733998", func := "loop.example/g00941/laws.FnExactIsKept", spec := "fnExactIsKept", unfollowed := true, recurses := true, apart := false, narrowed := true }
def FnExactIsKeptUptoSaid : Prop := fnExactIsKeptUptoRow.holds Try.pinned (OpenSpec.upto fnExactIsKeptSpec)

/-- 'laws.FnExactDueOfLast', WHERE WHAT IT READS IS OF BULK AT MOST 1048576: true; the input reads as it did. -/
def fnExactDueOfLastUptoRow : OpenClaim := { program := "ytfhpahnflnahkaa", sum := "0f19f84895b31b95437d51c90db0848fa392229318f2a2269fd0bf2046733998", func := "loop.example/g00941/laws.FnExactDueOfLast", spec := "fnExactDueOfLast", unfollowed := true, recurses := true, apart := false, narrowed := true }
def FnExactDueOfLastUptoSaid : Prop := fnExactDueOfLastUptoRow.holds Try.pinned (OpenSpec.upto fnExactDueOfLastSpec)

/-- 'laws.FnExactRelabelGraph', WHERE WHAT IT READS IS OF BULK AT MOST 1048576: true; the input reads as it did. -/
def fnExactRelabelGraphUptoRow : OpenClaim := { program := "ytfhpahnflnahkaa", sum := "0f19f84895b31b95437d51c90db0848fa392229318f2a2269fd0bf2046733998", func := "loop.example/g00941/laws.FnExactRelabelGraph", spec := "fnExactRelabelGraph", unfollowed := true, recurses := true, apart := false, narrowed := true }
def FnExactRelabelGraphUptoSaid : Prop := fnExactRelabelGraphUptoRow.holds Try.pinned (OpenSpec.upto fnExactRelabelGraphSpec)

/-- 'laws.FnExactSlacksOf', WHERE WHAT IT READS IS OF BULK AT MOST 1048576: true; the input reads as it did. -/
def fnExactSlacksOfUptoRow : OpenClaim := { program := "ytfhpahnflnahkaa", sum := "0f19f84895b31b95437d51c90db0848fa392229318f2a2269fd0bf2046733998", func := "loop.example/g00941/laws.FnExactSlacksOf", spec := "fnExactSlacksOf", unfollowed := true, recurses := true, apart := false, narrowed := true }
def FnExactSlacksOfUptoSaid : Prop := fnExactSlacksOfUptoRow.holds Try.pinned (OpenSpec.upto fnExactSlacksOfSpec)

/-- 'laws.FnExactPartOfGraph', WHERE WHAT IT READS IS OF BULK AT MOST 1048576: true; the input reads as it did. -/
def fnExactPartOfGraphUptoRow : OpenClaim := { program := "ytfhpahnflnahkaa", sum := "0f19f84895b31b95437d51c90db0848fa392229318f2a2269fd0bf2046733998", func := "loop.example/g00941/laws.FnExactPartOfGraph", spec := "fnExactPartOfGraph", unfollowed := true, recurses := true, apart := false, narrowed := true }
def FnExactPartOfGraphUptoSaid : Prop := fnExactPartOfGraphUptoRow.holds Try.pinned (OpenSpec.upto fnExactPartOfGraphSpec)

/-- 'laws.FnExactTightPlaces', WHERE WHAT IT READS IS OF BULK AT MOST 1048576: true; the input reads as it did. -/
def fnExactTightPlacesUptoRow : OpenClaim := { program := "ytfhpahnflnahkaa", sum := "0f19f84895b31b95437d51c90db0848fa392229318f2a2269fd0bf2046733998", func := "loop.example/g00941/laws.FnExactTightPlaces", spec := "fnExactTightPlaces", unfollowed := true, recurses := true, apart := false, narrowed := true }
def FnExactTightPlacesUptoSaid : Prop := fnExactTightPlacesUptoRow.holds Try.pinned (OpenSpec.upto fnExactTightPlacesSpec)

/-- 'laws.FnExactShiftTimetable', WHERE WHAT IT READS IS OF BULK AT MOST 1048576: true; the input reads as it did. -/
def fnExactShiftTimetableUptoRow : OpenClaim := { program := "ytfhpahnflnahkaa", sum := "0f19f84895b31b95437d51c90db0848fa392229318f2a2269fd0bf2046733998", func := "loop.example/g00941/laws.FnExactShiftTimetable", spec := "fnExactShiftTimetable", unfollowed := true, recurses := true, apart := false, narrowed := true }
def FnExactShiftTimetableUptoSaid : Prop := fnExactShiftTimetableUptoRow.holds Try.pinned (OpenSpec.upto fnExactShiftTimetableSpec)

end Rows
end Go.Proofs.Ytfhpahnflnahkaa
