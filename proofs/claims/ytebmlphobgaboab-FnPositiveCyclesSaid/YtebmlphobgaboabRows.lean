/-
  No cell of these rows narrows 'for every input' (looked for: loops, veiled, ifaces, maps, wideKeys, modest, calm, conditions, laid).
  DERIVED. THE GIVEN ROWS OF THIS SEAT. 6 by the template 'for every input the law returns true; each argument reads behind the call as it read before'; 0 by the template 'total and deterministic' (their statements: YtebmlphobgaboabTotals.lean).
  GIVEN WITH THE SEED: the statements are not yours to turn. If you find one false, say at which input.
  Laid BY PROGRAM, IN A SANDBOX (cutbox-rows.mjs): the forced cells as the released guide's own fill.sh prints them over the translation 9269f21d6dbb32b7… (all of the seat's roots in one cut). By AI agents, Wed Nov 11 2026. No macro, syntax, notation, axiom, sorry.
-/
import Derived.Test.YtebmlphobgaboabChecked
import GoSem.Claim
import GoSem.ClaimJoined
import GoSem.ClaimMapViews
import Derived.JoinedTies
import Derived.KernelRfl
namespace Go.Proofs.Ytebmlphobgaboab
/- THE CELL 'sum', in the pinned program and in every row, IS THE sha256 OF THE DUMP (.gsa) THAT YtebmlphobgaboabProg.lean LOADS. Nothing in Lean hashes anything: it is a label: what it is worth is what the hold of that sum in a sandbox is worth. -/
noncomputable def Try.pinned : Pinned := { name := "ytebmlphobgaboab", sum := "9269f21d6dbb32b76e1b7c26cdcfa3f11a360f1b25ff5647aa229a95a99b2604", checked := Try.checked }
namespace Rows
def none {H : Type} : Left H := { results := [], args := [] }

/-- 'laws.FnTasks': WHATEVER THE INPUT: true; the input reads as it did. -/
def fnTasksSpec : ChangeSpec := { name := "fnTasks", fn := fun _ => fun
  | [d] => { results := [.lit (.bool true)], args := [d] }
  | _ => none }
def fnTasksRow : OpenClaim := { program := "ytebmlphobgaboab", sum := "9269f21d6dbb32b76e1b7c26cdcfa3f11a360f1b25ff5647aa229a95a99b2604", func := "loop.example/g00941/laws.FnTasks", spec := "fnTasks", unfollowed := true, recurses := true, apart := false }
def FnTasksSaid : Prop := fnTasksRow.holds Try.pinned (OpenSpec.ofChange fnTasksSpec)

/-- ITS FALSE NEIGHBOUR: 'it returns false'. Refute it at one input. -/
def fnTasksWrong : ChangeSpec := { name := "fnTasks", fn := fun _ => fun
  | [d] => { results := [.lit (.bool false)], args := [d] }
  | _ => none }
def FnTasksWrongFalsely : Prop := fnTasksRow.holds Try.pinned (OpenSpec.ofChange fnTasksWrong)

/-- 'laws.FnStars': WHATEVER THE INPUT: true; the input reads as it did. -/
def fnStarsSpec : ChangeSpec := { name := "fnStars", fn := fun _ => fun
  | [d] => { results := [.lit (.bool true)], args := [d] }
  | _ => none }
def fnStarsRow : OpenClaim := { program := "ytebmlphobgaboab", sum := "9269f21d6dbb32b76e1b7c26cdcfa3f11a360f1b25ff5647aa229a95a99b2604", func := "loop.example/g00941/laws.FnStars", spec := "fnStars", unfollowed := true, recurses := true, apart := false }
def FnStarsSaid : Prop := fnStarsRow.holds Try.pinned (OpenSpec.ofChange fnStarsSpec)

/-- ITS FALSE NEIGHBOUR: 'it returns false'. Refute it at one input. -/
def fnStarsWrong : ChangeSpec := { name := "fnStars", fn := fun _ => fun
  | [d] => { results := [.lit (.bool false)], args := [d] }
  | _ => none }
def FnStarsWrongFalsely : Prop := fnStarsRow.holds Try.pinned (OpenSpec.ofChange fnStarsWrong)

/-- 'laws.FnPositiveCycles': WHATEVER THE INPUT: true; the input reads as it did. -/
def fnPositiveCyclesSpec : ChangeSpec := { name := "fnPositiveCycles", fn := fun _ => fun
  | [d] => { results := [.lit (.bool true)], args := [d] }
  | _ => none }
def fnPositiveCyclesRow : OpenClaim := { program := "ytebmlphobgaboab", sum := "9269f21d6dbb32b76e1b7c26cdcfa3f11a360f1b25ff5647aa229a95a99b2604", func := "loop.example/g00941/laws.FnPositiveCycles", spec := "fnPositiveCycles", unfollowed := true, recurses := true, apart := false }
def FnPositiveCyclesSaid : Prop := fnPositiveCyclesRow.holds Try.pinned (OpenSpec.ofChange fnPositiveCyclesSpec)

/-- ITS FALSE NEIGHBOUR: 'it returns false'. Refute it at one input. -/
def fnPositiveCyclesWrong : ChangeSpec := { name := "fnPositiveCycles", fn := fun _ => fun
  | [d] => { results := [.lit (.bool false)], args := [d] }
  | _ => none }
def FnPositiveCyclesWrongFalsely : Prop := fnPositiveCyclesRow.holds Try.pinned (OpenSpec.ofChange fnPositiveCyclesWrong)

/-- 'laws.FnLatest': WHATEVER THE INPUT: true; the input reads as it did. -/
def fnLatestSpec : ChangeSpec := { name := "fnLatest", fn := fun _ => fun
  | [d] => { results := [.lit (.bool true)], args := [d] }
  | _ => none }
def fnLatestRow : OpenClaim := { program := "ytebmlphobgaboab", sum := "9269f21d6dbb32b76e1b7c26cdcfa3f11a360f1b25ff5647aa229a95a99b2604", func := "loop.example/g00941/laws.FnLatest", spec := "fnLatest", unfollowed := true, recurses := true, apart := false }
def FnLatestSaid : Prop := fnLatestRow.holds Try.pinned (OpenSpec.ofChange fnLatestSpec)

/-- ITS FALSE NEIGHBOUR: 'it returns false'. Refute it at one input. -/
def fnLatestWrong : ChangeSpec := { name := "fnLatest", fn := fun _ => fun
  | [d] => { results := [.lit (.bool false)], args := [d] }
  | _ => none }
def FnLatestWrongFalsely : Prop := fnLatestRow.holds Try.pinned (OpenSpec.ofChange fnLatestWrong)

/-- 'laws.FnLatestTables': WHATEVER THE INPUT: true; the input reads as it did. -/
def fnLatestTablesSpec : ChangeSpec := { name := "fnLatestTables", fn := fun _ => fun
  | [d] => { results := [.lit (.bool true)], args := [d] }
  | _ => none }
def fnLatestTablesRow : OpenClaim := { program := "ytebmlphobgaboab", sum := "9269f21d6dbb32b76e1b7c26cdcfa3f11a360f1b25ff5647aa229a95a99b2604", func := "loop.example/g00941/laws.FnLatestTables", spec := "fnLatestTables", unfollowed := true, recurses := true, apart := false }
def FnLatestTablesSaid : Prop := fnLatestTablesRow.holds Try.pinned (OpenSpec.ofChange fnLatestTablesSpec)

/-- ITS FALSE NEIGHBOUR: 'it returns false'. Refute it at one input. -/
def fnLatestTablesWrong : ChangeSpec := { name := "fnLatestTables", fn := fun _ => fun
  | [d] => { results := [.lit (.bool false)], args := [d] }
  | _ => none }
def FnLatestTablesWrongFalsely : Prop := fnLatestTablesRow.holds Try.pinned (OpenSpec.ofChange fnLatestTablesWrong)

/-- 'laws.FnDelays': WHATEVER THE INPUT: true; the input reads as it did. -/
def fnDelaysSpec : ChangeSpec := { name := "fnDelays", fn := fun _ => fun
  | [d] => { results := [.lit (.bool true)], args := [d] }
  | _ => none }
def fnDelaysRow : OpenClaim := { program := "ytebmlphobgaboab", sum := "9269f21d6dbb32b76e1b7c26cdcfa3f11a360f1b25ff5647aa229a95a99b2604", func := "loop.example/g00941/laws.FnDelays", spec := "fnDelays", unfollowed := true, recurses := true, apart := false }
def FnDelaysSaid : Prop := fnDelaysRow.holds Try.pinned (OpenSpec.ofChange fnDelaysSpec)

/-- ITS FALSE NEIGHBOUR: 'it returns false'. Refute it at one input. -/
def fnDelaysWrong : ChangeSpec := { name := "fnDelays", fn := fun _ => fun
  | [d] => { results := [.lit (.bool false)], args := [d] }
  | _ => none }
def FnDelaysWrongFalsely : Prop := fnDelaysRow.holds Try.pinned (OpenSpec.ofChange fnDelaysWrong)

/- THE SECOND FORM. 'bulk': how many values and letters a reading holds, each counted each time it is reached (what is shared counts as often as it is met; a slice's spare places count too). A statement '..UptoSaid' is the law's where the arguments, and the package variables that the reading takes, are together of bulk at most 1048576: NARROWER than '..Said'. Prove '..Said' where nothing that the law and all that it calls make is longer than what came in: it says more and counts as full. Else prove '..UptoSaid'. A law counts once. -/
mutual
def uptoBulk {H : Type} : DataW H → Nat
  | .lit (.string bytes) => bytes.length + 1
  | .lit _ => 1
  | .nil => 1
  | .ptr d => uptoBulk d + 1
  | .slice elems spare => uptoBulkAll elems + uptoBulkAll spare + 1
  | .agg parts => uptoBulkAll parts + 1
  | .iface _ d => uptoBulk d + 1
  | .map entries => uptoBulkEntries entries + 1
  | .held _ => 1
def uptoBulkAll {H : Type} : List (DataW H) → Nat
  | [] => 0
  | d :: r => uptoBulk d + uptoBulkAll r
def uptoBulkEntries {H : Type} : List (Lit × DataW H) → Nat
  | [] => 0
  | x :: r => uptoBulkEntry x + uptoBulkEntries r
def uptoBulkEntry {H : Type} : Lit × DataW H → Nat
  | (.string bytes, d) => bytes.length + uptoBulk d + 1
  | (_, d) => uptoBulk d + 1
 end
def uptoSmall : (H : Type) → List (DataW H) → Bool := fun _ ds => decide (uptoBulkAll ds ≤ 1048576)
def OpenSpec.upto (s : _root_.Go.ChangeSpec) : _root_.Go.OpenSpec := { _root_.Go.OpenSpec.ofChange s with cond := some uptoSmall }

/-- 'laws.FnTasks', WHERE WHAT IT READS IS OF BULK AT MOST 1048576: true; the input reads as it did. -/
def fnTasksUptoRow : OpenClaim := { program := "ytebmlphobgaboab", sum := "9269f21d6dbb32b76e1b7c26cdcfa3f11a360f1b25ff5647aa229a95a99b2604", func := "loop.example/g00941/laws.FnTasks", spec := "fnTasks", unfollowed := true, recurses := true, apart := false, narrowed := true }
def FnTasksUptoSaid : Prop := fnTasksUptoRow.holds Try.pinned (OpenSpec.upto fnTasksSpec)

/-- 'laws.FnStars', WHERE WHAT IT READS IS OF BULK AT MOST 1048576: true; the input reads as it did. -/
def fnStarsUptoRow : OpenClaim := { program := "ytebmlphobgaboab", sum := "9269f21d6dbb32b76e1b7c26cdcfa3f11a360f1b25ff5647aa229a95a99b2604", func := "loop.example/g00941/laws.FnStars", spec := "fnStars", unfollowed := true, recurses := true, apart := false, narrowed := true }
def FnStarsUptoSaid : Prop := fnStarsUptoRow.holds Try.pinned (OpenSpec.upto fnStarsSpec)

/-- 'laws.FnPositiveCycles', WHERE WHAT IT READS IS OF BULK AT MOST 1048576: true; the input reads as it did. -/
def fnPositiveCyclesUptoRow : OpenClaim := { program := "ytebmlphobgaboab", sum := "9269f21d6dbb32b76e1b7c26cdcfa3f11a360f1b25ff5647aa229a95a99b2604", func := "loop.example/g00941/laws.FnPositiveCycles", spec := "fnPositiveCycles", unfollowed := true, recurses := true, apart := false, narrowed := true }
def FnPositiveCyclesUptoSaid : Prop := fnPositiveCyclesUptoRow.holds Try.pinned (OpenSpec.upto fnPositiveCyclesSpec)

/-- 'laws.FnLatest', WHERE WHAT IT READS IS OF BULK AT MOST 1048576: true; the input reads as it did. -/
def fnLatestUptoRow : OpenClaim := { program := "ytebmlphobgaboab", sum := "9269f21d6dbb32b76e1b7c26cdcfa3f11a360f1b25ff5647aa229a95a99b2604", func := "loop.example/g00941/laws.FnLatest", spec := "fnLatest", unfollowed := true, recurses := true, apart := false, narrowed := true }
def FnLatestUptoSaid : Prop := fnLatestUptoRow.holds Try.pinned (OpenSpec.upto fnLatestSpec)

/-- 'laws.FnLatestTables', WHERE WHAT IT READS IS OF BULK AT MOST 1048576: true; the input reads as it did. -/
def fnLatestTablesUptoRow : OpenClaim := { program := "ytebmlphobgaboab", sum := "9269f21d6dbb32b76e1b7c26cdcfa3f11a360f1b25ff5647aa229a95a99b2604", func := "loop.example/g00941/laws.FnLatestTables", spec := "fnLatestTables", unfollowed := true, recurses := true, apart := false, narrowed := true }
def FnLatestTablesUptoSaid : Prop := fnLatestTablesUptoRow.holds Try.pinned (OpenSpec.upto fnLatestTablesSpec)

/-- 'laws.FnDelays', WHERE WHAT IT READS IS OF BULK AT MOST 1048576: true; the input reads as it did. -/
def fnDelaysUptoRow : OpenClaim := { program := "ytebmlphobgaboab", sum := "9269f21d6dbb32b76e1b7c26cdcfa3f11a360f1b25ff5647aa229a95a99b2604", func := "loop.example/g00941/laws.FnDelays", spec := "fnDelays", unfollowed := true, recurses := true, apart := false, narrowed := true }
def FnDelaysUptoSaid : Prop := fnDelaysUptoRow.holds Try.pinned (OpenSpec.upto fnDelaysSpec)

end Rows
end Go.Proofs.Ytebmlphobgaboab
