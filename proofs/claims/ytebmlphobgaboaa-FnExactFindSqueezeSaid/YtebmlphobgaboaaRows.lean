/-
  No cell of these rows narrows 'for every input' (looked for: loops, veiled, ifaces, maps, wideKeys, modest, calm, conditions, laid).
  DERIVED. THE GIVEN ROWS OF THIS SEAT. 6 by the template 'for every input the law returns true; each argument reads behind the call as it read before'; 0 by the template 'total and deterministic' (their statements: YtebmlphobgaboaaTotals.lean).
  GIVEN WITH THE SEED: the statements are not yours to turn. If you find one false, say at which input.
  Laid BY PROGRAM, IN A SANDBOX (cutbox-rows.mjs): the forced cells as the released guide's own fill.sh prints them over the translation cb5edc5985a2dc63… (all of the seat's roots in one cut). By AI agents, Wed Nov 11 2026. No macro, syntax, notation, axiom, sorry.
-/
import Derived.Test.YtebmlphobgaboaaChecked
import GoSem.Claim
import GoSem.ClaimJoined
import GoSem.ClaimMapViews
import Derived.JoinedTies
import Derived.KernelRfl
namespace Go.Proofs.Ytebmlphobgaboaa
/- THE CELL 'sum', in the pinned program and in every row, IS THE sha256 OF THE DUMP (.gsa) THAT YtebmlphobgaboaaProg.lean LOADS. Nothing in Lean hashes anything: it is a label: what it is worth is what the hold of that sum in a sandbox is worth. -/
noncomputable def Try.pinned : Pinned := { name := "ytebmlphobgaboaa", sum := "cb5edc5985a2dc637f6c3e29168b21bb9dbd8b4962b66ca28c4463dc47ebb5c8", checked := Try.checked }
namespace Rows
def none {H : Type} : Left H := { results := [], args := [] }

/-- 'laws.FnExactHighestWord': WHATEVER THE INPUT: true; the input reads as it did. -/
def fnExactHighestWordSpec : ChangeSpec := { name := "fnExactHighestWord", fn := fun _ => fun
  | [d1, d2, d3] => { results := [.lit (.bool true)], args := [d1, d2, d3] }
  | _ => none }
def fnExactHighestWordRow : OpenClaim := { program := "ytebmlphobgaboaa", sum := "cb5edc5985a2dc637f6c3e29168b21bb9dbd8b4962b66ca28c4463dc47ebb5c8", func := "loop.example/g00941/laws.FnExactHighestWord", spec := "fnExactHighestWord", unfollowed := true, recurses := true, apart := false }
def FnExactHighestWordSaid : Prop := fnExactHighestWordRow.holds Try.pinned (OpenSpec.ofChange fnExactHighestWordSpec)

/-- ITS FALSE NEIGHBOUR: 'it returns false'. Refute it at one input. -/
def fnExactHighestWordWrong : ChangeSpec := { name := "fnExactHighestWord", fn := fun _ => fun
  | [d1, d2, d3] => { results := [.lit (.bool false)], args := [d1, d2, d3] }
  | _ => none }
def FnExactHighestWordWrongFalsely : Prop := fnExactHighestWordRow.holds Try.pinned (OpenSpec.ofChange fnExactHighestWordWrong)

/-- 'laws.FnExactLowestWord': WHATEVER THE INPUT: true; the input reads as it did. -/
def fnExactLowestWordSpec : ChangeSpec := { name := "fnExactLowestWord", fn := fun _ => fun
  | [d1, d2, d3] => { results := [.lit (.bool true)], args := [d1, d2, d3] }
  | _ => none }
def fnExactLowestWordRow : OpenClaim := { program := "ytebmlphobgaboaa", sum := "cb5edc5985a2dc637f6c3e29168b21bb9dbd8b4962b66ca28c4463dc47ebb5c8", func := "loop.example/g00941/laws.FnExactLowestWord", spec := "fnExactLowestWord", unfollowed := true, recurses := true, apart := false }
def FnExactLowestWordSaid : Prop := fnExactLowestWordRow.holds Try.pinned (OpenSpec.ofChange fnExactLowestWordSpec)

/-- ITS FALSE NEIGHBOUR: 'it returns false'. Refute it at one input. -/
def fnExactLowestWordWrong : ChangeSpec := { name := "fnExactLowestWord", fn := fun _ => fun
  | [d1, d2, d3] => { results := [.lit (.bool false)], args := [d1, d2, d3] }
  | _ => none }
def FnExactLowestWordWrongFalsely : Prop := fnExactLowestWordRow.holds Try.pinned (OpenSpec.ofChange fnExactLowestWordWrong)

/-- 'laws.FnExactFindSqueeze': WHATEVER THE INPUT: true; the input reads as it did. -/
def fnExactFindSqueezeSpec : ChangeSpec := { name := "fnExactFindSqueeze", fn := fun _ => fun
  | [d1, d2] => { results := [.lit (.bool true)], args := [d1, d2] }
  | _ => none }
def fnExactFindSqueezeRow : OpenClaim := { program := "ytebmlphobgaboaa", sum := "cb5edc5985a2dc637f6c3e29168b21bb9dbd8b4962b66ca28c4463dc47ebb5c8", func := "loop.example/g00941/laws.FnExactFindSqueeze", spec := "fnExactFindSqueeze", unfollowed := true, recurses := true, apart := false }
def FnExactFindSqueezeSaid : Prop := fnExactFindSqueezeRow.holds Try.pinned (OpenSpec.ofChange fnExactFindSqueezeSpec)

/-- ITS FALSE NEIGHBOUR: 'it returns false'. Refute it at one input. -/
def fnExactFindSqueezeWrong : ChangeSpec := { name := "fnExactFindSqueeze", fn := fun _ => fun
  | [d1, d2] => { results := [.lit (.bool false)], args := [d1, d2] }
  | _ => none }
def FnExactFindSqueezeWrongFalsely : Prop := fnExactFindSqueezeRow.holds Try.pinned (OpenSpec.ofChange fnExactFindSqueezeWrong)

/-- 'laws.FnSettled': WHATEVER THE INPUT: true; the input reads as it did. -/
def fnSettledSpec : ChangeSpec := { name := "fnSettled", fn := fun _ => fun
  | [d] => { results := [.lit (.bool true)], args := [d] }
  | _ => none }
def fnSettledRow : OpenClaim := { program := "ytebmlphobgaboaa", sum := "cb5edc5985a2dc637f6c3e29168b21bb9dbd8b4962b66ca28c4463dc47ebb5c8", func := "loop.example/g00941/laws.FnSettled", spec := "fnSettled", unfollowed := true, recurses := true, apart := false }
def FnSettledSaid : Prop := fnSettledRow.holds Try.pinned (OpenSpec.ofChange fnSettledSpec)

/-- ITS FALSE NEIGHBOUR: 'it returns false'. Refute it at one input. -/
def fnSettledWrong : ChangeSpec := { name := "fnSettled", fn := fun _ => fun
  | [d] => { results := [.lit (.bool false)], args := [d] }
  | _ => none }
def FnSettledWrongFalsely : Prop := fnSettledRow.holds Try.pinned (OpenSpec.ofChange fnSettledWrong)

/-- 'laws.FnFreeSlacks': WHATEVER THE INPUT: true; the input reads as it did. -/
def fnFreeSlacksSpec : ChangeSpec := { name := "fnFreeSlacks", fn := fun _ => fun
  | [d] => { results := [.lit (.bool true)], args := [d] }
  | _ => none }
def fnFreeSlacksRow : OpenClaim := { program := "ytebmlphobgaboaa", sum := "cb5edc5985a2dc637f6c3e29168b21bb9dbd8b4962b66ca28c4463dc47ebb5c8", func := "loop.example/g00941/laws.FnFreeSlacks", spec := "fnFreeSlacks", unfollowed := true, recurses := true, apart := false }
def FnFreeSlacksSaid : Prop := fnFreeSlacksRow.holds Try.pinned (OpenSpec.ofChange fnFreeSlacksSpec)

/-- ITS FALSE NEIGHBOUR: 'it returns false'. Refute it at one input. -/
def fnFreeSlacksWrong : ChangeSpec := { name := "fnFreeSlacks", fn := fun _ => fun
  | [d] => { results := [.lit (.bool false)], args := [d] }
  | _ => none }
def FnFreeSlacksWrongFalsely : Prop := fnFreeSlacksRow.holds Try.pinned (OpenSpec.ofChange fnFreeSlacksWrong)

/-- 'laws.FnDue': WHATEVER THE INPUT: true; the input reads as it did. -/
def fnDueSpec : ChangeSpec := { name := "fnDue", fn := fun _ => fun
  | [d] => { results := [.lit (.bool true)], args := [d] }
  | _ => none }
def fnDueRow : OpenClaim := { program := "ytebmlphobgaboaa", sum := "cb5edc5985a2dc637f6c3e29168b21bb9dbd8b4962b66ca28c4463dc47ebb5c8", func := "loop.example/g00941/laws.FnDue", spec := "fnDue", unfollowed := true, recurses := true, apart := false }
def FnDueSaid : Prop := fnDueRow.holds Try.pinned (OpenSpec.ofChange fnDueSpec)

/-- ITS FALSE NEIGHBOUR: 'it returns false'. Refute it at one input. -/
def fnDueWrong : ChangeSpec := { name := "fnDue", fn := fun _ => fun
  | [d] => { results := [.lit (.bool false)], args := [d] }
  | _ => none }
def FnDueWrongFalsely : Prop := fnDueRow.holds Try.pinned (OpenSpec.ofChange fnDueWrong)

/- THE SECOND FORM. 'bulk': how many values and letters a reading holds, each counted each time it is reached (what is shared counts as often as it is met; a slice's spare places count too). A statement '..UptoSaid' is the law's where the arguments, and the package variables that the reading takes, are together of bulk at most 1048576: NARROWER than '..Said'. Prove '..Said' where nothing that the law and all that it calls make is longer than what came in: it says more and counts as full. Else prove '..UptoSaid'. A law counts once. -/
mutual
def uptoBulk {H : Type} : DataW H → Nat
  | .lit (.string bytes) => bytes.length + 1
  | .lit _ => 1
  | .nil => 1
  | .ptr d => uptoBulk d + 1
  | .slice elems spare => uptoBulkAll elems + uptoBulkAll spare + 1
  | .agg parts => uptoBulkAll parts + 1
  | .iface _ d => uptoBulk d + 1
  | .map entries => uptoBulkEntries entries + 1
  | .held _ => 1
def uptoBulkAll {H : Type} : List (DataW H) → Nat
  | [] => 0
  | d :: r => uptoBulk d + uptoBulkAll r
def uptoBulkEntries {H : Type} : List (Lit × DataW H) → Nat
  | [] => 0
  | x :: r => uptoBulkEntry x + uptoBulkEntries r
def uptoBulkEntry {H : Type} : Lit × DataW H → Nat
  | (.string bytes, d) => bytes.length + uptoBulk d + 1
  | (_, d) => uptoBulk d + 1
 end
def uptoSmall : (H : Type) → List (DataW H) → Bool := fun _ ds => decide (uptoBulkAll ds ≤ 1048576)
def OpenSpec.upto (s : _root_.Go.ChangeSpec) : _root_.Go.OpenSpec := { _root_.Go.OpenSpec.ofChange s with cond := some uptoSmall }

/-- 'laws.FnExactHighestWord', WHERE WHAT IT READS IS OF BULK AT MOST 1048576: true; the input reads as it did. -/
def fnExactHighestWordUptoRow : OpenClaim := { program := "ytebmlphobgaboaa", sum := "cb5edc5985a2dc637f6c3e29168b21bb9dbd8b4962b66ca28c4463dc47ebb5c8", func := "loop.example/g00941/laws.FnExactHighestWord", spec := "fnExactHighestWord", unfollowed := true, recurses := true, apart := false, narrowed := true }
def FnExactHighestWordUptoSaid : Prop := fnExactHighestWordUptoRow.holds Try.pinned (OpenSpec.upto fnExactHighestWordSpec)

/-- 'laws.FnExactLowestWord', WHERE WHAT IT READS IS OF BULK AT MOST 1048576: true; the input reads as it did. -/
def fnExactLowestWordUptoRow : OpenClaim := { program := "ytebmlphobgaboaa", sum := "cb5edc5985a2dc637f6c3e29168b21bb9dbd8b4962b66ca28c4463dc47ebb5c8", func := "loop.example/g00941/laws.FnExactLowestWord", spec := "fnExactLowestWord", unfollowed := true, recurses := true, apart := false, narrowed := true }
def FnExactLowestWordUptoSaid : Prop := fnExactLowestWordUptoRow.holds Try.pinned (OpenSpec.upto fnExactLowestWordSpec)

/-- 'laws.FnExactFindSqueeze', WHERE WHAT IT READS IS OF BULK AT MOST 1048576: true; the input reads as it did. -/
def fnExactFindSqueezeUptoRow : OpenClaim := { program := "ytebmlphobgaboaa", sum := "cb5edc5985a2dc637f6c3e29168b21bb9dbd8b4962b66ca28c4463dc47ebb5c8", func := "loop.example/g00941/laws.FnExactFindSqueeze", spec := "fnExactFindSqueeze", unfollowed := true, recurses := true, apart := false, narrowed := true }
def FnExactFindSqueezeUptoSaid : Prop := fnExactFindSqueezeUptoRow.holds Try.pinned (OpenSpec.upto fnExactFindSqueezeSpec)

/-- 'laws.FnSettled', WHERE WHAT IT READS IS OF BULK AT MOST 1048576: true; the input reads as it did. -/
def fnSettledUptoRow : OpenClaim := { program := "ytebmlphobgaboaa", sum := "cb5edc5985a2dc637f6c3e29168b21bb9dbd8b4962b66ca28c4463dc47ebb5c8", func := "loop.example/g00941/laws.FnSettled", spec := "fnSettled", unfollowed := true, recurses := true, apart := false, narrowed := true }
def FnSettledUptoSaid : Prop := fnSettledUptoRow.holds Try.pinned (OpenSpec.upto fnSettledSpec)

/-- 'laws.FnFreeSlacks', WHERE WHAT IT READS IS OF BULK AT MOST 1048576: true; the input reads as it did. -/
def fnFreeSlacksUptoRow : OpenClaim := { program := "ytebmlphobgaboaa", sum := "cb5edc5985a2dc637f6c3e29168b21bb9dbd8b4962b66ca28c4463dc47ebb5c8", func := "loop.example/g00941/laws.FnFreeSlacks", spec := "fnFreeSlacks", unfollowed := true, recurses := true, apart := false, narrowed := true }
def FnFreeSlacksUptoSaid : Prop := fnFreeSlacksUptoRow.holds Try.pinned (OpenSpec.upto fnFreeSlacksSpec)

/-- 'laws.FnDue', WHERE WHAT IT READS IS OF BULK AT MOST 1048576: true; the input reads as it did. -/
def fnDueUptoRow : OpenClaim := { program := "ytebmlphobgaboaa", sum := "cb5edc5985a2dc637f6c3e29168b21bb9dbd8b4962b66ca28c4463dc47ebb5c8", func := "loop.example/g00941/laws.FnDue", spec := "fnDue", unfollowed := true, recurses := true, apart := false, narrowed := true }
def FnDueUptoSaid : Prop := fnDueUptoRow.holds Try.pinned (OpenSpec.upto fnDueSpec)

end Rows
end Go.Proofs.Ytebmlphobgaboaa
