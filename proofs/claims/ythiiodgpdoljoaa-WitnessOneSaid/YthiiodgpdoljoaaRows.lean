/-
  No cell of these rows narrows 'for every input' (looked for: loops, veiled, ifaces, maps, wideKeys, modest, calm, conditions, laid).
  DERIVED. THE GIVEN ROWS OF THIS SEAT. 9 by the template 'for every input the law returns true; each argument reads behind the call as it read before'; 0 by the template 'total and deterministic' (their statements: YthiiodgpdoljoaaTotals.lean).
  GIVEN WITH THE SEED: the statements are not yours to turn. If you find one false, say at which input.
  Laid BY PROGRAM, IN A SANDBOX (cutbox-rows.mjs): the forced cells as the released guide's own fill.sh prints them over the translation 0c0da4757398c17d… (all of the seat's roots in one cut). By AI agents, Wed Nov 11 2026. No macro, syntax, notation, axiom, sorry.
-/
import Derived.Test.YthiiodgpdoljoaaChecked
import GoSem.Claim
import GoSem.ClaimJoined
import GoSem.ClaimMapViews
import Derived.JoinedTies
import Derived.KernelRfl
namespace Go.Proofs.Ythiiodgpdoljoaa
/- THE CELL 'sum', in the pinned program and in every row, IS THE sha256 OF THE DUMP (.gsa) THAT YthiiodgpdoljoaaProg.lean LOADS. Nothing in Lean hashes anything: it is a label: what it is worth is what the hold of that sum in a sandbox is worth. -/
noncomputable def Try.pinned : Pinned := { name := "ythiiodgpdoljoaa", sum := "0c0da4757398c17d967b7acf5842efbc7b876bfdde76f4f631d2bde44e42f0ff", checked := Try.checked }
namespace Rows
def none {H : Type} : Left H := { results := [], args := [] }

/-- 'steeplelaw25.CircuitLays': WHATEVER THE INPUT: true; the input reads as it did. -/
def circuitLaysSpec : ChangeSpec := { name := "circuitLays", fn := fun _ => fun
  | [d] => { results := [.lit (.bool true)], args := [d] }
  | _ => none }
def circuitLaysRow : OpenClaim := { program := "ythiiodgpdoljoaa", sum := "0c0da4757398c17d967b7acf5842efbc7b876bfdde76f4f631d2bde44e42f0ff", func := "steeple/steeplelaw25.CircuitLays", spec := "circuitLays", apart := false }
def CircuitLaysSaid : Prop := circuitLaysRow.holds Try.pinned (OpenSpec.ofChange circuitLaysSpec)

/-- ITS FALSE NEIGHBOUR: 'it returns false'. Refute it at one input. -/
def circuitLaysWrong : ChangeSpec := { name := "circuitLays", fn := fun _ => fun
  | [d] => { results := [.lit (.bool false)], args := [d] }
  | _ => none }
def CircuitLaysWrongFalsely : Prop := circuitLaysRow.holds Try.pinned (OpenSpec.ofChange circuitLaysWrong)

/-- 'steeplelaw25.CircuitChecks': WHATEVER THE INPUT: true; the input reads as it did. -/
def circuitChecksSpec : ChangeSpec := { name := "circuitChecks", fn := fun _ => fun
  | [d] => { results := [.lit (.bool true)], args := [d] }
  | _ => none }
def circuitChecksRow : OpenClaim := { program := "ythiiodgpdoljoaa", sum := "0c0da4757398c17d967b7acf5842efbc7b876bfdde76f4f631d2bde44e42f0ff", func := "steeple/steeplelaw25.CircuitChecks", spec := "circuitChecks", apart := false }
def CircuitChecksSaid : Prop := circuitChecksRow.holds Try.pinned (OpenSpec.ofChange circuitChecksSpec)

/-- ITS FALSE NEIGHBOUR: 'it returns false'. Refute it at one input. -/
def circuitChecksWrong : ChangeSpec := { name := "circuitChecks", fn := fun _ => fun
  | [d] => { results := [.lit (.bool false)], args := [d] }
  | _ => none }
def CircuitChecksWrongFalsely : Prop := circuitChecksRow.holds Try.pinned (OpenSpec.ofChange circuitChecksWrong)

/-- 'steeplelaw27.WitnessRuns': WHATEVER THE INPUT: true; the input reads as it did. -/
def witnessRunsSpec : ChangeSpec := { name := "witnessRuns", fn := fun _ => fun
  | [d1, d2] => { results := [.lit (.bool true)], args := [d1, d2] }
  | _ => none }
def witnessRunsRow : OpenClaim := { program := "ythiiodgpdoljoaa", sum := "0c0da4757398c17d967b7acf5842efbc7b876bfdde76f4f631d2bde44e42f0ff", func := "steeple/steeplelaw27.WitnessRuns", spec := "witnessRuns", unfollowed := true, recurses := true, apart := false }
def WitnessRunsSaid : Prop := witnessRunsRow.holds Try.pinned (OpenSpec.ofChange witnessRunsSpec)

/-- ITS FALSE NEIGHBOUR: 'it returns false'. Refute it at one input. -/
def witnessRunsWrong : ChangeSpec := { name := "witnessRuns", fn := fun _ => fun
  | [d1, d2] => { results := [.lit (.bool false)], args := [d1, d2] }
  | _ => none }
def WitnessRunsWrongFalsely : Prop := witnessRunsRow.holds Try.pinned (OpenSpec.ofChange witnessRunsWrong)

/-- 'steeplelaw27.WitnessOne': WHATEVER THE INPUT: true; the input reads as it did. -/
def witnessOneSpec : ChangeSpec := { name := "witnessOne", fn := fun _ => fun
  | [d1, d2, d3] => { results := [.lit (.bool true)], args := [d1, d2, d3] }
  | _ => none }
def witnessOneRow : OpenClaim := { program := "ythiiodgpdoljoaa", sum := "0c0da4757398c17d967b7acf5842efbc7b876bfdde76f4f631d2bde44e42f0ff", func := "steeple/steeplelaw27.WitnessOne", spec := "witnessOne", unfollowed := true, recurses := true, apart := false }
def WitnessOneSaid : Prop := witnessOneRow.holds Try.pinned (OpenSpec.ofChange witnessOneSpec)

/-- ITS FALSE NEIGHBOUR: 'it returns false'. Refute it at one input. -/
def witnessOneWrong : ChangeSpec := { name := "witnessOne", fn := fun _ => fun
  | [d1, d2, d3] => { results := [.lit (.bool false)], args := [d1, d2, d3] }
  | _ => none }
def WitnessOneWrongFalsely : Prop := witnessOneRow.holds Try.pinned (OpenSpec.ofChange witnessOneWrong)

/-- 'steeplelaw25.CircuitFits': WHATEVER THE INPUT: true; the input reads as it did. -/
def circuitFitsSpec : ChangeSpec := { name := "circuitFits", fn := fun _ => fun
  | [d] => { results := [.lit (.bool true)], args := [d] }
  | _ => none }
def circuitFitsRow : OpenClaim := { program := "ythiiodgpdoljoaa", sum := "0c0da4757398c17d967b7acf5842efbc7b876bfdde76f4f631d2bde44e42f0ff", func := "steeple/steeplelaw25.CircuitFits", spec := "circuitFits", apart := false }
def CircuitFitsSaid : Prop := circuitFitsRow.holds Try.pinned (OpenSpec.ofChange circuitFitsSpec)

/-- ITS FALSE NEIGHBOUR: 'it returns false'. Refute it at one input. -/
def circuitFitsWrong : ChangeSpec := { name := "circuitFits", fn := fun _ => fun
  | [d] => { results := [.lit (.bool false)], args := [d] }
  | _ => none }
def CircuitFitsWrongFalsely : Prop := circuitFitsRow.holds Try.pinned (OpenSpec.ofChange circuitFitsWrong)

/-- 'steeplelaw27.WitnessHolds': WHATEVER THE INPUT: true; the input reads as it did. -/
def witnessHoldsSpec : ChangeSpec := { name := "witnessHolds", fn := fun _ => fun
  | [d1, d2, d3] => { results := [.lit (.bool true)], args := [d1, d2, d3] }
  | _ => none }
def witnessHoldsRow : OpenClaim := { program := "ythiiodgpdoljoaa", sum := "0c0da4757398c17d967b7acf5842efbc7b876bfdde76f4f631d2bde44e42f0ff", func := "steeple/steeplelaw27.WitnessHolds", spec := "witnessHolds", unfollowed := true, recurses := true, apart := false }
def WitnessHoldsSaid : Prop := witnessHoldsRow.holds Try.pinned (OpenSpec.ofChange witnessHoldsSpec)

/-- ITS FALSE NEIGHBOUR: 'it returns false'. Refute it at one input. -/
def witnessHoldsWrong : ChangeSpec := { name := "witnessHolds", fn := fun _ => fun
  | [d1, d2, d3] => { results := [.lit (.bool false)], args := [d1, d2, d3] }
  | _ => none }
def WitnessHoldsWrongFalsely : Prop := witnessHoldsRow.holds Try.pinned (OpenSpec.ofChange witnessHoldsWrong)

/-- 'steeplelaw32.CountSolves': WHATEVER THE INPUT: true; the input reads as it did. -/
def countSolvesSpec : ChangeSpec := { name := "countSolves", fn := fun _ => fun
  | [d1, d2, d3] => { results := [.lit (.bool true)], args := [d1, d2, d3] }
  | _ => none }
def countSolvesRow : OpenClaim := { program := "ythiiodgpdoljoaa", sum := "0c0da4757398c17d967b7acf5842efbc7b876bfdde76f4f631d2bde44e42f0ff", func := "steeple/steeplelaw32.CountSolves", spec := "countSolves", unfollowed := true, recurses := true, apart := false }
def CountSolvesSaid : Prop := countSolvesRow.holds Try.pinned (OpenSpec.ofChange countSolvesSpec)

/-- ITS FALSE NEIGHBOUR: 'it returns false'. Refute it at one input. -/
def countSolvesWrong : ChangeSpec := { name := "countSolves", fn := fun _ => fun
  | [d1, d2, d3] => { results := [.lit (.bool false)], args := [d1, d2, d3] }
  | _ => none }
def CountSolvesWrongFalsely : Prop := countSolvesRow.holds Try.pinned (OpenSpec.ofChange countSolvesWrong)

/-- 'steeplelaw27.WitnessWires': WHATEVER THE INPUT: true; the input reads as it did. -/
def witnessWiresSpec : ChangeSpec := { name := "witnessWires", fn := fun _ => fun
  | [d1, d2, d3] => { results := [.lit (.bool true)], args := [d1, d2, d3] }
  | _ => none }
def witnessWiresRow : OpenClaim := { program := "ythiiodgpdoljoaa", sum := "0c0da4757398c17d967b7acf5842efbc7b876bfdde76f4f631d2bde44e42f0ff", func := "steeple/steeplelaw27.WitnessWires", spec := "witnessWires", unfollowed := true, recurses := true, apart := false }
def WitnessWiresSaid : Prop := witnessWiresRow.holds Try.pinned (OpenSpec.ofChange witnessWiresSpec)

/-- ITS FALSE NEIGHBOUR: 'it returns false'. Refute it at one input. -/
def witnessWiresWrong : ChangeSpec := { name := "witnessWires", fn := fun _ => fun
  | [d1, d2, d3] => { results := [.lit (.bool false)], args := [d1, d2, d3] }
  | _ => none }
def WitnessWiresWrongFalsely : Prop := witnessWiresRow.holds Try.pinned (OpenSpec.ofChange witnessWiresWrong)

/-- 'steeplelaw27.WitnessConds': WHATEVER THE INPUT: true; the input reads as it did. -/
def witnessCondsSpec : ChangeSpec := { name := "witnessConds", fn := fun _ => fun
  | [d1, d2] => { results := [.lit (.bool true)], args := [d1, d2] }
  | _ => none }
def witnessCondsRow : OpenClaim := { program := "ythiiodgpdoljoaa", sum := "0c0da4757398c17d967b7acf5842efbc7b876bfdde76f4f631d2bde44e42f0ff", func := "steeple/steeplelaw27.WitnessConds", spec := "witnessConds", unfollowed := true, recurses := true, apart := false }
def WitnessCondsSaid : Prop := witnessCondsRow.holds Try.pinned (OpenSpec.ofChange witnessCondsSpec)

/-- ITS FALSE NEIGHBOUR: 'it returns false'. Refute it at one input. -/
def witnessCondsWrong : ChangeSpec := { name := "witnessConds", fn := fun _ => fun
  | [d1, d2] => { results := [.lit (.bool false)], args := [d1, d2] }
  | _ => none }
def WitnessCondsWrongFalsely : Prop := witnessCondsRow.holds Try.pinned (OpenSpec.ofChange witnessCondsWrong)

/- THE SECOND FORM. 'bulk': how many values and letters a reading holds, each counted each time it is reached (what is shared counts as often as it is met; a slice's spare places count too). A statement '..UptoSaid' is the law's where the arguments, and the package variables that the reading takes, are together of bulk at most 1048576: NARROWER than '..Said'. Prove '..Said' where nothing that the law and all that it calls make is longer than what came in: it says more and counts as full. Else prove '..UptoSaid'. A law counts once. -/
mutual
def uptoBulk {H : Type} : DataW H → Nat
  | .lit (.string bytes) => bytes.length + 1
  | .lit _ => 1
  | .nil => 1
  | .ptr d => uptoBulk d + 1
  | .slice elems spare => uptoBulkAll elems + uptoBulkAll spare + 1
  | .agg parts => uptoBulkAll parts + 1
  | .iface _ d => uptoBulk d + 1
  | .map entries => uptoBulkEntries entries + 1
  | .held _ => 1
def uptoBulkAll {H : Type} : List (DataW H) → Nat
  | [] => 0
  | d :: r => uptoBulk d + uptoBulkAll r
def uptoBulkEntries {H : Type} : List (Lit × DataW H) → Nat
  | [] => 0
  | x :: r => uptoBulkEntry x + uptoBulkEntries r
def uptoBulkEntry {H : Type} : Lit × DataW H → Nat
  | (.string bytes, d) => bytes.length + uptoBulk d + 1
  | (_, d) => uptoBulk d + 1
 end
def uptoSmall : (H : Type) → List (DataW H) → Bool := fun _ ds => decide (uptoBulkAll ds ≤ 1048576)
def OpenSpec.upto (s : _root_.Go.ChangeSpec) : _root_.Go.OpenSpec := { _root_.Go.OpenSpec.ofChange s with cond := some uptoSmall }

/-- 'steeplelaw25.CircuitLays', WHERE WHAT IT READS IS OF BULK AT MOST 1048576: true; the input reads as it did. -/
def circuitLaysUptoRow : OpenClaim := { program := "ythiiodgpdoljoaa", sum := "0c0da4757398c17d967b7acf5842efbc7b876bfdde76f4f631d2bde44e42f0ff", func := "steeple/steeplelaw25.CircuitLays", spec := "circuitLays", apart := false, narrowed := true }
def CircuitLaysUptoSaid : Prop := circuitLaysUptoRow.holds Try.pinned (OpenSpec.upto circuitLaysSpec)

/-- 'steeplelaw25.CircuitChecks', WHERE WHAT IT READS IS OF BULK AT MOST 1048576: true; the input reads as it did. -/
def circuitChecksUptoRow : OpenClaim := { program := "ythiiodgpdoljoaa", sum := "0c0da4757398c17d967b7acf5842efbc7b876bfdde76f4f631d2bde44e42f0ff", func := "steeple/steeplelaw25.CircuitChecks", spec := "circuitChecks", apart := false, narrowed := true }
def CircuitChecksUptoSaid : Prop := circuitChecksUptoRow.holds Try.pinned (OpenSpec.upto circuitChecksSpec)

/-- 'steeplelaw27.WitnessRuns', WHERE WHAT IT READS IS OF BULK AT MOST 1048576: true; the input reads as it did. -/
def witnessRunsUptoRow : OpenClaim := { program := "ythiiodgpdoljoaa", sum := "0c0da4757398c17d967b7acf5842efbc7b876bfdde76f4f631d2bde44e42f0ff", func := "steeple/steeplelaw27.WitnessRuns", spec := "witnessRuns", unfollowed := true, recurses := true, apart := false, narrowed := true }
def WitnessRunsUptoSaid : Prop := witnessRunsUptoRow.holds Try.pinned (OpenSpec.upto witnessRunsSpec)

/-- 'steeplelaw27.WitnessOne', WHERE WHAT IT READS IS OF BULK AT MOST 1048576: true; the input reads as it did. -/
def witnessOneUptoRow : OpenClaim := { program := "ythiiodgpdoljoaa", sum := "0c0da4757398c17d967b7acf5842efbc7b876bfdde76f4f631d2bde44e42f0ff", func := "steeple/steeplelaw27.WitnessOne", spec := "witnessOne", unfollowed := true, recurses := true, apart := false, narrowed := true }
def WitnessOneUptoSaid : Prop := witnessOneUptoRow.holds Try.pinned (OpenSpec.upto witnessOneSpec)

/-- 'steeplelaw25.CircuitFits', WHERE WHAT IT READS IS OF BULK AT MOST 1048576: true; the input reads as it did. -/
def circuitFitsUptoRow : OpenClaim := { program := "ythiiodgpdoljoaa", sum := "0c0da4757398c17d967b7acf5842efbc7b876bfdde76f4f631d2bde44e42f0ff", func := "steeple/steeplelaw25.CircuitFits", spec := "circuitFits", apart := false, narrowed := true }
def CircuitFitsUptoSaid : Prop := circuitFitsUptoRow.holds Try.pinned (OpenSpec.upto circuitFitsSpec)

/-- 'steeplelaw27.WitnessHolds', WHERE WHAT IT READS IS OF BULK AT MOST 1048576: true; the input reads as it did. -/
def witnessHoldsUptoRow : OpenClaim := { program := "ythiiodgpdoljoaa", sum := "0c0da4757398c17d967b7acf5842efbc7b876bfdde76f4f631d2bde44e42f0ff", func := "steeple/steeplelaw27.WitnessHolds", spec := "witnessHolds", unfollowed := true, recurses := true, apart := false, narrowed := true }
def WitnessHoldsUptoSaid : Prop := witnessHoldsUptoRow.holds Try.pinned (OpenSpec.upto witnessHoldsSpec)

/-- 'steeplelaw32.CountSolves', WHERE WHAT IT READS IS OF BULK AT MOST 1048576: true; the input reads as it did. -/
def countSolvesUptoRow : OpenClaim := { program := "ythiiodgpdoljoaa", sum := "0c0da4757398c17d967b7acf5842efbc7b876bfdde76f4f631d2bde44e42f0ff", func := "steeple/steeplelaw32.CountSolves", spec := "countSolves", unfollowed := true, recurses := true, apart := false, narrowed := true }
def CountSolvesUptoSaid : Prop := countSolvesUptoRow.holds Try.pinned (OpenSpec.upto countSolvesSpec)

/-- 'steeplelaw27.WitnessWires', WHERE WHAT IT READS IS OF BULK AT MOST 1048576: true; the input reads as it did. -/
def witnessWiresUptoRow : OpenClaim := { program := "ythiiodgpdoljoaa", sum := "0c0da4757398c17d967b7acf5842efbc7b876bfdde76f4f631d2bde44e42f0ff", func := "steeple/steeplelaw27.WitnessWires", spec := "witnessWires", unfollowed := true, recurses := true, apart := false, narrowed := true }
def WitnessWiresUptoSaid : Prop := witnessWiresUptoRow.holds Try.pinned (OpenSpec.upto witnessWiresSpec)

/-- 'steeplelaw27.WitnessConds', WHERE WHAT IT READS IS OF BULK AT MOST 1048576: true; the input reads as it did. -/
def witnessCondsUptoRow : OpenClaim := { program := "ythiiodgpdoljoaa", sum := "0c0da4757398c17d967b7acf5842efbc7b876bfdde76f4f631d2bde44e42f0ff", func := "steeple/steeplelaw27.WitnessConds", spec := "witnessConds", unfollowed := true, recurses := true, apart := false, narrowed := true }
def WitnessCondsUptoSaid : Prop := witnessCondsUptoRow.holds Try.pinned (OpenSpec.upto witnessCondsSpec)

end Rows
end Go.Proofs.Ythiiodgpdoljoaa
