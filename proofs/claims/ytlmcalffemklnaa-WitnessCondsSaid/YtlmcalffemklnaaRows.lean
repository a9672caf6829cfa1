/-
  No cell of these rows narrows 'for every input' (looked for: loops, veiled, ifaces, maps, wideKeys, modest, calm, conditions, laid).
  DERIVED. THE GIVEN ROWS OF THIS SEAT. 3 by the template 'for every input the law returns true; each argument reads behind the call as it read before'; 0 by the template 'total and deterministic' (their statements: YtlmcalffemklnaaTotals.lean).
  GIVEN WITH THE SEED: the statements are not yours to turn. If you find one false, say at which input.
  Laid BY PROGRAM, IN A SANDBOX (cutbox-rows.mjs): the forced cells as the released guide's own fill.sh prints them over the translation ba76ef7efc84b694… (all of the seat's roots in one cut). By AI agents, Wed Nov 11 2026. No macro, syntax, notation, axiom, sorry.
-/
import Derived.Test.YtlmcalffemklnaaChecked
import GoSem.Claim
import GoSem.ClaimJoined
import GoSem.ClaimMapViews
import Derived.JoinedTies
import Derived.KernelRfl
namespace Go.Proofs.Ytlmcalffemklnaa
/- THE CELL 'sum', in the pinned program and in every row, IS THE sha256 OF THE DUMP (.gsa) THAT YtlmcalffemklnaaProg.lean LOADS. Nothing in Lean hashes anything: it is a label: what it is worth is what the hold of that sum in a sandbox is worth. -/
noncomputable def Try.pinned : Pinned := { name := "ytlmcalffemklnaa", sum := "ba76ef7efc84b694546fc50e58d97166f55a0ad54d910d8fbe39f251158fccf2", checked := Try.checked }
namespace Rows
def none {H : Type} : Left H := { results := [], args := [] }

/-- 'steeplelaw27.WitnessHolds': WHATEVER THE INPUT: true; the input reads as it did. -/
def witnessHoldsSpec : ChangeSpec := { name := "witnessHolds", fn := fun _ => fun
  | [d1, d2, d3] => { results := [.lit (.bool true)], args := [d1, d2, d3] }
  | _ => none }
def witnessHoldsRow : OpenClaim := { program := "ytlmcalffemklnaa", sum := "ba76ef7efc84b694546fc50e58d97166f55a0ad54d910d8fbe39f251158fccf2", func := "steeple/steeplelaw27.WitnessHolds", spec := "witnessHolds", unfollowed := true, recurses := true, apart := false }
def WitnessHoldsSaid : Prop := witnessHoldsRow.holds Try.pinned (OpenSpec.ofChange witnessHoldsSpec)

/-- ITS FALSE NEIGHBOUR: 'it returns false'. Refute it at one input. -/
def witnessHoldsWrong : ChangeSpec := { name := "witnessHolds", fn := fun _ => fun
  | [d1, d2, d3] => { results := [.lit (.bool false)], args := [d1, d2, d3] }
  | _ => none }
def WitnessHoldsWrongFalsely : Prop := witnessHoldsRow.holds Try.pinned (OpenSpec.ofChange witnessHoldsWrong)

/-- 'steeplelaw27.WitnessWires': WHATEVER THE INPUT: true; the input reads as it did. -/
def witnessWiresSpec : ChangeSpec := { name := "witnessWires", fn := fun _ => fun
  | [d1, d2, d3] => { results := [.lit (.bool true)], args := [d1, d2, d3] }
  | _ => none }
def witnessWiresRow : OpenClaim := { program := "ytlmcalffemklnaa", sum := "ba76ef7efc84b694546fc50e58d97166f55a0ad54d910d8fbe39f251158fccf2", func := "steeple/steeplelaw27.WitnessWires", spec := "witnessWires", unfollowed := true, recurses := true, apart := false }
def WitnessWiresSaid : Prop := witnessWiresRow.holds Try.pinned (OpenSpec.ofChange witnessWiresSpec)

/-- ITS FALSE NEIGHBOUR: 'it returns false'. Refute it at one input. -/
def witnessWiresWrong : ChangeSpec := { name := "witnessWires", fn := fun _ => fun
  | [d1, d2, d3] => { results := [.lit (.bool false)], args := [d1, d2, d3] }
  | _ => none }
def WitnessWiresWrongFalsely : Prop := witnessWiresRow.holds Try.pinned (OpenSpec.ofChange witnessWiresWrong)

/-- 'steeplelaw27.WitnessConds': WHATEVER THE INPUT: true; the input reads as it did. -/
def witnessCondsSpec : ChangeSpec := { name := "witnessConds", fn := fun _ => fun
  | [d1, d2] => { results := [.lit (.bool true)], args := [d1, d2] }
  | _ => none }
def witnessCondsRow : OpenClaim := { program := "ytlmcalffemklnaa", sum := "ba76ef7efc84b694546fc50e58d97166f55a0ad54d910d8fbe39f251158fccf2", func := "steeple/steeplelaw27.WitnessConds", spec := "witnessConds", unfollowed := true, recurses := true, apart := false }
def WitnessCondsSaid : Prop := witnessCondsRow.holds Try.pinned (OpenSpec.ofChange witnessCondsSpec)

/-- ITS FALSE NEIGHBOUR: 'it returns false'. Refute it at one input. -/
def witnessCondsWrong : ChangeSpec := { name := "witnessConds", fn := fun _ => fun
  | [d1, d2] => { results := [.lit (.bool false)], args := [d1, d2] }
  | _ => none }
def WitnessCondsWrongFalsely : Prop := witnessCondsRow.holds Try.pinned (OpenSpec.ofChange witnessCondsWrong)

/- THE SECOND FORM. 'bulk': how many values and letters a reading holds, each counted each time it is reached (what is shared counts as often as it is met; a slice's spare places count too). A statement '..UptoSaid' is the law's where the arguments, and the package variables that the reading takes, are together of bulk at most 1048576: NARROWER than '..Said'. Prove '..Said' where nothing that the law and all that it calls make is longer than what came in: it says more and counts as full. Else prove '..UptoSaid'. A law counts once. -/
mutual
def uptoBulk {H : Type} : DataW H → Nat
  | .lit (.string bytes) => bytes.length + 1
  | .lit _ => 1
  | .nil => 1
  | .ptr d => uptoBulk d + 1
  | .slice elems spare => uptoBulkAll elems + uptoBulkAll spare + 1
  | .agg parts => uptoBulkAll parts + 1
  | .iface _ d => uptoBulk d + 1
  | .map entries => uptoBulkEntries entries + 1
  | .held _ => 1
def uptoBulkAll {H : Type} : List (DataW H) → Nat
  | [] => 0
  | d :: r => uptoBulk d + uptoBulkAll r
def uptoBulkEntries {H : Type} : List (Lit × DataW H) → Nat
  | [] => 0
  | x :: r => uptoBulkEntry x + uptoBulkEntries r
def uptoBulkEntry {H : Type} : Lit × DataW H → Nat
  | (.string bytes, d) => bytes.length + uptoBulk d + 1
  | (_, d) => uptoBulk d + 1
 end
def uptoSmall : (H : Type) → List (DataW H) → Bool := fun _ ds => decide (uptoBulkAll ds ≤ 1048576)
def OpenSpec.upto (s : _root_.Go.ChangeSpec) : _root_.Go.OpenSpec := { _root_.Go.OpenSpec.ofChange s with cond := some uptoSmall }

/-- 'steeplelaw27.WitnessHolds', WHERE WHAT IT READS IS OF BULK AT MOST 1048576: true; the input reads as it did. -/
def witnessHoldsUptoRow : OpenClaim := { program := "ytlmcalffemklnaa", sum := "ba76ef7efc84b694546fc50e58d97166f55a0ad54d910d8fbe39f251158fccf2", func := "steeple/steeplelaw27.WitnessHolds", spec := "witnessHolds", unfollowed := true, recurses := true, apart := false, narrowed := true }
def WitnessHoldsUptoSaid : Prop := witnessHoldsUptoRow.holds Try.pinned (OpenSpec.upto witnessHoldsSpec)

/-- 'steeplelaw27.WitnessWires', WHERE WHAT IT READS IS OF BULK AT MOST 1048576: true; the input reads as it did. -/
def witnessWiresUptoRow : OpenClaim := { program := "ytlmcalffemklnaa", sum := "ba76ef7efc84b694546fc50e58d97166f55a0ad54d910d8fbe39f251158fccf2", func := "steeple/steeplelaw27.WitnessWires", spec := "witnessWires", unfollowed := true, recurses := true, apart := false, narrowed := true }
def WitnessWiresUptoSaid : Prop := witnessWiresUptoRow.holds Try.pinned (OpenSpec.upto witnessWiresSpec)

/-- 'steeplelaw27.WitnessConds', WHERE WHAT IT READS IS OF BULK AT MOST 1048576: true; the input reads as it did. -/
def witnessCondsUptoRow : OpenClaim := { program := "ytlmcalffemklnaa", sum := "ba76ef7efc84b694546fc50e58d97166f55a0ad54d910d8fbe39f251158fccf2", func := "steeple/steeplelaw27.WitnessConds", spec := "witnessConds", unfollowed := true, recurses := true, apart := false, narrowed := true }
def WitnessCondsUptoSaid : Prop := witnessCondsUptoRow.holds Try.pinned (OpenSpec.upto witnessCondsSpec)

end Rows
end Go.Proofs.Ytlmcalffemklnaa
