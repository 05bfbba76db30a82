/-
  No cell of these rows narrows 'for every input' (looked for: loops, veiled, ifaces, maps, wideKeys, modest, calm, conditions, laid).
  DERIVED. THE GIVEN ROWS OF THIS SEAT. 4 by the template 'for every input the law returns true; each argument reads behind the call as it read before'; 0 by the template 'total and deterministic' (their statements: YthfeigheeloeaaaTotals.lean).
  GIVEN WITH THE SEED: the statements are not yours to turn. If you find one false, say at which input.
  Laid BY PROGRAM, IN A SANDBOX (cutbox-rows.mjs): the forced cells as the released guide's own fill.sh prints them over the translation 1a2b84df753a06f1… (all of the seat's roots in one cut). By AI agents, Wed Nov 11 2026. No macro, syntax, notation, axiom, sorry.
-/
import Derived.Test.YthfeigheeloeaaaChecked
import GoSem.Claim
import GoSem.ClaimJoined
import GoSem.ClaimMapViews
import Derived.JoinedTies
import Derived.KernelRfl
namespace Go.Proofs.Ythfeigheeloeaaa
/- THE CELL 'sum', in the pinned program and in every row, IS THE sha256 OF THE DUMP (.gsa) THAT YthfeigheeloeaaaProg.lean LOADS. Nothing in Lean hashes anything: it is a label: what it is worth is what the hold of that sum in a sandbox is worth. -/
noncomputable def Try.pinned : Pinned := { name := "ythfeigheeloeaaa", sum := "1a2b84df753a06f157a7d9e365c10155c0fd35fb8db1816aea241f6ec820b7b7", checked := Try.checked }
namespace Rows
def none {H : Type} : Left H := { results := [], args := [] }

/-- 'reeflaw01.HashMixes': WHATEVER THE INPUT: true; the input reads as it did. -/
def hashMixesSpec : ChangeSpec := { name := "hashMixes", fn := fun _ => fun
  | [d1, d2, d3] => { results := [.lit (.bool true)], args := [d1, d2, d3] }
  | _ => none }
def hashMixesRow : OpenClaim := { program := "ythfeigheeloeaaa", sum := "1a2b84df753a06f157a7d9e365c10155c0fd35fb8db1816aea241f6ec820b7b7", func := "reef/reeflaw01.HashMixes", spec := "hashMixes", unfollowed := true, recurses := true, apart := false }
def HashMixesSaid : Prop := hashMixesRow.holds Try.pinned (OpenSpec.ofChange hashMixesSpec)

/-- ITS FALSE NEIGHBOUR: 'it returns false'. Refute it at one input. -/
def hashMixesWrong : ChangeSpec := { name := "hashMixes", fn := fun _ => fun
  | [d1, d2, d3] => { results := [.lit (.bool false)], args := [d1, d2, d3] }
  | _ => none }
def HashMixesWrongFalsely : Prop := hashMixesRow.holds Try.pinned (OpenSpec.ofChange hashMixesWrong)

/-- 'reeflaw01.HashLogs': WHATEVER THE INPUT: true; the input reads as it did. -/
def hashLogsSpec : ChangeSpec := { name := "hashLogs", fn := fun _ => fun
  | [d] => { results := [.lit (.bool true)], args := [d] }
  | _ => none }
def hashLogsRow : OpenClaim := { program := "ythfeigheeloeaaa", sum := "1a2b84df753a06f157a7d9e365c10155c0fd35fb8db1816aea241f6ec820b7b7", func := "reef/reeflaw01.HashLogs", spec := "hashLogs", unfollowed := true, recurses := true, apart := false }
def HashLogsSaid : Prop := hashLogsRow.holds Try.pinned (OpenSpec.ofChange hashLogsSpec)

/-- ITS FALSE NEIGHBOUR: 'it returns false'. Refute it at one input. -/
def hashLogsWrong : ChangeSpec := { name := "hashLogs", fn := fun _ => fun
  | [d] => { results := [.lit (.bool false)], args := [d] }
  | _ => none }
def HashLogsWrongFalsely : Prop := hashLogsRow.holds Try.pinned (OpenSpec.ofChange hashLogsWrong)

/-- 'reeflaw01.HashRises': WHATEVER THE INPUT: true; the input reads as it did. -/
def hashRisesSpec : ChangeSpec := { name := "hashRises", fn := fun _ => fun
  | [d1, d2] => { results := [.lit (.bool true)], args := [d1, d2] }
  | _ => none }
def hashRisesRow : OpenClaim := { program := "ythfeigheeloeaaa", sum := "1a2b84df753a06f157a7d9e365c10155c0fd35fb8db1816aea241f6ec820b7b7", func := "reef/reeflaw01.HashRises", spec := "hashRises", unfollowed := true, recurses := true, apart := false }
def HashRisesSaid : Prop := hashRisesRow.holds Try.pinned (OpenSpec.ofChange hashRisesSpec)

/-- ITS FALSE NEIGHBOUR: 'it returns false'. Refute it at one input. -/
def hashRisesWrong : ChangeSpec := { name := "hashRises", fn := fun _ => fun
  | [d1, d2] => { results := [.lit (.bool false)], args := [d1, d2] }
  | _ => none }
def HashRisesWrongFalsely : Prop := hashRisesRow.holds Try.pinned (OpenSpec.ofChange hashRisesWrong)

/-- 'reeflaw01.HashWords': WHATEVER THE INPUT: true; the input reads as it did. -/
def hashWordsSpec : ChangeSpec := { name := "hashWords", fn := fun _ => fun
  | [d1, d2] => { results := [.lit (.bool true)], args := [d1, d2] }
  | _ => none }
def hashWordsRow : OpenClaim := { program := "ythfeigheeloeaaa", sum := "1a2b84df753a06f157a7d9e365c10155c0fd35fb8db1816aea241f6ec820b7b7", func := "reef/reeflaw01.HashWords", spec := "hashWords", unfollowed := true, recurses := true, apart := false }
def HashWordsSaid : Prop := hashWordsRow.holds Try.pinned (OpenSpec.ofChange hashWordsSpec)

/-- ITS FALSE NEIGHBOUR: 'it returns false'. Refute it at one input. -/
def hashWordsWrong : ChangeSpec := { name := "hashWords", fn := fun _ => fun
  | [d1, d2] => { results := [.lit (.bool false)], args := [d1, d2] }
  | _ => none }
def HashWordsWrongFalsely : Prop := hashWordsRow.holds Try.pinned (OpenSpec.ofChange hashWordsWrong)

/- THE SECOND FORM. 'bulk': how many values and letters a reading holds, each counted each time it is reached (what is shared counts as often as it is met; a slice's spare places count too). A statement '..UptoSaid' is the law's where the arguments, and the package variables that the reading takes, are together of bulk at most 1048576: NARROWER than '..Said'. Prove '..Said' where nothing that the law and all that it calls make is longer than what came in: it says more and counts as full. Else prove '..UptoSaid'. A law counts once. -/
mutual
def uptoBulk {H : Type} : DataW H → Nat
  | .lit (.string bytes) => bytes.length + 1
  | .lit _ => 1
  | .nil => 1
  | .ptr d => uptoBulk d + 1
  | .slice elems spare => uptoBulkAll elems + uptoBulkAll spare + 1
  | .agg parts => uptoBulkAll parts + 1
  | .iface _ d => uptoBulk d + 1
  | .map entries => uptoBulkEntries entries + 1
  | .held _ => 1
def uptoBulkAll {H : Type} : List (DataW H) → Nat
  | [] => 0
  | d :: r => uptoBulk d + uptoBulkAll r
def uptoBulkEntries {H : Type} : List (Lit × DataW H) → Nat
  | [] => 0
  | x :: r => uptoBulkEntry x + uptoBulkEntries r
def uptoBulkEntry {H : Type} : Lit × DataW H → Nat
  | (.string bytes, d) => bytes.length + uptoBulk d + 1
  | (_, d) => uptoBulk d + 1
 end
def uptoSmall : (H : Type) → List (DataW H) → Bool := fun _ ds => decide (uptoBulkAll ds ≤ 1048576)
def OpenSpec.upto (s : _root_.Go.ChangeSpec) : _root_.Go.OpenSpec := { _root_.Go.OpenSpec.ofChange s with cond := some uptoSmall }

/-- 'reeflaw01.HashMixes', WHERE WHAT IT READS IS OF BULK AT MOST 1048576: true; the input reads as it did. -/
def hashMixesUptoRow : OpenClaim := { program := "ythfeigheeloeaaa", sum := "1a2b84df753a06f157a7d9e365c10155c0fd35fb8db1816aea241f6ec820b7b7", func := "reef/reeflaw01.HashMixes", spec := "hashMixes", unfollowed := true, recurses := true, apart := false, narrowed := true }
def HashMixesUptoSaid : Prop := hashMixesUptoRow.holds Try.pinned (OpenSpec.upto hashMixesSpec)

/-- 'reeflaw01.HashLogs', WHERE WHAT IT READS IS OF BULK AT MOST 1048576: true; the input reads as it did. -/
def hashLogsUptoRow : OpenClaim := { program := "ythfeigheeloeaaa", sum := "1a2b84df753a06f157a7d9e365c10155c0fd35fb8db1816aea241f6ec820b7b7", func := "reef/reeflaw01.HashLogs", spec := "hashLogs", unfollowed := true, recurses := true, apart := false, narrowed := true }
def HashLogsUptoSaid : Prop := hashLogsUptoRow.holds Try.pinned (OpenSpec.upto hashLogsSpec)

/-- 'reeflaw01.HashRises', WHERE WHAT IT READS IS OF BULK AT MOST 1048576: true; the input reads as it did. -/
def hashRisesUptoRow : OpenClaim := { program := "ythfeigheeloeaaa", sum := "1a2b84df753a06f157a7d9e365c10155c0fd35fb8db1816aea241f6ec820b7b7", func := "reef/reeflaw01.HashRises", spec := "hashRises", unfollowed := true, recurses := true, apart := false, narrowed := true }
def HashRisesUptoSaid : Prop := hashRisesUptoRow.holds Try.pinned (OpenSpec.upto hashRisesSpec)

/-- 'reeflaw01.HashWords', WHERE WHAT IT READS IS OF BULK AT MOST 1048576: true; the input reads as it did. -/
def hashWordsUptoRow : OpenClaim := { program := "ythfeigheeloeaaa", sum := "1a2b84df753a06f157a7d9e365c10155c0fd35fb8db1816aea241f6ec820b7b7", func := "reef/reeflaw01.HashWords", spec := "hashWords", unfollowed := true, recurses := true, apart := false, narrowed := true }
def HashWordsUptoSaid : Prop := hashWordsUptoRow.holds Try.pinned (OpenSpec.upto hashWordsSpec)

end Rows
end Go.Proofs.Ythfeigheeloeaaa
