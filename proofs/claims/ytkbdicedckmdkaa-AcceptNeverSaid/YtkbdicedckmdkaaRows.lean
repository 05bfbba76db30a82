/-
  No cell of these rows narrows 'for every input' (looked for: loops, veiled, ifaces, maps, wideKeys, modest, calm, conditions, laid).
  DERIVED. THE GIVEN ROWS OF THIS SEAT. 3 by the template 'for every input the law returns true; each argument reads behind the call as it read before'; 0 by the template 'total and deterministic' (their statements: YtkbdicedckmdkaaTotals.lean).
  GIVEN WITH THE SEED: the statements are not yours to turn. If you find one false, say at which input.
  Laid BY PROGRAM, IN A SANDBOX (cutbox-rows.mjs): the forced cells as the released guide's own fill.sh prints them over the translation 5acdd733a3de4c00… (all of the seat's roots in one cut). By AI agents, Wed Nov 11 2026. No macro, syntax, notation, axiom, sorry.
-/
import Derived.Test.YtkbdicedckmdkaaChecked
import GoSem.Claim
import GoSem.ClaimJoined
import GoSem.ClaimMapViews
import Derived.JoinedTies
import Derived.KernelRfl
namespace Go.Proofs.Ytkbdicedckmdkaa
/- THE CELL 'sum', in the pinned program and in every row, IS THE sha256 OF THE DUMP (.gsa) THAT YtkbdicedckmdkaaProg.lean LOADS. Nothing in Lean hashes anything: it is a label: what it is worth is what the hold of that sum in a sandbox is worth. -/
noncomputable def Try.pinned : Pinned := { name := "ytkbdicedckmdkaa", sum := "5acdd733a3de4c00c200a868e359b1a2afe722f931d95febdab64327e79cca4a", checked := Try.checked }
namespace Rows
def none {H : Type} : Left H := { results := [], args := [] }

/-- 'reeflaw15.AcceptAgrees': WHATEVER THE INPUT: true; the input reads as it did. -/
def acceptAgreesSpec : ChangeSpec := { name := "acceptAgrees", fn := fun _ => fun
  | [d] => { results := [.lit (.bool true)], args := [d] }
  | _ => none }
def acceptAgreesRow : OpenClaim := { program := "ytkbdicedckmdkaa", sum := "5acdd733a3de4c00c200a868e359b1a2afe722f931d95febdab64327e79cca4a", func := "reef/reeflaw15.AcceptAgrees", spec := "acceptAgrees", unfollowed := true, recurses := true, apart := false }
def AcceptAgreesSaid : Prop := acceptAgreesRow.holds Try.pinned (OpenSpec.ofChange acceptAgreesSpec)

/-- ITS FALSE NEIGHBOUR: 'it returns false'. Refute it at one input. -/
def acceptAgreesWrong : ChangeSpec := { name := "acceptAgrees", fn := fun _ => fun
  | [d] => { results := [.lit (.bool false)], args := [d] }
  | _ => none }
def AcceptAgreesWrongFalsely : Prop := acceptAgreesRow.holds Try.pinned (OpenSpec.ofChange acceptAgreesWrong)

/-- 'reeflaw15.AcceptDoes': WHATEVER THE INPUT: true; the input reads as it did. -/
def acceptDoesSpec : ChangeSpec := { name := "acceptDoes", fn := fun _ => fun
  | [d1, d2, d3, d4, d5, d6, d7, d8] => { results := [.lit (.bool true)], args := [d1, d2, d3, d4, d5, d6, d7, d8] }
  | _ => none }
def acceptDoesRow : OpenClaim := { program := "ytkbdicedckmdkaa", sum := "5acdd733a3de4c00c200a868e359b1a2afe722f931d95febdab64327e79cca4a", func := "reef/reeflaw15.AcceptDoes", spec := "acceptDoes", unfollowed := true, recurses := true, apart := false }
def AcceptDoesSaid : Prop := acceptDoesRow.holds Try.pinned (OpenSpec.ofChange acceptDoesSpec)

/-- ITS FALSE NEIGHBOUR: 'it returns false'. Refute it at one input. -/
def acceptDoesWrong : ChangeSpec := { name := "acceptDoes", fn := fun _ => fun
  | [d1, d2, d3, d4, d5, d6, d7, d8] => { results := [.lit (.bool false)], args := [d1, d2, d3, d4, d5, d6, d7, d8] }
  | _ => none }
def AcceptDoesWrongFalsely : Prop := acceptDoesRow.holds Try.pinned (OpenSpec.ofChange acceptDoesWrong)

/-- 'reeflaw15.AcceptNever': WHATEVER THE INPUT: true; the input reads as it did. -/
def acceptNeverSpec : ChangeSpec := { name := "acceptNever", fn := fun _ => fun
  | [d] => { results := [.lit (.bool true)], args := [d] }
  | _ => none }
def acceptNeverRow : OpenClaim := { program := "ytkbdicedckmdkaa", sum := "5acdd733a3de4c00c200a868e359b1a2afe722f931d95febdab64327e79cca4a", func := "reef/reeflaw15.AcceptNever", spec := "acceptNever", unfollowed := true, recurses := true, apart := false }
def AcceptNeverSaid : Prop := acceptNeverRow.holds Try.pinned (OpenSpec.ofChange acceptNeverSpec)

/-- ITS FALSE NEIGHBOUR: 'it returns false'. Refute it at one input. -/
def acceptNeverWrong : ChangeSpec := { name := "acceptNever", fn := fun _ => fun
  | [d] => { results := [.lit (.bool false)], args := [d] }
  | _ => none }
def AcceptNeverWrongFalsely : Prop := acceptNeverRow.holds Try.pinned (OpenSpec.ofChange acceptNeverWrong)

/- THE SECOND FORM. 'bulk': how many values and letters a reading holds, each counted each time it is reached (what is shared counts as often as it is met; a slice's spare places count too). A statement '..UptoSaid' is the law's where the arguments, and the package variables that the reading takes, are together of bulk at most 1048576: NARROWER than '..Said'. Prove '..Said' where nothing that the law and all that it calls make is longer than what came in: it says more and counts as full. Else prove '..UptoSaid'. A law counts once. -/
mutual
def uptoBulk {H : Type} : DataW H → Nat
  | .lit (.string bytes) => bytes.length + 1
  | .lit _ => 1
  | .nil => 1
  | .ptr d => uptoBulk d + 1
  | .slice elems spare => uptoBulkAll elems + uptoBulkAll spare + 1
  | .agg parts => uptoBulkAll parts + 1
  | .iface _ d => uptoBulk d + 1
  | .map entries => uptoBulkEntries entries + 1
  | .held _ => 1
def uptoBulkAll {H : Type} : List (DataW H) → Nat
  | [] => 0
  | d :: r => uptoBulk d + uptoBulkAll r
def uptoBulkEntries {H : Type} : List (Lit × DataW H) → Nat
  | [] => 0
  | x :: r => uptoBulkEntry x + uptoBulkEntries r
def uptoBulkEntry {H : Type} : Lit × DataW H → Nat
  | (.string bytes, d) => bytes.length + uptoBulk d + 1
  | (_, d) => uptoBulk d + 1
 end
def uptoSmall : (H : Type) → List (DataW H) → Bool := fun _ ds => decide (uptoBulkAll ds ≤ 1048576)
def OpenSpec.upto (s : _root_.Go.ChangeSpec) : _root_.Go.OpenSpec := { _root_.Go.OpenSpec.ofChange s with cond := some uptoSmall }

/-- 'reeflaw15.AcceptAgrees', WHERE WHAT IT READS IS OF BULK AT MOST 1048576: true; the input reads as it did. -/
def acceptAgreesUptoRow : OpenClaim := { program := "ytkbdicedckmdkaa", sum := "5acdd733a3de4c00c200a868e359b1a2afe722f931d95febdab64327e79cca4a", func := "reef/reeflaw15.AcceptAgrees", spec := "acceptAgrees", unfollowed := true, recurses := true, apart := false, narrowed := true }
def AcceptAgreesUptoSaid : Prop := acceptAgreesUptoRow.holds Try.pinned (OpenSpec.upto acceptAgreesSpec)

/-- 'reeflaw15.AcceptDoes', WHERE WHAT IT READS IS OF BULK AT MOST 1048576: true; the input reads as it did. -/
def acceptDoesUptoRow : OpenClaim := { program := "ytkbdicedckmdkaa", sum := "5acdd733a3de4c00c200a868e359b1a2afe722f931d95febdab64327e79cca4a", func := "reef/reeflaw15.AcceptDoes", spec := "acceptDoes", unfollowed := true, recurses := true, apart := false, narrowed := true }
def AcceptDoesUptoSaid : Prop := acceptDoesUptoRow.holds Try.pinned (OpenSpec.upto acceptDoesSpec)

/-- 'reeflaw15.AcceptNever', WHERE WHAT IT READS IS OF BULK AT MOST 1048576: true; the input reads as it did. -/
def acceptNeverUptoRow : OpenClaim := { program := "ytkbdicedckmdkaa", sum := "5acdd733a3de4c00c200a868e359b1a2afe722f931d95febdab64327e79cca4a", func := "reef/reeflaw15.AcceptNever", spec := "acceptNever", unfollowed := true, recurses := true, apart := false, narrowed := true }
def AcceptNeverUptoSaid : Prop := acceptNeverUptoRow.holds Try.pinned (OpenSpec.upto acceptNeverSpec)

end Rows
end Go.Proofs.Ytkbdicedckmdkaa
