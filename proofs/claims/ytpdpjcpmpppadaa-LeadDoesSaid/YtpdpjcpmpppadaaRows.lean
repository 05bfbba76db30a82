/-
  No cell of these rows narrows 'for every input' (looked for: loops, veiled, ifaces, maps, wideKeys, modest, calm, conditions, laid).
  DERIVED. THE GIVEN ROWS OF THIS SEAT. 5 by the template 'for every input the law returns true; each argument reads behind the call as it read before'; 0 by the template 'total and deterministic' (their statements: YtpdpjcpmpppadaaTotals.lean).
  GIVEN WITH THE SEED: the statements are not yours to turn. If you find one false, say at which input.
  Laid BY PROGRAM, IN A SANDBOX (cutbox-rows.mjs): the forced cells as the released guide's own fill.sh prints them over the translation c787aec206881021… (all of the seat's roots in one cut). By AI agents, Wed Nov 11 2026. No macro, syntax, notation, axiom, sorry.
-/
import Derived.Test.YtpdpjcpmpppadaaChecked
import GoSem.Claim
import GoSem.ClaimJoined
import GoSem.ClaimMapViews
import Derived.JoinedTies
import Derived.KernelRfl
namespace Go.Proofs.Ytpdpjcpmpppadaa
/- THE CELL 'sum', in the pinned program and in every row, IS THE sha256 OF THE DUMP (.gsa) THAT YtpdpjcpmpppadaaProg.lean LOADS. Nothing in Lean hashes anything: it is a label: what it is worth is what the hold of that sum in a sandbox is worth. -/
noncomputable def Try.pinned : Pinned := { name := "ytpdpjcpmpppadaa", sum := "c787aec206881021b8e3772bdb18f379f8e559a425b95e502ba43621950030aa", checked := Try.checked }
namespace Rows
def none {H : Type} : Left H := { results := [], args := [] }

/-- 'reeflaw16.LeadNext': WHATEVER THE INPUT: true; the input reads as it did. -/
def leadNextSpec : ChangeSpec := { name := "leadNext", fn := fun _ => fun
  | [d1, d2, d3, d4] => { results := [.lit (.bool true)], args := [d1, d2, d3, d4] }
  | _ => none }
def leadNextRow : OpenClaim := { program := "ytpdpjcpmpppadaa", sum := "c787aec206881021b8e3772bdb18f379f8e559a425b95e502ba43621950030aa", func := "reef/reeflaw16.LeadNext", spec := "leadNext", inPlace := ["slices.overlaps[reef/api.Promise]"], unfollowed := true, recurses := true, apart := false }
def LeadNextSaid : Prop := leadNextRow.holds Try.pinned (OpenSpec.ofChange leadNextSpec)

/-- ITS FALSE NEIGHBOUR: 'it returns false'. Refute it at one input. -/
def leadNextWrong : ChangeSpec := { name := "leadNext", fn := fun _ => fun
  | [d1, d2, d3, d4] => { results := [.lit (.bool false)], args := [d1, d2, d3, d4] }
  | _ => none }
def LeadNextWrongFalsely : Prop := leadNextRow.holds Try.pinned (OpenSpec.ofChange leadNextWrong)

/-- 'reeflaw16.LeadMajorities': WHATEVER THE INPUT: true; the input reads as it did. -/
def leadMajoritiesSpec : ChangeSpec := { name := "leadMajorities", fn := fun _ => fun
  | [d1, d2, d3] => { results := [.lit (.bool true)], args := [d1, d2, d3] }
  | _ => none }
def leadMajoritiesRow : OpenClaim := { program := "ytpdpjcpmpppadaa", sum := "c787aec206881021b8e3772bdb18f379f8e559a425b95e502ba43621950030aa", func := "reef/reeflaw16.LeadMajorities", spec := "leadMajorities", inPlace := ["slices.overlaps[reef/api.Promise]"], unfollowed := true, recurses := true, apart := false }
def LeadMajoritiesSaid : Prop := leadMajoritiesRow.holds Try.pinned (OpenSpec.ofChange leadMajoritiesSpec)

/-- ITS FALSE NEIGHBOUR: 'it returns false'. Refute it at one input. -/
def leadMajoritiesWrong : ChangeSpec := { name := "leadMajorities", fn := fun _ => fun
  | [d1, d2, d3] => { results := [.lit (.bool false)], args := [d1, d2, d3] }
  | _ => none }
def LeadMajoritiesWrongFalsely : Prop := leadMajoritiesRow.holds Try.pinned (OpenSpec.ofChange leadMajoritiesWrong)

/-- 'reeflaw16.LeadHears': WHATEVER THE INPUT: true; the input reads as it did. -/
def leadHearsSpec : ChangeSpec := { name := "leadHears", fn := fun _ => fun
  | [d1, d2, d3, d4, d5, d6] => { results := [.lit (.bool true)], args := [d1, d2, d3, d4, d5, d6] }
  | _ => none }
def leadHearsRow : OpenClaim := { program := "ytpdpjcpmpppadaa", sum := "c787aec206881021b8e3772bdb18f379f8e559a425b95e502ba43621950030aa", func := "reef/reeflaw16.LeadHears", spec := "leadHears", inPlace := ["slices.overlaps[reef/api.Promise]"], unfollowed := true, recurses := true, apart := false }
def LeadHearsSaid : Prop := leadHearsRow.holds Try.pinned (OpenSpec.ofChange leadHearsSpec)

/-- ITS FALSE NEIGHBOUR: 'it returns false'. Refute it at one input. -/
def leadHearsWrong : ChangeSpec := { name := "leadHears", fn := fun _ => fun
  | [d1, d2, d3, d4, d5, d6] => { results := [.lit (.bool false)], args := [d1, d2, d3, d4, d5, d6] }
  | _ => none }
def LeadHearsWrongFalsely : Prop := leadHearsRow.holds Try.pinned (OpenSpec.ofChange leadHearsWrong)

/-- 'reeflaw16.LeadDoes': WHATEVER THE INPUT: true; the input reads as it did. -/
def leadDoesSpec : ChangeSpec := { name := "leadDoes", fn := fun _ => fun
  | [d1, d2, d3, d4, d5] => { results := [.lit (.bool true)], args := [d1, d2, d3, d4, d5] }
  | _ => none }
def leadDoesRow : OpenClaim := { program := "ytpdpjcpmpppadaa", sum := "c787aec206881021b8e3772bdb18f379f8e559a425b95e502ba43621950030aa", func := "reef/reeflaw16.LeadDoes", spec := "leadDoes", inPlace := ["slices.overlaps[reef/api.Promise]", "slices.overlaps[int]"], unfollowed := true, recurses := true, apart := false }
def LeadDoesSaid : Prop := leadDoesRow.holds Try.pinned (OpenSpec.ofChange leadDoesSpec)

/-- ITS FALSE NEIGHBOUR: 'it returns false'. Refute it at one input. -/
def leadDoesWrong : ChangeSpec := { name := "leadDoes", fn := fun _ => fun
  | [d1, d2, d3, d4, d5] => { results := [.lit (.bool false)], args := [d1, d2, d3, d4, d5] }
  | _ => none }
def LeadDoesWrongFalsely : Prop := leadDoesRow.holds Try.pinned (OpenSpec.ofChange leadDoesWrong)

/-- 'reeflaw16.LeadAgrees': WHATEVER THE INPUT: true; the input reads as it did. -/
def leadAgreesSpec : ChangeSpec := { name := "leadAgrees", fn := fun _ => fun
  | [d1, d2] => { results := [.lit (.bool true)], args := [d1, d2] }
  | _ => none }
def leadAgreesRow : OpenClaim := { program := "ytpdpjcpmpppadaa", sum := "c787aec206881021b8e3772bdb18f379f8e559a425b95e502ba43621950030aa", func := "reef/reeflaw16.LeadAgrees", spec := "leadAgrees", inPlace := ["slices.overlaps[reef/api.Promise]", "slices.overlaps[int]"], unfollowed := true, recurses := true, apart := false }
def LeadAgreesSaid : Prop := leadAgreesRow.holds Try.pinned (OpenSpec.ofChange leadAgreesSpec)

/-- ITS FALSE NEIGHBOUR: 'it returns false'. Refute it at one input. -/
def leadAgreesWrong : ChangeSpec := { name := "leadAgrees", fn := fun _ => fun
  | [d1, d2] => { results := [.lit (.bool false)], args := [d1, d2] }
  | _ => none }
def LeadAgreesWrongFalsely : Prop := leadAgreesRow.holds Try.pinned (OpenSpec.ofChange leadAgreesWrong)

/- THE SECOND FORM. 'bulk': how many values and letters a reading holds, each counted each time it is reached (what is shared counts as often as it is met; a slice's spare places count too). A statement '..UptoSaid' is the law's where the arguments, and the package variables that the reading takes, are together of bulk at most 1048576: NARROWER than '..Said'. Prove '..Said' where nothing that the law and all that it calls make is longer than what came in: it says more and counts as full. Else prove '..UptoSaid'. A law counts once. -/
mutual
def uptoBulk {H : Type} : DataW H → Nat
  | .lit (.string bytes) => bytes.length + 1
  | .lit _ => 1
  | .nil => 1
  | .ptr d => uptoBulk d + 1
  | .slice elems spare => uptoBulkAll elems + uptoBulkAll spare + 1
  | .agg parts => uptoBulkAll parts + 1
  | .iface _ d => uptoBulk d + 1
  | .map entries => uptoBulkEntries entries + 1
  | .held _ => 1
def uptoBulkAll {H : Type} : List (DataW H) → Nat
  | [] => 0
  | d :: r => uptoBulk d + uptoBulkAll r
def uptoBulkEntries {H : Type} : List (Lit × DataW H) → Nat
  | [] => 0
  | x :: r => uptoBulkEntry x + uptoBulkEntries r
def uptoBulkEntry {H : Type} : Lit × DataW H → Nat
  | (.string bytes, d) => bytes.length + uptoBulk d + 1
  | (_, d) => uptoBulk d + 1
 end
def uptoSmall : (H : Type) → List (DataW H) → Bool := fun _ ds => decide (uptoBulkAll ds ≤ 1048576)
def OpenSpec.upto (s : _root_.Go.ChangeSpec) : _root_.Go.OpenSpec := { _root_.Go.OpenSpec.ofChange s with cond := some uptoSmall }

/-- 'reeflaw16.LeadNext', WHERE WHAT IT READS IS OF BULK AT MOST 1048576: true; the input reads as it did. -/
def leadNextUptoRow : OpenClaim := { program := "ytpdpjcpmpppadaa", sum := "c787aec206881021b8e3772bdb18f379f8e559a425b95e502ba43621950030aa", func := "reef/reeflaw16.LeadNext", spec := "leadNext", inPlace := ["slices.overlaps[reef/api.Promise]"], unfollowed := true, recurses := true, apart := false, narrowed := true }
def LeadNextUptoSaid : Prop := leadNextUptoRow.holds Try.pinned (OpenSpec.upto leadNextSpec)

/-- 'reeflaw16.LeadMajorities', WHERE WHAT IT READS IS OF BULK AT MOST 1048576: true; the input reads as it did. -/
def leadMajoritiesUptoRow : OpenClaim := { program := "ytpdpjcpmpppadaa", sum := "c787aec206881021b8e3772bdb18f379f8e559a425b95e502ba43621950030aa", func := "reef/reeflaw16.LeadMajorities", spec := "leadMajorities", inPlace := ["slices.overlaps[reef/api.Promise]"], unfollowed := true, recurses := true, apart := false, narrowed := true }
def LeadMajoritiesUptoSaid : Prop := leadMajoritiesUptoRow.holds Try.pinned (OpenSpec.upto leadMajoritiesSpec)

/-- 'reeflaw16.LeadHears', WHERE WHAT IT READS IS OF BULK AT MOST 1048576: true; the input reads as it did. -/
def leadHearsUptoRow : OpenClaim := { program := "ytpdpjcpmpppadaa", sum := "c787aec206881021b8e3772bdb18f379f8e559a425b95e502ba43621950030aa", func := "reef/reeflaw16.LeadHears", spec := "leadHears", inPlace := ["slices.overlaps[reef/api.Promise]"], unfollowed := true, recurses := true, apart := false, narrowed := true }
def LeadHearsUptoSaid : Prop := leadHearsUptoRow.holds Try.pinned (OpenSpec.upto leadHearsSpec)

/-- 'reeflaw16.LeadDoes', WHERE WHAT IT READS IS OF BULK AT MOST 1048576: true; the input reads as it did. -/
def leadDoesUptoRow : OpenClaim := { program := "ytpdpjcpmpppadaa", sum := "c787aec206881021b8e3772bdb18f379f8e559a425b95e502ba43621950030aa", func := "reef/reeflaw16.LeadDoes", spec := "leadDoes", inPlace := ["slices.overlaps[reef/api.Promise]", "slices.overlaps[int]"], unfollowed := true, recurses := true, apart := false, narrowed := true }
def LeadDoesUptoSaid : Prop := leadDoesUptoRow.holds Try.pinned (OpenSpec.upto leadDoesSpec)

/-- 'reeflaw16.LeadAgrees', WHERE WHAT IT READS IS OF BULK AT MOST 1048576: true; the input reads as it did. -/
def leadAgreesUptoRow : OpenClaim := { program := "ytpdpjcpmpppadaa", sum := "c787aec206881021b8e3772bdb18f379f8e559a425b95e502ba43621950030aa", func := "reef/reeflaw16.LeadAgrees", spec := "leadAgrees", inPlace := ["slices.overlaps[reef/api.Promise]", "slices.overlaps[int]"], unfollowed := true, recurses := true, apart := false, narrowed := true }
def LeadAgreesUptoSaid : Prop := leadAgreesUptoRow.holds Try.pinned (OpenSpec.upto leadAgreesSpec)

end Rows
end Go.Proofs.Ytpdpjcpmpppadaa
