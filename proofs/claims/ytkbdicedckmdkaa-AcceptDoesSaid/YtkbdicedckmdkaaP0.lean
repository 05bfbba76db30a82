-- left of the seat's texts by prune.py, a program of this session
import Derived.Test.YtkbdicedckmdkaaProg
import Derived.Below
import Derived.Deep.Draws
import Derived.Deep.AppendLies
import Derived.Maps.AppendAt
import Derived.OwnWalk
import Derived.Laws.BytesArg
import Derived.Laws.MakeOwn
import Derived.Laws.OwnMore
import Derived.Deep.OwnRows
import Derived.Tactics
import Derived.Lib.ConvBytes
import Derived.Laws.Slices
import Derived.WalkKit
import Derived.KernelRfl
import Derived.RowKit3
import Derived.Deep.LoopGhost
import Derived.Deep.QuietTactic
import Derived.BigQuiet
import Derived.WideLaws
import Derived.Deep.DeepCutAuto
import Derived.Deep.CutBlock
import Derived.Deep.RegionHeld3
import Derived.Laws.Rows
import Derived.Lib.AppendStr
import Derived.ArgAppend
import Derived.Laws.IdiomCopy
import Derived.OrdersHeld
import Derived.Laws.BitsLemmas
import Derived.RowKit
import Derived.Test.YtkbdicedckmdkaaSh
import Derived.Test.YtkbdicedckmdkaaWWords
import Derived.Test.YtkbdicedckmdkaaWLast
import Derived.Test.YtkbdicedckmdkaaWTab
import Derived.Test.YtkbdicedckmdkaaWFour
import Derived.Test.YtkbdicedckmdkaaWQPut
import Derived.Test.YtkbdicedckmdkaaWApart
import Derived.Test.YtkbdicedckmdkaaWArr
import Derived.Test.YtkbdicedckmdkaaWZeros
import Derived.Test.YtkbdicedckmdkaaWFoot
import Derived.Test.YtkbdicedckmdkaaWKept
import Derived.Test.YtkbdicedckmdkaaWShare
import Derived.Test.YtkbdicedckmdkaaWN
import Derived.Test.YtkbdicedckmdkaaWFootNe
import Derived.Test.YtkbdicedckmdkaaWAt
import Derived.Test.YtkbdicedckmdkaaWEqStruct
import Derived.Test.YtkbdicedckmdkaaWRepsOne
import Derived.Test.YtkbdicedckmdkaaWInv
import Derived.Test.YtkbdicedckmdkaaWInvWords
import Derived.Test.YtkbdicedckmdkaaWGuard
import Derived.Test.YtkbdicedckmdkaaWNEv
import Derived.Test.YtkbdicedckmdkaaWMore
namespace Go.Proofs.Ytkbdicedckmdkaa.P
open Go.RowKit Go.Proofs.YtkbdicedckmdkaaW.PrintWords Go.Proofs.YtkbdicedckmdkaaW.PrintLast Go.Proofs.YtkbdicedckmdkaaW.PrintMore
attribute [local go_sem] max2_int min2_int max_two min_two max_three min_three max_four min_four   -- for this text's walks alone
set_option linter.unusedVariables false
set_option linter.unusedSimpArgs false
def errW : Option Int → Value
  | none => .nilIface
  | some c => .iface 0 (.int .i64 c)
theorem errW_none : errW none = .nilIface := rfl
theorem errW_some (c : Int) : errW (some c) = .iface 0 (.int .i64 c) := rfl
theorem info9 : (Try.prog.info? 9).map (fun i => (i.zero, i.size, i.bytes)) = some (some (.string ⟨#[]⟩), 1, 16) := by kernel_rfl
structure S24 where
  f0 : Int
  f1 : Int
def k24 : Kd S24 := Kd.iso (Kd.pair (Kd.int .i64) (Kd.int .i64)) (fun x : S24 => (x.f0, x.f1))
theorem k24_open {w : World} {x : S24} {cs : List Value} (h : k24.K w x cs) : cs = [.int .i64 x.f0, .int .i64 x.f1] := by
  obtain ⟨_, _, rfl, rfl, rfl⟩ := h
  exact rfl
structure S27 where
  f0 : S24
  f1 : Bool
  f2 : S24
  f3 : ByteArray
  f4 : (List ByteArray)
def k27 : Kd S27 := Kd.iso (Kd.pair k24 (Kd.pair Kd.bool (Kd.pair k24 (Kd.pair Kd.string (Kd.slice 9 Kd.string))))) (fun x : S27 => (x.f0, x.f1, x.f2, x.f3, x.f4))
theorem k27_open {w : World} {x : S27} {cs : List Value} (h : k27.K w x cs) : ∃ A6 c6, cs = [.int .i64 x.f0.f0, .int .i64 x.f0.f1, .bool x.f1, .int .i64 x.f2.f0, .int .i64 x.f2.f1, .string x.f3, .slice A6 x.f4.length c6] ∧ x.f4.length ≤ c6 ∧ Kd.string.C w A6 x.f4.length x.f4 := by
  obtain ⟨_, _, rfl, s0, ⟨_, _, rfl, rfl, ⟨_, _, rfl, s3, ⟨_, _, rfl, rfl, ⟨A6, c6, rfl, l6, g6⟩⟩⟩⟩⟩ := h
  obtain rfl := k24_open s0
  obtain rfl := k24_open s3
  exact ⟨A6, c6, rfl, l6, g6⟩
end Go.Proofs.Ytkbdicedckmdkaa.P
