/- code.high: eight bytes, the highest first. -/
import Derived.Handy
import Derived.LoopN
import Derived.Test.YtcheinjlgojepaaDoorP0
namespace Go.Proofs.YtcheinjlgojepaaDoor.P
open Go.RowKit Go.Proofs.YtcheinjlgojepaaDoorW.PrintWords Go.Proofs.YtcheinjlgojepaaDoorW.PrintLast Go.Proofs.YtcheinjlgojepaaDoorW.PrintMore
set_option linter.unusedVariables false
set_option linter.unusedSimpArgs false
/-- The eight bytes of a number. -/
def high8 (a0 : Int) : List Int := [a0 / 72057594037927936 % 256, a0 / 281474976710656 % 256, a0 / 1099511627776 % 256, a0 / 4294967296 % 256, a0 / 16777216 % 256, a0 / 65536 % 256, a0 / 256 % 256, a0 % 256]
def code_high.f (a0 : Int) : Option (List Int) := some (high8 a0)
theorem high_row {W : World} {base g : Nat} {cs : Array Value} (hb : base ≤ g) (hg : W.heap[g]? = some (.cells cs 73 (0, 0))) (hs : cs.size = 8) (xs : List Int) (hx : cs.toList = nums .u8 xs) (hl : xs.length = 8) : Kd.R (Kd.int .u8) 73 W base (fun _ => True) (.slice (some ⟨g, 0, none⟩) 8 8) xs := by
  have hn : (nums .u8 xs).length = 8 := by rw [← hx, Array.length_toList]; exact hs
  refine Kd.R_of_own (h1 := fun _ => rfl) (enc := fun x => Value.int .u8 x) ?_ (fun _ _ => trivial)
  show W.ownsRow base 73 1 (.slice (some ⟨g, 0, none⟩) 8 8) xs.length (nums .u8 xs)
  rw [hl]
  refine ⟨by rw [hn], .inr ⟨g, 8, cs, rfl, hb, hg, Nat.le_refl _, by decide, by rw [hs], ?_⟩⟩
  rw [← hx]
  exact List.take_of_length_le (by rw [Array.length_toList, hs]; decide)
set_option maxHeartbeats 4000000 in
set_option maxRecDepth 100000 in
theorem code_high.calls (a0 : Int) (r : List Int) (w : World) (h : code_high.f a0 = some r) :
    Calls Tryd.prog 36 #[.int .u64 a0] w fun e w' => ∃ v0_ : Value, e = .returned (v0_) ∧ Kd.R (Kd.int .u8) 73 w' w.heap.size (fun _ => True) v0_ r ∧ Below w.heap.size w w' := by
  obtain rfl := Option.some.inj h
  go_enter Tryd.func36, Tryd.ntmps36
  go_wp2
  go_rounds 9
  go_ret
  exact ⟨_, rfl, high_row (cs := #[Value.int IntKind.u8 (a0 / 72057594037927936 % 256), Value.int IntKind.u8 (a0 / 281474976710656 % 256), Value.int IntKind.u8 (a0 / 1099511627776 % 256), Value.int IntKind.u8 (a0 / 4294967296 % 256), Value.int IntKind.u8 (a0 / 16777216 % 256), Value.int IntKind.u8 (a0 / 65536 % 256), Value.int IntKind.u8 (a0 / 256 % 256), Value.int IntKind.u8 (a0 % 256)]) (Nat.le_refl _) (blk_new _ _) rfl _ rfl rfl, below_alloc (Below.refl _ _) _⟩
end Go.Proofs.YtcheinjlgojepaaDoor.P
