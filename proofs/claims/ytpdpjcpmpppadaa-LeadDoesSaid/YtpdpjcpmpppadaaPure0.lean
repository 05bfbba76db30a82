import Derived.Test.YtpdpjcpmpppadaaP24
import Derived.Test.YtpdpjcpmpppadaaP7
import Derived.Test.YtpdpjcpmpppadaaP8
import Derived.Test.YtpdpjcpmpppadaaP9
import Derived.Test.YtpdpjcpmpppadaaP10
import Derived.Test.YtpdpjcpmpppadaaP11
import Derived.Test.YtpdpjcpmpppadaaRCopy
-- left of the seat's texts by prune.py, a program of this session
namespace Go.Proofs.Ytpdpjcpmpppadaa.Pure
open Go.RowKit Go.Proofs.Ytpdpjcpmpppadaa.P Go.Proofs.YtpdpjcpmpppadaaW.PrintWords Go.Proofs.YtpdpjcpmpppadaaW.PrintLast Go.Proofs.YtpdpjcpmpppadaaW.PrintMore
set_option linter.unusedVariables false
theorem awake_ev : Ev (fun k => reeflaw16_awake.f k) true := Ev.of (k := 8) (fun k => reeflaw16_awake.mono k) (by decide +kernel)
theorem wrap_of {x : Int} (h0 : -9223372036854775808 ≤ x) (h1 : x < 9223372036854775808) : wrap64 x = x := by unfold wrap64; omega
end Go.Proofs.Ytpdpjcpmpppadaa.Pure
-- left of the seat's texts by prune.py, a program of this session
namespace Go.Proofs.Ytpdpjcpmpppadaa.Pure
open Go.RowKit Go.Proofs.Ytpdpjcpmpppadaa.P Go.Proofs.YtpdpjcpmpppadaaW.PrintWords Go.Proofs.YtpdpjcpmpppadaaW.PrintLast Go.Proofs.YtpdpjcpmpppadaaW.PrintMore
set_option linter.unusedVariables false
theorem wrap_s (i : Nat) (h : i < 9223372036854775807) : wrap64 ((i : Int) + 1) = ((i + 1 : Nat) : Int) := by rw [wrap_of (by omega) (by omega)]; omega
theorem copy_some (a b c : Int) (l : List S39) (d : Bool) (s : ByteArray) (m : List Int) (hl : l.length * 56 ≤ 140737488355328) (hm : m.length * 8 ≤ 140737488355328) : reefref16_Copy.f a b c l d s m = some (a, b, c, l, d, s, m) := by
  unfold reefref16_Copy.f; rw [if_pos ⟨hl, hm⟩]
theorem eqp_ev (l : List S39) (hl : l.length < 4611686018427387904) : Ev (fun k => api_Promise_41.f k l l) true := by
  have key : ∀ d i, i + d = l.length → Ev (fun k => api_Promise_41.l0 k l l (l.length : Int) (i : Int)) true := by
    intro d
    induction d with
    | zero =>
      intro i hi
      refine Ev.step (f := fun _ => some true) (fun k => ?_) (Ev.now _)
      simp only [api_Promise_41.l0]
      rw [if_neg (by omega)]
    | succ d ih =>
      intro i hi
      refine Ev.step (f := fun k => api_Promise_41.l0 k l l (l.length : Int) ((i + 1 : Nat) : Int)) (fun k => ?_) (ih (i + 1) (by omega))
      have w := wrap_s i (by omega)
      simp only [api_Promise_41.l0, w, beq_self_eq_true, Bool.not_true, Bool.or_false, Bool.false_eq_true, if_false]
      rw [if_pos (by omega), if_pos (by omega), if_pos (by omega), if_pos (by omega)]
  refine Ev.congr (f := fun k => api_Promise_41.l0 k l l (l.length : Int) ((0 : Nat) : Int)) (fun k => ?_) (key l.length 0 (by omega))
  simp only [api_Promise_41.f, if_true]
  rfl
theorem eqi_ev (l : List Int) (hl : l.length < 4611686018427387904) : Ev (fun k => slices_Equal_int_int.f k l l) true := by
  have key : ∀ d i, i + d = l.length → Ev (fun k => slices_Equal_int_int.l0 k l l (l.length : Int) (i : Int)) true := by
    intro d
    induction d with
    | zero =>
      intro i hi
      refine Ev.step (f := fun _ => some true) (fun k => ?_) (Ev.now _)
      simp only [slices_Equal_int_int.l0]
      rw [if_neg (by omega)]
    | succ d ih =>
      intro i hi
      refine Ev.step (f := fun k => slices_Equal_int_int.l0 k l l (l.length : Int) ((i + 1 : Nat) : Int)) (fun k => ?_) (ih (i + 1) (by omega))
      have w := wrap_s i (by omega)
      simp only [slices_Equal_int_int.l0, w, if_true]
      rw [if_pos (by omega), if_pos (by omega), if_pos (by omega), if_pos (by omega)]
  refine Ev.congr (f := fun k => slices_Equal_int_int.l0 k l l (l.length : Int) ((0 : Nat) : Int)) (fun k => ?_) (key l.length 0 (by omega))
  simp only [slices_Equal_int_int.f, if_true]
  rfl
theorem same_ev (a b c : Int) (l : List S39) (d : Bool) (s : ByteArray) (m : List Int) (hl : l.length < 4611686018427387904) (hm : m.length < 4611686018427387904) : Ev (fun k => lead_Same.f k a b c l d s m a b c l d s m) true := by
  unfold lead_Same.f
  simp only [if_true, beq_self_eq_true, Bool.and_self]
  refine Ev.bind (eqp_ev l hl) ?_
  simp only [if_true]
  exact Ev.bind (eqi_ev m hm) (Ev.now _)
theorem rsame_ev (a b c : Int) (l : List S39) (d : Bool) (s : ByteArray) (m : List Int) (hl : l.length < 4611686018427387904) (hm : m.length < 4611686018427387904) : Ev (fun k => reefref16_Same.f k a b c l d s m a b c l d s m) true := by
  have key1 : ∀ n i, i + n = m.length → Ev (fun k => reefref16_Same.l1 k (i : Int) a b c l d s m a b c l d s m) true := by
    intro n
    induction n with
    | zero =>
      intro i hi
      refine Ev.step (f := fun _ => some true) (fun k => ?_) (Ev.now _)
      simp only [reefref16_Same.l1]
      rw [if_neg (by omega)]
    | succ n ih =>
      intro i hi
      refine Ev.step (f := fun k => reefref16_Same.l1 k ((i + 1 : Nat) : Int) a b c l d s m a b c l d s m) (fun k => ?_) (ih (i + 1) (by omega))
      have w := wrap_s i (by omega)
      simp only [reefref16_Same.l1, w, if_true]
      rw [if_pos (by omega), if_pos (by omega), if_pos (by omega)]
  have key0 : ∀ n i, i + n = l.length → Ev (fun k => reefref16_Same.l0 k (i : Int) a b c l d s m a b c l d s m) true := by
    intro n
    induction n with
    | zero =>
      intro i hi
      refine Ev.step (f := fun k => reefref16_Same.l1 k ((0 : Nat) : Int) a b c l d s m a b c l d s m) (fun k => ?_) (key1 m.length 0 (by omega))
      simp only [reefref16_Same.l0]
      rw [if_neg (by omega)]
      rfl
    | succ n ih =>
      intro i hi
      refine Ev.step (f := fun k => reefref16_Same.l0 k ((i + 1 : Nat) : Int) a b c l d s m a b c l d s m) (fun k => ?_) (ih (i + 1) (by omega))
      have w := wrap_s i (by omega)
      simp only [reefref16_Same.l0, w, beq_self_eq_true, Bool.not_true, Bool.or_false, Bool.false_eq_true, if_false]
      rw [if_pos (by omega), if_pos (by omega), if_pos (by omega)]
  unfold reefref16_Same.f
  simp only [if_true, beq_self_eq_true, Bool.not_true, Bool.or_false, Bool.false_eq_true, if_false, bne_self_eq_false]
  refine Ev.step (f := fun k => reefref16_Same.l0 k ((0 : Nat) : Int) a b c l d s m a b c l d s m) (fun k => ?_) (key0 l.length 0 (by omega))
  simp only [reefref16_Same.j0, Bool.false_eq_true, if_false]
  rfl
end Go.Proofs.Ytpdpjcpmpppadaa.Pure
