-- Printed by gprint.py, a program of this session, over the kit's print.py
import Derived.Test.YtoadflcdpcfibaaP0
import Derived.Test.YtoadflcdpcfibaaP3
namespace Go.Proofs.Ytoadflcdpcfibaa.P
open Go.RowKit Go.Proofs.YtoadflcdpcfibaaW.PrintWords Go.Proofs.YtoadflcdpcfibaaW.PrintLast Go.Proofs.YtoadflcdpcfibaaW.PrintMore
attribute [local go_sem] max2_int min2_int max_two min_two max_three min_three max_four min_four   -- for this text's walks alone
set_option linter.unusedVariables false
set_option linter.unusedSimpArgs false

/-! ### reefref03_Open: function 12 -/
def reefref03_Open.j0 : Nat → List Int → Bool → Option (Int × List Int × Int × Int)
 | 0, _, _ => none
 | k + 1, x0, x18 => if x18 = true then (some (0, ([] : List Int), 0, 10)) else (if (x0.length : Int) < 5 then (some (0, ([] : List Int), 0, 11)) else (if 2 < (x0.length : Int) then (if 3 < (x0.length : Int) then (if 4 < (x0.length : Int) then (if (Go.bits .or .i64 (Go.bits .or .i64 (wrap64 (rd x0 2)) (wrap64 ((wrap64 (rd x0 3)) * 256))) (wrap64 ((wrap64 (rd x0 4)) * 65536))) > 1048575 then (some (0, ([] : List Int), 0, 10)) else (if (x0.length : Int) < (wrap64 ((wrap64 (5 + (Go.bits .or .i64 (Go.bits .or .i64 (wrap64 (rd x0 2)) (wrap64 ((wrap64 (rd x0 3)) * 256))) (wrap64 ((wrap64 (rd x0 4)) * 65536))))) + 4)) then (some (0, ([] : List Int), 0, 11)) else (if 1 ≤ (wrap64 (5 + (Go.bits .or .i64 (Go.bits .or .i64 (wrap64 (rd x0 2)) (wrap64 ((wrap64 (rd x0 3)) * 256))) (wrap64 ((wrap64 (rd x0 4)) * 65536))))) then (if (wrap64 (5 + (Go.bits .or .i64 (Go.bits .or .i64 (wrap64 (rd x0 2)) (wrap64 ((wrap64 (rd x0 3)) * 256))) (wrap64 ((wrap64 (rd x0 4)) * 65536))))) ≤ (x0.length : Int) then ((reefref03_Sum.f k ((x0.take ((wrap64 (5 + (Go.bits .or .i64 (Go.bits .or .i64 (wrap64 (rd x0 2)) (wrap64 ((wrap64 (rd x0 3)) * 256))) (wrap64 ((wrap64 (rd x0 4)) * 65536))))) : Int).toNat).drop 1)).bind fun t152 => (if 0 ≤ (wrap64 (5 + (Go.bits .or .i64 (Go.bits .or .i64 (wrap64 (rd x0 2)) (wrap64 ((wrap64 (rd x0 3)) * 256))) (wrap64 ((wrap64 (rd x0 4)) * 65536))))) then (if (wrap64 (5 + (Go.bits .or .i64 (Go.bits .or .i64 (wrap64 (rd x0 2)) (wrap64 ((wrap64 (rd x0 3)) * 256))) (wrap64 ((wrap64 (rd x0 4)) * 65536))))) < (x0.length : Int) then (if (rd x0 (wrap64 (5 + (Go.bits .or .i64 (Go.bits .or .i64 (wrap64 (rd x0 2)) (wrap64 ((wrap64 (rd x0 3)) * 256))) (wrap64 ((wrap64 (rd x0 4)) * 65536)))))) = ((t152) % 256) then (if 0 ≤ (wrap64 ((wrap64 (5 + (Go.bits .or .i64 (Go.bits .or .i64 (wrap64 (rd x0 2)) (wrap64 ((wrap64 (rd x0 3)) * 256))) (wrap64 ((wrap64 (rd x0 4)) * 65536))))) + 1)) then (if (wrap64 ((wrap64 (5 + (Go.bits .or .i64 (Go.bits .or .i64 (wrap64 (rd x0 2)) (wrap64 ((wrap64 (rd x0 3)) * 256))) (wrap64 ((wrap64 (rd x0 4)) * 65536))))) + 1)) < (x0.length : Int) then (if (rd x0 (wrap64 ((wrap64 (5 + (Go.bits .or .i64 (Go.bits .or .i64 (wrap64 (rd x0 2)) (wrap64 ((wrap64 (rd x0 3)) * 256))) (wrap64 ((wrap64 (rd x0 4)) * 65536))))) + 1))) = ((t152 / 256) % 256) then (if 0 ≤ (wrap64 ((wrap64 (5 + (Go.bits .or .i64 (Go.bits .or .i64 (wrap64 (rd x0 2)) (wrap64 ((wrap64 (rd x0 3)) * 256))) (wrap64 ((wrap64 (rd x0 4)) * 65536))))) + 2)) then (if (wrap64 ((wrap64 (5 + (Go.bits .or .i64 (Go.bits .or .i64 (wrap64 (rd x0 2)) (wrap64 ((wrap64 (rd x0 3)) * 256))) (wrap64 ((wrap64 (rd x0 4)) * 65536))))) + 2)) < (x0.length : Int) then (if (rd x0 (wrap64 ((wrap64 (5 + (Go.bits .or .i64 (Go.bits .or .i64 (wrap64 (rd x0 2)) (wrap64 ((wrap64 (rd x0 3)) * 256))) (wrap64 ((wrap64 (rd x0 4)) * 65536))))) + 2))) = ((t152 / 65536) % 256) then (if 0 ≤ (wrap64 ((wrap64 (5 + (Go.bits .or .i64 (Go.bits .or .i64 (wrap64 (rd x0 2)) (wrap64 ((wrap64 (rd x0 3)) * 256))) (wrap64 ((wrap64 (rd x0 4)) * 65536))))) + 3)) then (if (wrap64 ((wrap64 (5 + (Go.bits .or .i64 (Go.bits .or .i64 (wrap64 (rd x0 2)) (wrap64 ((wrap64 (rd x0 3)) * 256))) (wrap64 ((wrap64 (rd x0 4)) * 65536))))) + 3)) < (x0.length : Int) then (if (rd x0 (wrap64 ((wrap64 (5 + (Go.bits .or .i64 (Go.bits .or .i64 (wrap64 (rd x0 2)) (wrap64 ((wrap64 (rd x0 3)) * 256))) (wrap64 ((wrap64 (rd x0 4)) * 65536))))) + 3))) = ((t152 / 16777216) % 256) then (if 5 ≤ (wrap64 (5 + (Go.bits .or .i64 (Go.bits .or .i64 (wrap64 (rd x0 2)) (wrap64 ((wrap64 (rd x0 3)) * 256))) (wrap64 ((wrap64 (rd x0 4)) * 65536))))) then (if ([] : List Int).length + ((x0.take ((wrap64 (5 + (Go.bits .or .i64 (Go.bits .or .i64 (wrap64 (rd x0 2)) (wrap64 ((wrap64 (rd x0 3)) * 256))) (wrap64 ((wrap64 (rd x0 4)) * 65536))))) : Int).toNat).drop 5).length < 140737488355328 then (if 1 < (x0.length : Int) then (some (rd x0 1, (([] : List Int) ++ ((x0.take ((wrap64 (5 + (Go.bits .or .i64 (Go.bits .or .i64 (wrap64 (rd x0 2)) (wrap64 ((wrap64 (rd x0 3)) * 256))) (wrap64 ((wrap64 (rd x0 4)) * 65536))))) : Int).toNat).drop 5)), wrap64 ((wrap64 (5 + (Go.bits .or .i64 (Go.bits .or .i64 (wrap64 (rd x0 2)) (wrap64 ((wrap64 (rd x0 3)) * 256))) (wrap64 ((wrap64 (rd x0 4)) * 65536))))) + 4), 0)) else (none)) else (none)) else (none)) else (some (0, ([] : List Int), 0, 12))) else (none)) else (none)) else (some (0, ([] : List Int), 0, 12))) else (none)) else (none)) else (some (0, ([] : List Int), 0, 12))) else (none)) else (none)) else (some (0, ([] : List Int), 0, 12))) else (none)) else (none))) else (none)) else (none)))) else (none)) else (none)) else (none)))
def reefref03_Open.f (k : Nat) (l0 : List Int) : Option (Int × List Int × Int × Int) := if (l0.length : Int) > 0 then (if 0 < (l0.length : Int) then (reefref03_Open.j0 k l0 ((rd l0 0) != 167)) else (none)) else (reefref03_Open.j0 k l0 false)
theorem reefref03_Open.mono_l : ∀ k, (∀ y0 y1, LeO (reefref03_Open.j0 k y0 y1) (reefref03_Open.j0 (k + 1) y0 y1))
 | 0 => fun _ _ r h => by simp [reefref03_Open.j0] at h
 | k + 1 => by
  have ih0 := reefref03_Open.mono_l k
  ·intro y0 y1
   unfold reefref03_Open.j0
   repeat' first
   | (with_reducible exact ih0 _ _)
   | (with_reducible exact reefref03_Sum.mono _ _)
   | (with_reducible exact LeO.refl _)
   | (with_reducible exact LeO.none _)
   | (with_reducible refine LeO.ite ?_ ?_)
   | (with_reducible refine LeO.bind ?_ (fun _ => ?_))
   | exact ih0 _ _
   | exact reefref03_Sum.mono _ _
   | exact LeO.none _
   | refine LeO.ite ?_ ?_
   | refine LeO.bind ?_ (fun _ => ?_)
theorem reefref03_Open.mono : ∀ a0 k, LeO (reefref03_Open.f k a0) (reefref03_Open.f (k + 1) a0) := by
 intro a0 k
 have ih0 := reefref03_Open.mono_l k
 unfold reefref03_Open.f
 repeat' first
   | (with_reducible exact ih0 _ _)
   | (with_reducible exact reefref03_Sum.mono _ _)
   | (with_reducible exact LeO.refl _)
   | (with_reducible exact LeO.none _)
   | (with_reducible refine LeO.ite ?_ ?_)
   | (with_reducible refine LeO.bind ?_ (fun _ => ?_))
   | exact ih0 _ _
   | exact reefref03_Sum.mono _ _
   | exact LeO.none _
   | refine LeO.ite ?_ ?_
   | refine LeO.bind ?_ (fun _ => ?_)
set_option maxHeartbeats 8000000 in
set_option maxRecDepth 100000 in
theorem reefref03_Open.calls (k : Nat) (A0 : Option Addr) (c0 : Nat) (l0 : List Int) (r1 : Int) (r2 : List Int) (r3 : Int) (r4 : Int) (w : World) (hr0 : Kd.C (Kd.int .u8) w A0 l0.length l0) (hc0 : l0.length ≤ c0) (h : reefref03_Open.f k l0 = some (r1, r2, r3, r4)) :
  Calls Try.prog 12 #[.slice A0 l0.length c0] w fun e w' => ∃ v1_ : Value, e = .returned (.tuple #[.int .u8 r1, v1_, .int .i64 r3, .int .i64 r4]) ∧ Kd.R (Kd.int .u8) 5 w' w.heap.size (fun _ => True) v1_ r2 ∧ Below w.heap.size w w' := by
 have HR0 := Aside0.mk hr0
 have HC0 := Aside0.mk hc0
 clear hr0 hc0
 have HB := Aside0.mk (Below.refl w.heap.size w)
 have H : (if (l0.length : Int) > 0 then (if 0 < (l0.length : Int) then (reefref03_Open.j0 k l0 ((rd l0 0) != 167)) else (none)) else (reefref03_Open.j0 k l0 false)) = some (r1, r2, r3, r4) := h
 clear h
 have HC2 := Aside0.mk H
 clear H
 go_enter Try.func12, Try.ntmps12
 go_upto_region 1 with (fail)
 repeat (go_quiet (fail); go_upto_region 1 with (fail))
 go_cut [18] (fun v18 wc => ∃ (kq : Nat) (x18_1 : Bool), v18 = .bool x18_1 ∧ Aside0 (reefref03_Open.j0 kq l0 x18_1 = some (r1, r2, r3, r4)) ∧ Aside0 (kq ≤ k) ∧ Aside0 (Below w.heap.size w wc))
 case first =>
  have H := HC2.out
  clear HC2
  by_cases c3 : (l0.length : Int) > 0
  ·rw [if_pos c3] at H
   have c3b0 : decide (0 < (l0.length : Int)) = true := decide_eq_true c3
   have c3b1 : decide (0 < l0.length) = true := decide_eq_true (by omega)
   clear c3
   (first | rw [c3b0] | (simp only [i64_w, i32_w]; rw [c3b0]) | skip)
   by_cases c4 : 0 < (l0.length : Int)
   ·rw [if_pos c4] at H
    have c4b0 : decide (0 < (l0.length : Int)) = true := decide_eq_true c4
    have c4b1 : decide (0 < l0.length) = true := decide_eq_true (by omega)
    clear c4
    have H' := Aside0.mk H
    clear H
    have p147 : 0 ≤ (0 : Int) := (by omega)
    have q147 : 0 < (l0.length : Int) := of_decide_eq_true (by first | (with_reducible assumption) | assumption)
    obtain ⟨ad147, e147, hx147_0⟩ := Kd.at_int HR0.out 0 p147 q147
    cases e147
    have qi147 : (0 < l0.length) = True := eq_true (by omega)
    (try rw [show ((0 : Int)).toNat = 0 from rfl] at hx147_0)
    (try rw [Addr.add_zero'] at hx147_0)
    replace hx147_0 := (HB.out.cell (World.block_lt_of_cell? w _ hx147_0)).trans hx147_0
    replace p147 := eq_true p147
    replace q147 := eq_true q147
    go_wp2
    repeat (go_quiet (fail); try go_wp2)
    go_meet
    case rel => exact ⟨_, (((rd l0 0) != 167)), (by first | rfl | (simp; done) | (simp [*]; done)), H', ⟨by first | omega | exact Nat.le_refl _⟩, ⟨by repeat (first | (with_reducible first | exact HB.out | apply below_alloc | apply pw_below_drewN | apply below_drew1) | exact HB.out)⟩⟩
   ·rw [if_neg c4] at H
    exact absurd H (by simp)
  ·rw [if_neg c3] at H
   have c3b0 : decide (0 < (l0.length : Int)) = false := decide_eq_false c3
   have c3b1 : decide (0 < l0.length) = false := decide_eq_false (by omega)
   clear c3
   (first | rw [c3b0] | (simp only [i64_w, i32_w]; rw [c3b0]) | skip)
   have H' := Aside0.mk H
   clear H
   go_wp2
   repeat (go_quiet (fail); try go_wp2)
   go_meet
   case rel => exact ⟨_, (false), (by first | rfl | (simp; done) | (simp [*]; done)), H', ⟨by first | omega | exact Nat.le_refl _⟩, ⟨by repeat (first | (with_reducible first | exact HB.out | apply below_alloc | apply pw_below_drewN | apply below_drew1) | exact HB.out)⟩⟩
 case rest =>
  clear HC2
  try clear c1
  try clear p1
  try clear q1
  try clear hx1
  try clear qi1
  try clear p2
  try clear c3
  try clear c3b0
  try clear c3b1
  try clear c4
  try clear c4b0
  try clear c4b1
  try clear hx147_0
  try clear p147
  try clear q147
  obtain ⟨kq, x18_1, rfl, HA, HJ1, HB⟩ := hcut
  cases kq with
  | zero => exact absurd HA.out (by simp [reefref03_Open.j0])
  | succ kj1 =>
   have H := HA.out
   clear HA
   simp only [reefref03_Open.j0] at H
   by_cases c5 : x18_1 = true
   ·subst c5
    have H1 : (some (0, ([] : List Int), 0, 10)) = some (r1, r2, r3, r4) := by rw [if_pos rfl] at H; exact H
    clear H
    have H := H1
    clear H1
    simp only [Option.some.injEq, Prod.mk.injEq] at H
    obtain ⟨rfl, rfl, rfl, rfl⟩ := H
    go_wp2
    repeat (go_quiet (fail); try go_wp2)
    refine bodyPost_ret (results_list (rs := [.tmp 2, .tmp 3, .tmp 4, .tmp 5]) rfl (by simp) (.tmp (.tmp (.tmp (.tmp .nil))))) rfl ?_
    exact ⟨_, by first | rfl | (simp [errW_none, errW_some] <;> rfl) | (simp [*, errW_none, errW_some] <;> rfl), by first | exact Kd.R_nil _ _ _ _ _ | exact Kd.N_nil _ _ _ _ _ | exact Kd.V_nil _ _ _ _ _ | exact Kd.Q_nil _ _ _ _ _ | exact Kd.S_nil _ _ _ _ _, by repeat (first | (with_reducible first | exact HB.out | apply below_alloc | apply pw_below_drewN | apply below_drew1) | exact HB.out)⟩
   ·replace c5 := Bool.eq_false_iff.mpr c5
    subst c5
    have H1 : (if (l0.length : Int) < 5 then (some (0, ([] : List Int), 0, 11)) else (if 2 < (l0.length : Int) then (if 3 < (l0.length : Int) then (if 4 < (l0.length : Int) then (if (Go.bits .or .i64 (Go.bits .or .i64 (wrap64 (rd l0 2)) (wrap64 ((wrap64 (rd l0 3)) * 256))) (wrap64 ((wrap64 (rd l0 4)) * 65536))) > 1048575 then (some (0, ([] : List Int), 0, 10)) else (if (l0.length : Int) < (wrap64 ((wrap64 (5 + (Go.bits .or .i64 (Go.bits .or .i64 (wrap64 (rd l0 2)) (wrap64 ((wrap64 (rd l0 3)) * 256))) (wrap64 ((wrap64 (rd l0 4)) * 65536))))) + 4)) then (some (0, ([] : List Int), 0, 11)) else (if 1 ≤ (wrap64 (5 + (Go.bits .or .i64 (Go.bits .or .i64 (wrap64 (rd l0 2)) (wrap64 ((wrap64 (rd l0 3)) * 256))) (wrap64 ((wrap64 (rd l0 4)) * 65536))))) then (if (wrap64 (5 + (Go.bits .or .i64 (Go.bits .or .i64 (wrap64 (rd l0 2)) (wrap64 ((wrap64 (rd l0 3)) * 256))) (wrap64 ((wrap64 (rd l0 4)) * 65536))))) ≤ (l0.length : Int) then ((reefref03_Sum.f kj1 ((l0.take ((wrap64 (5 + (Go.bits .or .i64 (Go.bits .or .i64 (wrap64 (rd l0 2)) (wrap64 ((wrap64 (rd l0 3)) * 256))) (wrap64 ((wrap64 (rd l0 4)) * 65536))))) : Int).toNat).drop 1)).bind fun t152 => (if 0 ≤ (wrap64 (5 + (Go.bits .or .i64 (Go.bits .or .i64 (wrap64 (rd l0 2)) (wrap64 ((wrap64 (rd l0 3)) * 256))) (wrap64 ((wrap64 (rd l0 4)) * 65536))))) then (if (wrap64 (5 + (Go.bits .or .i64 (Go.bits .or .i64 (wrap64 (rd l0 2)) (wrap64 ((wrap64 (rd l0 3)) * 256))) (wrap64 ((wrap64 (rd l0 4)) * 65536))))) < (l0.length : Int) then (if (rd l0 (wrap64 (5 + (Go.bits .or .i64 (Go.bits .or .i64 (wrap64 (rd l0 2)) (wrap64 ((wrap64 (rd l0 3)) * 256))) (wrap64 ((wrap64 (rd l0 4)) * 65536)))))) = ((t152) % 256) then (if 0 ≤ (wrap64 ((wrap64 (5 + (Go.bits .or .i64 (Go.bits .or .i64 (wrap64 (rd l0 2)) (wrap64 ((wrap64 (rd l0 3)) * 256))) (wrap64 ((wrap64 (rd l0 4)) * 65536))))) + 1)) then (if (wrap64 ((wrap64 (5 + (Go.bits .or .i64 (Go.bits .or .i64 (wrap64 (rd l0 2)) (wrap64 ((wrap64 (rd l0 3)) * 256))) (wrap64 ((wrap64 (rd l0 4)) * 65536))))) + 1)) < (l0.length : Int) then (if (rd l0 (wrap64 ((wrap64 (5 + (Go.bits .or .i64 (Go.bits .or .i64 (wrap64 (rd l0 2)) (wrap64 ((wrap64 (rd l0 3)) * 256))) (wrap64 ((wrap64 (rd l0 4)) * 65536))))) + 1))) = ((t152 / 256) % 256) then (if 0 ≤ (wrap64 ((wrap64 (5 + (Go.bits .or .i64 (Go.bits .or .i64 (wrap64 (rd l0 2)) (wrap64 ((wrap64 (rd l0 3)) * 256))) (wrap64 ((wrap64 (rd l0 4)) * 65536))))) + 2)) then (if (wrap64 ((wrap64 (5 + (Go.bits .or .i64 (Go.bits .or .i64 (wrap64 (rd l0 2)) (wrap64 ((wrap64 (rd l0 3)) * 256))) (wrap64 ((wrap64 (rd l0 4)) * 65536))))) + 2)) < (l0.length : Int) then (if (rd l0 (wrap64 ((wrap64 (5 + (Go.bits .or .i64 (Go.bits .or .i64 (wrap64 (rd l0 2)) (wrap64 ((wrap64 (rd l0 3)) * 256))) (wrap64 ((wrap64 (rd l0 4)) * 65536))))) + 2))) = ((t152 / 65536) % 256) then (if 0 ≤ (wrap64 ((wrap64 (5 + (Go.bits .or .i64 (Go.bits .or .i64 (wrap64 (rd l0 2)) (wrap64 ((wrap64 (rd l0 3)) * 256))) (wrap64 ((wrap64 (rd l0 4)) * 65536))))) + 3)) then (if (wrap64 ((wrap64 (5 + (Go.bits .or .i64 (Go.bits .or .i64 (wrap64 (rd l0 2)) (wrap64 ((wrap64 (rd l0 3)) * 256))) (wrap64 ((wrap64 (rd l0 4)) * 65536))))) + 3)) < (l0.length : Int) then (if (rd l0 (wrap64 ((wrap64 (5 + (Go.bits .or .i64 (Go.bits .or .i64 (wrap64 (rd l0 2)) (wrap64 ((wrap64 (rd l0 3)) * 256))) (wrap64 ((wrap64 (rd l0 4)) * 65536))))) + 3))) = ((t152 / 16777216) % 256) then (if 5 ≤ (wrap64 (5 + (Go.bits .or .i64 (Go.bits .or .i64 (wrap64 (rd l0 2)) (wrap64 ((wrap64 (rd l0 3)) * 256))) (wrap64 ((wrap64 (rd l0 4)) * 65536))))) then (if ([] : List Int).length + ((l0.take ((wrap64 (5 + (Go.bits .or .i64 (Go.bits .or .i64 (wrap64 (rd l0 2)) (wrap64 ((wrap64 (rd l0 3)) * 256))) (wrap64 ((wrap64 (rd l0 4)) * 65536))))) : Int).toNat).drop 5).length < 140737488355328 then (if 1 < (l0.length : Int) then (some (rd l0 1, (([] : List Int) ++ ((l0.take ((wrap64 (5 + (Go.bits .or .i64 (Go.bits .or .i64 (wrap64 (rd l0 2)) (wrap64 ((wrap64 (rd l0 3)) * 256))) (wrap64 ((wrap64 (rd l0 4)) * 65536))))) : Int).toNat).drop 5)), wrap64 ((wrap64 (5 + (Go.bits .or .i64 (Go.bits .or .i64 (wrap64 (rd l0 2)) (wrap64 ((wrap64 (rd l0 3)) * 256))) (wrap64 ((wrap64 (rd l0 4)) * 65536))))) + 4), 0)) else (none)) else (none)) else (none)) else (some (0, ([] : List Int), 0, 12))) else (none)) else (none)) else (some (0, ([] : List Int), 0, 12))) else (none)) else (none)) else (some (0, ([] : List Int), 0, 12))) else (none)) else (none)) else (some (0, ([] : List Int), 0, 12))) else (none)) else (none))) else (none)) else (none)))) else (none)) else (none)) else (none))) = some (r1, r2, r3, r4) := by rw [if_neg (show ¬ (false = true) by decide)] at H; exact H
    clear H
    have H := H1
    clear H1
    by_cases c6 : (l0.length : Int) < 5
    ·rw [if_pos c6] at H
     have c6b0 : decide ((l0.length : Int) < 5) = true := decide_eq_true c6
     have c6b1 : decide (l0.length < 5) = true := decide_eq_true (by omega)
     clear c6
     simp only [Option.some.injEq, Prod.mk.injEq] at H
     obtain ⟨rfl, rfl, rfl, rfl⟩ := H
     go_wp2
     repeat (go_quiet (fail); try go_wp2)
     refine bodyPost_ret (results_list (rs := [.tmp 2, .tmp 3, .tmp 4, .tmp 5]) rfl (by simp) (.tmp (.tmp (.tmp (.tmp .nil))))) rfl ?_
     exact ⟨_, by first | rfl | (simp [errW_none, errW_some] <;> rfl) | (simp [*, errW_none, errW_some] <;> rfl), by first | exact Kd.R_nil _ _ _ _ _ | exact Kd.N_nil _ _ _ _ _ | exact Kd.V_nil _ _ _ _ _ | exact Kd.Q_nil _ _ _ _ _ | exact Kd.S_nil _ _ _ _ _, by repeat (first | (with_reducible first | exact HB.out | apply below_alloc | apply pw_below_drewN | apply below_drew1) | exact HB.out)⟩
    ·rw [if_neg c6] at H
     have c6b0 : decide ((l0.length : Int) < 5) = false := decide_eq_false c6
     have c6b1 : decide (l0.length < 5) = false := decide_eq_false (by omega)
     clear c6
     by_cases c7 : 2 < (l0.length : Int)
     ·rw [if_pos c7] at H
      have c7b0 : decide (2 < (l0.length : Int)) = true := decide_eq_true c7
      have c7b1 : decide (2 < l0.length) = true := decide_eq_true (by omega)
      clear c7
      by_cases c8 : 3 < (l0.length : Int)
      ·rw [if_pos c8] at H
       have c8b0 : decide (3 < (l0.length : Int)) = true := decide_eq_true c8
       have c8b1 : decide (3 < l0.length) = true := decide_eq_true (by omega)
       clear c8
       by_cases c9 : 4 < (l0.length : Int)
       ·rw [if_pos c9] at H
        have c9b0 : decide (4 < (l0.length : Int)) = true := decide_eq_true c9
        have c9b1 : decide (4 < l0.length) = true := decide_eq_true (by omega)
        clear c9
        by_cases c10 : (Go.bits .or .i64 (Go.bits .or .i64 (wrap64 (rd l0 2)) (wrap64 ((wrap64 (rd l0 3)) * 256))) (wrap64 ((wrap64 (rd l0 4)) * 65536))) > 1048575
        ·rw [if_pos c10] at H
         have c10b0 : decide (1048575 < (Go.bits .or .i64 (Go.bits .or .i64 (wrap64 (rd l0 2)) (wrap64 ((wrap64 (rd l0 3)) * 256))) (wrap64 ((wrap64 (rd l0 4)) * 65536)))) = true := decide_eq_true c10
         clear c10
         simp only [Option.some.injEq, Prod.mk.injEq] at H
         obtain ⟨rfl, rfl, rfl, rfl⟩ := H
         have p148 : 0 ≤ (2 : Int) := (by omega)
         have q148 : 2 < (l0.length : Int) := of_decide_eq_true (by first | (with_reducible assumption) | assumption)
         obtain ⟨ad148, e148, hx148_0⟩ := Kd.at_int HR0.out 2 p148 q148
         cases e148
         (try simp only [show (2 : Int).toNat = 2 from rfl, Nat.reduceMul, Nat.reduceEqDiff, Go.Addr.add, ↓reduceIte] at hx148_0)
         have qi148 : (2 < l0.length) = True := eq_true (by omega)
         (try rw [show ((2 : Int)).toNat = 2 from rfl] at hx148_0)
         replace hx148_0 := (HB.out.cell (World.block_lt_of_cell? w _ hx148_0)).trans hx148_0
         replace p148 := eq_true p148
         replace q148 := eq_true q148
         have p149 : 0 ≤ (3 : Int) := (by omega)
         have q149 : 3 < (l0.length : Int) := of_decide_eq_true (by first | (with_reducible assumption) | assumption)
         obtain ⟨ad149, e149, hx149_0⟩ := Kd.at_int HR0.out 3 p149 q149
         obtain rfl : ad148 = ad149 := (by injection e149)
         (try simp only [show (3 : Int).toNat = 3 from rfl, Nat.reduceMul, Nat.reduceEqDiff, Go.Addr.add, ↓reduceIte] at hx149_0)
         have qi149 : (3 < l0.length) = True := eq_true (by omega)
         (try rw [show ((3 : Int)).toNat = 3 from rfl] at hx149_0)
         replace hx149_0 := (HB.out.cell (World.block_lt_of_cell? w _ hx149_0)).trans hx149_0
         replace p149 := eq_true p149
         replace q149 := eq_true q149
         have p150 : 0 ≤ (4 : Int) := (by omega)
         have q150 : 4 < (l0.length : Int) := of_decide_eq_true (by first | (with_reducible assumption) | assumption)
         obtain ⟨ad150, e150, hx150_0⟩ := Kd.at_int HR0.out 4 p150 q150
         obtain rfl : ad148 = ad150 := (by injection e150)
         (try simp only [show (4 : Int).toNat = 4 from rfl, Nat.reduceMul, Nat.reduceEqDiff, Go.Addr.add, ↓reduceIte] at hx150_0)
         have qi150 : (4 < l0.length) = True := eq_true (by omega)
         (try rw [show ((4 : Int)).toNat = 4 from rfl] at hx150_0)
         replace hx150_0 := (HB.out.cell (World.block_lt_of_cell? w _ hx150_0)).trans hx150_0
         replace p150 := eq_true p150
         replace q150 := eq_true q150
         go_wp2
         repeat (go_quiet (fail); try go_wp2)
         refine bodyPost_ret (results_list (rs := [.tmp 2, .tmp 3, .tmp 4, .tmp 5]) rfl (by simp) (.tmp (.tmp (.tmp (.tmp .nil))))) rfl ?_
         exact ⟨_, by first | rfl | (simp [errW_none, errW_some] <;> rfl) | (simp [*, errW_none, errW_some] <;> rfl), by first | exact Kd.R_nil _ _ _ _ _ | exact Kd.N_nil _ _ _ _ _ | exact Kd.V_nil _ _ _ _ _ | exact Kd.Q_nil _ _ _ _ _ | exact Kd.S_nil _ _ _ _ _, by repeat (first | (with_reducible first | exact HB.out | apply below_alloc | apply pw_below_drewN | apply below_drew1) | exact HB.out)⟩
        ·rw [if_neg c10] at H
         have c10b0 : decide (1048575 < (Go.bits .or .i64 (Go.bits .or .i64 (wrap64 (rd l0 2)) (wrap64 ((wrap64 (rd l0 3)) * 256))) (wrap64 ((wrap64 (rd l0 4)) * 65536)))) = false := decide_eq_false c10
         clear c10
         by_cases c11 : (l0.length : Int) < (wrap64 ((wrap64 (5 + (Go.bits .or .i64 (Go.bits .or .i64 (wrap64 (rd l0 2)) (wrap64 ((wrap64 (rd l0 3)) * 256))) (wrap64 ((wrap64 (rd l0 4)) * 65536))))) + 4))
         ·rw [if_pos c11] at H
          have c11b0 : decide ((l0.length : Int) < (wrap64 ((wrap64 (5 + (Go.bits .or .i64 (Go.bits .or .i64 (wrap64 (rd l0 2)) (wrap64 ((wrap64 (rd l0 3)) * 256))) (wrap64 ((wrap64 (rd l0 4)) * 65536))))) + 4))) = true := decide_eq_true c11
          clear c11
          simp only [Option.some.injEq, Prod.mk.injEq] at H
          obtain ⟨rfl, rfl, rfl, rfl⟩ := H
          have p148 : 0 ≤ (2 : Int) := (by omega)
          have q148 : 2 < (l0.length : Int) := of_decide_eq_true (by first | (with_reducible assumption) | assumption)
          obtain ⟨ad148, e148, hx148_0⟩ := Kd.at_int HR0.out 2 p148 q148
          cases e148
          (try simp only [show (2 : Int).toNat = 2 from rfl, Nat.reduceMul, Nat.reduceEqDiff, Go.Addr.add, ↓reduceIte] at hx148_0)
          have qi148 : (2 < l0.length) = True := eq_true (by omega)
          (try rw [show ((2 : Int)).toNat = 2 from rfl] at hx148_0)
          replace hx148_0 := (HB.out.cell (World.block_lt_of_cell? w _ hx148_0)).trans hx148_0
          replace p148 := eq_true p148
          replace q148 := eq_true q148
          have p149 : 0 ≤ (3 : Int) := (by omega)
          have q149 : 3 < (l0.length : Int) := of_decide_eq_true (by first | (with_reducible assumption) | assumption)
          obtain ⟨ad149, e149, hx149_0⟩ := Kd.at_int HR0.out 3 p149 q149
          obtain rfl : ad148 = ad149 := (by injection e149)
          (try simp only [show (3 : Int).toNat = 3 from rfl, Nat.reduceMul, Nat.reduceEqDiff, Go.Addr.add, ↓reduceIte] at hx149_0)
          have qi149 : (3 < l0.length) = True := eq_true (by omega)
          (try rw [show ((3 : Int)).toNat = 3 from rfl] at hx149_0)
          replace hx149_0 := (HB.out.cell (World.block_lt_of_cell? w _ hx149_0)).trans hx149_0
          replace p149 := eq_true p149
          replace q149 := eq_true q149
          have p150 : 0 ≤ (4 : Int) := (by omega)
          have q150 : 4 < (l0.length : Int) := of_decide_eq_true (by first | (with_reducible assumption) | assumption)
          obtain ⟨ad150, e150, hx150_0⟩ := Kd.at_int HR0.out 4 p150 q150
          obtain rfl : ad148 = ad150 := (by injection e150)
          (try simp only [show (4 : Int).toNat = 4 from rfl, Nat.reduceMul, Nat.reduceEqDiff, Go.Addr.add, ↓reduceIte] at hx150_0)
          have qi150 : (4 < l0.length) = True := eq_true (by omega)
          (try rw [show ((4 : Int)).toNat = 4 from rfl] at hx150_0)
          replace hx150_0 := (HB.out.cell (World.block_lt_of_cell? w _ hx150_0)).trans hx150_0
          replace p150 := eq_true p150
          replace q150 := eq_true q150
          go_wp2
          repeat (go_quiet (fail); try go_wp2)
          refine bodyPost_ret (results_list (rs := [.tmp 2, .tmp 3, .tmp 4, .tmp 5]) rfl (by simp) (.tmp (.tmp (.tmp (.tmp .nil))))) rfl ?_
          exact ⟨_, by first | rfl | (simp [errW_none, errW_some] <;> rfl) | (simp [*, errW_none, errW_some] <;> rfl), by first | exact Kd.R_nil _ _ _ _ _ | exact Kd.N_nil _ _ _ _ _ | exact Kd.V_nil _ _ _ _ _ | exact Kd.Q_nil _ _ _ _ _ | exact Kd.S_nil _ _ _ _ _, by repeat (first | (with_reducible first | exact HB.out | apply below_alloc | apply pw_below_drewN | apply below_drew1) | exact HB.out)⟩
         ·rw [if_neg c11] at H
          have c11b0 : decide ((l0.length : Int) < (wrap64 ((wrap64 (5 + (Go.bits .or .i64 (Go.bits .or .i64 (wrap64 (rd l0 2)) (wrap64 ((wrap64 (rd l0 3)) * 256))) (wrap64 ((wrap64 (rd l0 4)) * 65536))))) + 4))) = false := decide_eq_false c11
          clear c11
          by_cases c12 : 1 ≤ (wrap64 (5 + (Go.bits .or .i64 (Go.bits .or .i64 (wrap64 (rd l0 2)) (wrap64 ((wrap64 (rd l0 3)) * 256))) (wrap64 ((wrap64 (rd l0 4)) * 65536)))))
          ·rw [if_pos c12] at H
           have c12b0 := eq_true c12
           have c12b1 : decide (1 ≤ (wrap64 (5 + (Go.bits .or .i64 (Go.bits .or .i64 (wrap64 (rd l0 2)) (wrap64 ((wrap64 (rd l0 3)) * 256))) (wrap64 ((wrap64 (rd l0 4)) * 65536)))))) = true := decide_eq_true c12
           by_cases c13 : (wrap64 (5 + (Go.bits .or .i64 (Go.bits .or .i64 (wrap64 (rd l0 2)) (wrap64 ((wrap64 (rd l0 3)) * 256))) (wrap64 ((wrap64 (rd l0 4)) * 65536))))) ≤ (l0.length : Int)
           ·rw [if_pos c13] at H
            have c13b0 := eq_true c13
            have c13b1 : decide ((wrap64 (5 + (Go.bits .or .i64 (Go.bits .or .i64 (wrap64 (rd l0 2)) (wrap64 ((wrap64 (rd l0 3)) * 256))) (wrap64 ((wrap64 (rd l0 4)) * 65536))))) ≤ (l0.length : Int)) = true := decide_eq_true c13
            replace H := Option.bind_eq_some_iff.mp H
            obtain ⟨t152, A140, H⟩ := H
            replace H : (if 0 ≤ (wrap64 (5 + (Go.bits .or .i64 (Go.bits .or .i64 (wrap64 (rd l0 2)) (wrap64 ((wrap64 (rd l0 3)) * 256))) (wrap64 ((wrap64 (rd l0 4)) * 65536))))) then (if (wrap64 (5 + (Go.bits .or .i64 (Go.bits .or .i64 (wrap64 (rd l0 2)) (wrap64 ((wrap64 (rd l0 3)) * 256))) (wrap64 ((wrap64 (rd l0 4)) * 65536))))) < (l0.length : Int) then (if (rd l0 (wrap64 (5 + (Go.bits .or .i64 (Go.bits .or .i64 (wrap64 (rd l0 2)) (wrap64 ((wrap64 (rd l0 3)) * 256))) (wrap64 ((wrap64 (rd l0 4)) * 65536)))))) = ((t152) % 256) then (if 0 ≤ (wrap64 ((wrap64 (5 + (Go.bits .or .i64 (Go.bits .or .i64 (wrap64 (rd l0 2)) (wrap64 ((wrap64 (rd l0 3)) * 256))) (wrap64 ((wrap64 (rd l0 4)) * 65536))))) + 1)) then (if (wrap64 ((wrap64 (5 + (Go.bits .or .i64 (Go.bits .or .i64 (wrap64 (rd l0 2)) (wrap64 ((wrap64 (rd l0 3)) * 256))) (wrap64 ((wrap64 (rd l0 4)) * 65536))))) + 1)) < (l0.length : Int) then (if (rd l0 (wrap64 ((wrap64 (5 + (Go.bits .or .i64 (Go.bits .or .i64 (wrap64 (rd l0 2)) (wrap64 ((wrap64 (rd l0 3)) * 256))) (wrap64 ((wrap64 (rd l0 4)) * 65536))))) + 1))) = ((t152 / 256) % 256) then (if 0 ≤ (wrap64 ((wrap64 (5 + (Go.bits .or .i64 (Go.bits .or .i64 (wrap64 (rd l0 2)) (wrap64 ((wrap64 (rd l0 3)) * 256))) (wrap64 ((wrap64 (rd l0 4)) * 65536))))) + 2)) then (if (wrap64 ((wrap64 (5 + (Go.bits .or .i64 (Go.bits .or .i64 (wrap64 (rd l0 2)) (wrap64 ((wrap64 (rd l0 3)) * 256))) (wrap64 ((wrap64 (rd l0 4)) * 65536))))) + 2)) < (l0.length : Int) then (if (rd l0 (wrap64 ((wrap64 (5 + (Go.bits .or .i64 (Go.bits .or .i64 (wrap64 (rd l0 2)) (wrap64 ((wrap64 (rd l0 3)) * 256))) (wrap64 ((wrap64 (rd l0 4)) * 65536))))) + 2))) = ((t152 / 65536) % 256) then (if 0 ≤ (wrap64 ((wrap64 (5 + (Go.bits .or .i64 (Go.bits .or .i64 (wrap64 (rd l0 2)) (wrap64 ((wrap64 (rd l0 3)) * 256))) (wrap64 ((wrap64 (rd l0 4)) * 65536))))) + 3)) then (if (wrap64 ((wrap64 (5 + (Go.bits .or .i64 (Go.bits .or .i64 (wrap64 (rd l0 2)) (wrap64 ((wrap64 (rd l0 3)) * 256))) (wrap64 ((wrap64 (rd l0 4)) * 65536))))) + 3)) < (l0.length : Int) then (if (rd l0 (wrap64 ((wrap64 (5 + (Go.bits .or .i64 (Go.bits .or .i64 (wrap64 (rd l0 2)) (wrap64 ((wrap64 (rd l0 3)) * 256))) (wrap64 ((wrap64 (rd l0 4)) * 65536))))) + 3))) = ((t152 / 16777216) % 256) then (if 5 ≤ (wrap64 (5 + (Go.bits .or .i64 (Go.bits .or .i64 (wrap64 (rd l0 2)) (wrap64 ((wrap64 (rd l0 3)) * 256))) (wrap64 ((wrap64 (rd l0 4)) * 65536))))) then (if ([] : List Int).length + ((l0.take ((wrap64 (5 + (Go.bits .or .i64 (Go.bits .or .i64 (wrap64 (rd l0 2)) (wrap64 ((wrap64 (rd l0 3)) * 256))) (wrap64 ((wrap64 (rd l0 4)) * 65536))))) : Int).toNat).drop 5).length < 140737488355328 then (if 1 < (l0.length : Int) then (some (rd l0 1, (([] : List Int) ++ ((l0.take ((wrap64 (5 + (Go.bits .or .i64 (Go.bits .or .i64 (wrap64 (rd l0 2)) (wrap64 ((wrap64 (rd l0 3)) * 256))) (wrap64 ((wrap64 (rd l0 4)) * 65536))))) : Int).toNat).drop 5)), wrap64 ((wrap64 (5 + (Go.bits .or .i64 (Go.bits .or .i64 (wrap64 (rd l0 2)) (wrap64 ((wrap64 (rd l0 3)) * 256))) (wrap64 ((wrap64 (rd l0 4)) * 65536))))) + 4), 0)) else (none)) else (none)) else (none)) else (some (0, ([] : List Int), 0, 12))) else (none)) else (none)) else (some (0, ([] : List Int), 0, 12))) else (none)) else (none)) else (some (0, ([] : List Int), 0, 12))) else (none)) else (none)) else (some (0, ([] : List Int), 0, 12))) else (none)) else (none)) = some (r1, r2, r3, r4) := H
            have A14 := Aside0.mk A140
            clear A140
            obtain ⟨ji15, hji15⟩ : ∃ j_ : Int, (wrap64 (5 + (Go.bits .or .i64 (Go.bits .or .i64 (wrap64 (rd l0 2)) (wrap64 ((wrap64 (rd l0 3)) * 256))) (wrap64 ((wrap64 (rd l0 4)) * 65536))))) = j_ := ⟨_, rfl⟩
            replace H : (if 0 ≤ (ji15) then (if (ji15) < (l0.length : Int) then (if (rd l0 (ji15)) = ((t152) % 256) then (if 0 ≤ (wrap64 ((ji15) + 1)) then (if (wrap64 ((ji15) + 1)) < (l0.length : Int) then (if (rd l0 (wrap64 ((ji15) + 1))) = ((t152 / 256) % 256) then (if 0 ≤ (wrap64 ((ji15) + 2)) then (if (wrap64 ((ji15) + 2)) < (l0.length : Int) then (if (rd l0 (wrap64 ((ji15) + 2))) = ((t152 / 65536) % 256) then (if 0 ≤ (wrap64 ((ji15) + 3)) then (if (wrap64 ((ji15) + 3)) < (l0.length : Int) then (if (rd l0 (wrap64 ((ji15) + 3))) = ((t152 / 16777216) % 256) then (if 5 ≤ (ji15) then (if ([] : List Int).length + ((l0.take ((ji15) : Int).toNat).drop 5).length < 140737488355328 then (if 1 < (l0.length : Int) then (some (rd l0 1, (([] : List Int) ++ ((l0.take ((ji15) : Int).toNat).drop 5)), wrap64 ((ji15) + 4), 0)) else (none)) else (none)) else (none)) else (some (0, ([] : List Int), 0, 12))) else (none)) else (none)) else (some (0, ([] : List Int), 0, 12))) else (none)) else (none)) else (some (0, ([] : List Int), 0, 12))) else (none)) else (none)) else (some (0, ([] : List Int), 0, 12))) else (none)) else (none)) = some (r1, r2, r3, r4) := by first | (rw [hji15] at H; exact H) | (simp only [hji15] at H ⊢; exact H)
            (try rw [hji15] at c11b0)
            (try rw [hji15] at c12b0)
            (try rw [hji15] at c12b1)
            (try rw [hji15] at c12)
            (try rw [hji15] at c13b0)
            (try rw [hji15] at c13b1)
            (try rw [hji15] at c13)
            (try rw [hji15] at A14)
            have hji15w : (IntKind.i64.wrap (5 + (Go.bits .or .i64 (Go.bits .or .i64 (wrap64 (rd l0 2)) (wrap64 ((wrap64 (rd l0 3)) * 256))) (wrap64 ((wrap64 (rd l0 4)) * 65536))))) = ji15 := (i64_w _).trans hji15
            by_cases c16 : 0 ≤ (ji15)
            ·rw [if_pos c16] at H
             have c16b0 : decide (0 ≤ (ji15)) = true := decide_eq_true c16
             clear c16
             by_cases c17 : (ji15) < (l0.length : Int)
             ·rw [if_pos c17] at H
              have c17b0 : decide ((ji15) < (l0.length : Int)) = true := decide_eq_true c17
              clear c17
              by_cases c18 : (rd l0 (ji15)) = ((t152) % 256)
              ·rw [if_pos c18] at H
               have c18b0 : ((rd l0 (ji15)) == ((t152) % 256)) = true := beq_iff_eq.mpr c18
               have c18b1 : ((rd l0 (ji15)) != ((t152) % 256)) = false := bne_eq_false_iff_eq.mpr c18
               clear c18
               obtain ⟨ji19, hji19⟩ : ∃ j_ : Int, (wrap64 ((ji15) + 1)) = j_ := ⟨_, rfl⟩
               replace H : (if 0 ≤ (ji19) then (if (ji19) < (l0.length : Int) then (if (rd l0 (ji19)) = ((t152 / 256) % 256) then (if 0 ≤ (wrap64 ((ji15) + 2)) then (if (wrap64 ((ji15) + 2)) < (l0.length : Int) then (if (rd l0 (wrap64 ((ji15) + 2))) = ((t152 / 65536) % 256) then (if 0 ≤ (wrap64 ((ji15) + 3)) then (if (wrap64 ((ji15) + 3)) < (l0.length : Int) then (if (rd l0 (wrap64 ((ji15) + 3))) = ((t152 / 16777216) % 256) then (if 5 ≤ (ji15) then (if ([] : List Int).length + ((l0.take ((ji15) : Int).toNat).drop 5).length < 140737488355328 then (if 1 < (l0.length : Int) then (some (rd l0 1, (([] : List Int) ++ ((l0.take ((ji15) : Int).toNat).drop 5)), wrap64 ((ji15) + 4), 0)) else (none)) else (none)) else (none)) else (some (0, ([] : List Int), 0, 12))) else (none)) else (none)) else (some (0, ([] : List Int), 0, 12))) else (none)) else (none)) else (some (0, ([] : List Int), 0, 12))) else (none)) else (none)) = some (r1, r2, r3, r4) := by first | (rw [hji19] at H; exact H) | (simp only [hji19] at H ⊢; exact H)
               (try rw [hji19] at A14)
               have hji19w : (IntKind.i64.wrap ((ji15) + 1)) = ji19 := (i64_w _).trans hji19
               by_cases c20 : 0 ≤ (ji19)
               ·rw [if_pos c20] at H
                have c20b0 : decide (0 ≤ (ji19)) = true := decide_eq_true c20
                clear c20
                by_cases c21 : (ji19) < (l0.length : Int)
                ·rw [if_pos c21] at H
                 have c21b0 : decide ((ji19) < (l0.length : Int)) = true := decide_eq_true c21
                 clear c21
                 by_cases c22 : (rd l0 (ji19)) = ((t152 / 256) % 256)
                 ·rw [if_pos c22] at H
                  have c22b0 : ((rd l0 (ji19)) == ((t152 / 256) % 256)) = true := beq_iff_eq.mpr c22
                  have c22b1 : ((rd l0 (ji19)) != ((t152 / 256) % 256)) = false := bne_eq_false_iff_eq.mpr c22
                  clear c22
                  obtain ⟨ji23, hji23⟩ : ∃ j_ : Int, (wrap64 ((ji15) + 2)) = j_ := ⟨_, rfl⟩
                  replace H : (if 0 ≤ (ji23) then (if (ji23) < (l0.length : Int) then (if (rd l0 (ji23)) = ((t152 / 65536) % 256) then (if 0 ≤ (wrap64 ((ji15) + 3)) then (if (wrap64 ((ji15) + 3)) < (l0.length : Int) then (if (rd l0 (wrap64 ((ji15) + 3))) = ((t152 / 16777216) % 256) then (if 5 ≤ (ji15) then (if ([] : List Int).length + ((l0.take ((ji15) : Int).toNat).drop 5).length < 140737488355328 then (if 1 < (l0.length : Int) then (some (rd l0 1, (([] : List Int) ++ ((l0.take ((ji15) : Int).toNat).drop 5)), wrap64 ((ji15) + 4), 0)) else (none)) else (none)) else (none)) else (some (0, ([] : List Int), 0, 12))) else (none)) else (none)) else (some (0, ([] : List Int), 0, 12))) else (none)) else (none)) = some (r1, r2, r3, r4) := by first | (rw [hji23] at H; exact H) | (simp only [hji23] at H ⊢; exact H)
                  (try rw [hji23] at A14)
                  have hji23w : (IntKind.i64.wrap ((ji15) + 2)) = ji23 := (i64_w _).trans hji23
                  by_cases c24 : 0 ≤ (ji23)
                  ·rw [if_pos c24] at H
                   have c24b0 : decide (0 ≤ (ji23)) = true := decide_eq_true c24
                   clear c24
                   by_cases c25 : (ji23) < (l0.length : Int)
                   ·rw [if_pos c25] at H
                    have c25b0 : decide ((ji23) < (l0.length : Int)) = true := decide_eq_true c25
                    clear c25
                    by_cases c26 : (rd l0 (ji23)) = ((t152 / 65536) % 256)
                    ·rw [if_pos c26] at H
                     have c26b0 : ((rd l0 (ji23)) == ((t152 / 65536) % 256)) = true := beq_iff_eq.mpr c26
                     have c26b1 : ((rd l0 (ji23)) != ((t152 / 65536) % 256)) = false := bne_eq_false_iff_eq.mpr c26
                     clear c26
                     obtain ⟨ji27, hji27⟩ : ∃ j_ : Int, (wrap64 ((ji15) + 3)) = j_ := ⟨_, rfl⟩
                     replace H : (if 0 ≤ (ji27) then (if (ji27) < (l0.length : Int) then (if (rd l0 (ji27)) = ((t152 / 16777216) % 256) then (if 5 ≤ (ji15) then (if ([] : List Int).length + ((l0.take ((ji15) : Int).toNat).drop 5).length < 140737488355328 then (if 1 < (l0.length : Int) then (some (rd l0 1, (([] : List Int) ++ ((l0.take ((ji15) : Int).toNat).drop 5)), wrap64 ((ji15) + 4), 0)) else (none)) else (none)) else (none)) else (some (0, ([] : List Int), 0, 12))) else (none)) else (none)) = some (r1, r2, r3, r4) := by first | (rw [hji27] at H; exact H) | (simp only [hji27] at H ⊢; exact H)
                     (try rw [hji27] at A14)
                     have hji27w : (IntKind.i64.wrap ((ji15) + 3)) = ji27 := (i64_w _).trans hji27
                     by_cases c28 : 0 ≤ (ji27)
                     ·rw [if_pos c28] at H
                      have c28b0 : decide (0 ≤ (ji27)) = true := decide_eq_true c28
                      clear c28
                      by_cases c29 : (ji27) < (l0.length : Int)
                      ·rw [if_pos c29] at H
                       have c29b0 : decide ((ji27) < (l0.length : Int)) = true := decide_eq_true c29
                       clear c29
                       by_cases c30 : (rd l0 (ji27)) = ((t152 / 16777216) % 256)
                       ·rw [if_pos c30] at H
                        have c30b0 : ((rd l0 (ji27)) == ((t152 / 16777216) % 256)) = true := beq_iff_eq.mpr c30
                        have c30b1 : ((rd l0 (ji27)) != ((t152 / 16777216) % 256)) = false := bne_eq_false_iff_eq.mpr c30
                        clear c30
                        by_cases c31 : 5 ≤ (ji15)
                        ·rw [if_pos c31] at H
                         have c31b0 := eq_true c31
                         have c31b1 : decide (5 ≤ (ji15)) = true := decide_eq_true c31
                         clear c31
                         have c32b0 := eq_true (of_decide_eq_true (by first | (with_reducible assumption) | assumption) : (ji15) ≤ (l0.length : Int))
                         by_cases c33 : ([] : List Int).length + ((l0.take ((ji15) : Int).toNat).drop 5).length < 140737488355328
                         ·rw [if_pos c33] at H
                          have LMc33 := Aside0.mk c33
                          clear c33
                          obtain ⟨y158, hy158⟩ : ∃ y_ : List Int, y_ = (([] : List Int) ++ ((l0.take ((ji15) : Int).toNat).drop 5)) := ⟨_, rfl⟩
                          replace H : (if 1 < (l0.length : Int) then (some (rd l0 1, y158, wrap64 ((ji15) + 4), 0)) else (none)) = some (r1, r2, r3, r4) := by first | (rw [hy158]; with_reducible exact H) | (have H2_ := (Option.bind_some _ _).symm.trans H; rw [hy158]; with_reducible exact H2_) | (have H2_ := (Option.bind_some _ _).symm.trans H; with_reducible exact H2_) | with_reducible exact H | (rw [hy158]; exact H) | exact H
                          have Ny158 := Aside0.mk hy158
                          clear hy158
                          by_cases c34 : 1 < (l0.length : Int)
                          ·rw [if_pos c34] at H
                           have c34b0 : decide (1 < (l0.length : Int)) = true := decide_eq_true c34
                           have c34b1 : decide (1 < l0.length) = true := decide_eq_true (by omega)
                           clear c34
                           simp only [Option.some.injEq, Prod.mk.injEq] at H
                           obtain ⟨rfl, rfl, rfl, rfl⟩ := H
                           have p148 : 0 ≤ (2 : Int) := (by omega)
                           have q148 : 2 < (l0.length : Int) := of_decide_eq_true (by first | (with_reducible assumption) | assumption)
                           obtain ⟨ad148, e148, hx148_0⟩ := Kd.at_int HR0.out 2 p148 q148
                           cases e148
                           (try simp only [show (2 : Int).toNat = 2 from rfl, Nat.reduceMul, Nat.reduceEqDiff, Go.Addr.add, ↓reduceIte] at hx148_0)
                           have qi148 : (2 < l0.length) = True := eq_true (by omega)
                           (try rw [show ((2 : Int)).toNat = 2 from rfl] at hx148_0)
                           replace hx148_0 := (HB.out.cell (World.block_lt_of_cell? w _ hx148_0)).trans hx148_0
                           replace p148 := eq_true p148
                           replace q148 := eq_true q148
                           have p149 : 0 ≤ (3 : Int) := (by omega)
                           have q149 : 3 < (l0.length : Int) := of_decide_eq_true (by first | (with_reducible assumption) | assumption)
                           obtain ⟨ad149, e149, hx149_0⟩ := Kd.at_int HR0.out 3 p149 q149
                           obtain rfl : ad148 = ad149 := (by injection e149)
                           (try simp only [show (3 : Int).toNat = 3 from rfl, Nat.reduceMul, Nat.reduceEqDiff, Go.Addr.add, ↓reduceIte] at hx149_0)
                           have qi149 : (3 < l0.length) = True := eq_true (by omega)
                           (try rw [show ((3 : Int)).toNat = 3 from rfl] at hx149_0)
                           replace hx149_0 := (HB.out.cell (World.block_lt_of_cell? w _ hx149_0)).trans hx149_0
                           replace p149 := eq_true p149
                           replace q149 := eq_true q149
                           have p150 : 0 ≤ (4 : Int) := (by omega)
                           have q150 : 4 < (l0.length : Int) := of_decide_eq_true (by first | (with_reducible assumption) | assumption)
                           obtain ⟨ad150, e150, hx150_0⟩ := Kd.at_int HR0.out 4 p150 q150
                           obtain rfl : ad148 = ad150 := (by injection e150)
                           (try simp only [show (4 : Int).toNat = 4 from rfl, Nat.reduceMul, Nat.reduceEqDiff, Go.Addr.add, ↓reduceIte] at hx150_0)
                           have qi150 : (4 < l0.length) = True := eq_true (by omega)
                           (try rw [show ((4 : Int)).toNat = 4 from rfl] at hx150_0)
                           replace hx150_0 := (HB.out.cell (World.block_lt_of_cell? w _ hx150_0)).trans hx150_0
                           replace p150 := eq_true p150
                           replace q150 := eq_true q150
                           obtain ⟨i035, hi035, _, hsz35, _⟩ := info_parts info5
                           obtain ⟨A35, hcut35, hA35, hC35⟩ := print_mid_of (P := Try.prog) (Value.int .u8) 0 22 5 .i64 .i64 Try.underlying22 hi035 hsz35 (some ad148) c0 l0 1 (ji15) (by omega) (by first | omega | exact of_decide_eq_true (by first | (with_reducible assumption) | assumption)) (of_decide_eq_true (by first | (with_reducible assumption) | assumption)) HC0.out
                           have HR151 := Aside0.mk (Kd.C_of_reads (h1 := fun _ => rfl) (hA35 _ (Kd.reads_of_C HR0.out)))
                           have HC151 := Aside0.mk hC35
                           clear hA35 hC35 hi035 hsz35
                           go_wp2_with (first | (go_at_call 10; (try rw [show ((ji15) : Int).toNat - 1 = (((l0.take ((ji15) : Int).toNat).drop 1)).length from (by rw [List.length_drop, List.length_take]; omega)]); (with_reducible refine (reefref03_Sum.calls kj1 _ _ ((l0.take ((ji15) : Int).toNat).drop 1) t152 _ ?side1 ?side2 A14.out).mono ?_); (case side1 => repeat (first | exact (Kd.C_below HR151.out HB.out) | (with_reducible refine Kd.C_alloc ?_ _) | (with_reducible refine Kd.C_drewN ?_ _) | (with_reducible refine Kd.C_drew ?_))); (case side2 => exact HC151.out); rintro e w' ⟨rfl, ⟨nd, rfl⟩⟩; (try first | exact ⟨rfl, _, World.drewN_drewN _ _ _⟩ | exact ⟨rfl, _, Eq.trans (World.drewN_drewN _ _ _) (congrArg (World.drewN _) (Nat.add_assoc _ _ _))⟩); have p153 : 0 ≤ ((ji15) : Int) := of_decide_eq_true (by first | (with_reducible assumption) | assumption); have q153 : (ji15) < (l0.length : Int) := of_decide_eq_true (by first | (with_reducible assumption) | assumption); obtain ⟨ad153, e153, hx153_0⟩ := Kd.at_int HR0.out (ji15) p153 q153; obtain rfl : ad148 = ad153 := (by injection e153); replace hx153_0 := (HB.out.cell (World.block_lt_of_cell? w _ hx153_0)).trans hx153_0; replace p153 := eq_true p153; replace q153 := eq_true q153; have p154 : 0 ≤ ((ji19) : Int) := of_decide_eq_true (by first | (with_reducible assumption) | assumption); have q154 : (ji19) < (l0.length : Int) := of_decide_eq_true (by first | (with_reducible assumption) | assumption); obtain ⟨ad154, e154, hx154_0⟩ := Kd.at_int HR0.out (ji19) p154 q154; obtain rfl : ad148 = ad154 := (by injection e154); replace hx154_0 := (HB.out.cell (World.block_lt_of_cell? w _ hx154_0)).trans hx154_0; replace p154 := eq_true p154; replace q154 := eq_true q154; have p155 : 0 ≤ ((ji23) : Int) := of_decide_eq_true (by first | (with_reducible assumption) | assumption); have q155 : (ji23) < (l0.length : Int) := of_decide_eq_true (by first | (with_reducible assumption) | assumption); obtain ⟨ad155, e155, hx155_0⟩ := Kd.at_int HR0.out (ji23) p155 q155; obtain rfl : ad148 = ad155 := (by injection e155); replace hx155_0 := (HB.out.cell (World.block_lt_of_cell? w _ hx155_0)).trans hx155_0; replace p155 := eq_true p155; replace q155 := eq_true q155; have p156 : 0 ≤ ((ji27) : Int) := of_decide_eq_true (by first | (with_reducible assumption) | assumption); have q156 : (ji27) < (l0.length : Int) := of_decide_eq_true (by first | (with_reducible assumption) | assumption); obtain ⟨ad156, e156, hx156_0⟩ := Kd.at_int HR0.out (ji27) p156 q156; obtain rfl : ad148 = ad156 := (by injection e156); replace hx156_0 := (HB.out.cell (World.block_lt_of_cell? w _ hx156_0)).trans hx156_0; replace p156 := eq_true p156; replace q156 := eq_true q156; obtain ⟨i036, hi036, _, hsz36, _⟩ := info_parts info5; obtain ⟨A36, hcut36, hA36, hC36⟩ := print_mid_of (P := Try.prog) (Value.int .u8) 0 22 5 .i64 .i64 Try.underlying22 hi036 hsz36 (some ad148) c0 l0 5 (ji15) (by omega) (by first | omega | exact of_decide_eq_true (by first | (with_reducible assumption) | assumption)) (of_decide_eq_true (by first | (with_reducible assumption) | assumption)) HC0.out; have HR157 := Aside0.mk (Kd.C_of_reads (h1 := fun _ => rfl) (hA36 _ (Kd.reads_of_C HR0.out))); have HC157 := Aside0.mk hC36; clear hA36 hC36 hi036 hsz36) | ((with_reducible refine gate_builtin (b := .append) (xs := #[.tmp 91, .tmp 94]) rfl ?_); at_builtin; refine Kd.R_append_rows (Kd.int .u8) (w0 := w) w.heap.size rfl (.tmp 91) (.tmp 94) 22 5 (.int .u8 0) 1 rfl Try.underlying22 info5 rfl (by decide) (by omega) (.slice none 0 0) ([] : List Int) ((l0.take ((ji15) : Int).toNat).drop 5) _ _ _ (fun _ => True) (fun _ => False) rfl rfl ?aO ?aR (fun _ _ h => h) (fun _ h => h.elim) ?aF ?aB ?aS ?aL ?_; (case aR => first | (rw [← show ((l0.take ((ji15) : Int).toNat).drop 5).length = ((ji15).toNat - 5) from (by rw [List.length_drop, List.length_take]; have h_ : ((ji15) : Int) ≤ (l0.length : Int) := of_decide_eq_true (by first | (with_reducible assumption) | assumption); omega)]; repeat (first | exact (Kd.C_below HR157.out (by repeat (first | (with_reducible first | exact HB.out | apply below_alloc | apply pw_below_drewN | apply below_drew1) | exact HB.out))) | (with_reducible refine Kd.C_alloc ?_ _) | (with_reducible refine Kd.C_drewN ?_ _) | (with_reducible refine Kd.C_drew ?_))) | (repeat (first | exact (Kd.C_below HR157.out (by repeat (first | (with_reducible first | exact HB.out | apply below_alloc | apply pw_below_drewN | apply below_drew1) | exact HB.out))) | (with_reducible refine Kd.C_alloc ?_ _) | (with_reducible refine Kd.C_drewN ?_ _) | (with_reducible refine Kd.C_drew ?_)))); (case aB => exact (by repeat (first | (with_reducible first | exact HB.out | apply below_alloc | apply pw_below_drewN | apply below_drew1) | exact HB.out))); (case aF => exact (fun _ _ => trivial)); (case aO => exact ((Kd.R_nil _ _ _ _ (fun _ => True)))); (case aS => exact (below_size (by repeat (first | (with_reducible first | exact HB.out | apply below_alloc | apply pw_below_drewN | apply below_drew1) | exact HB.out)))); (case aL => have := LMc33.out; have hlx_ := (show ((l0.take ((ji15) : Int).toNat).drop 5).length = ((ji15).toNat - 5) from (by rw [List.length_drop, List.length_take]; have h_ : ((ji15) : Int) ≤ (l0.length : Int) := of_decide_eq_true (by first | (with_reducible assumption) | assumption); omega)); omega); intro v159 w37 ho hb hg hat; rw [← Ny158.out] at ho; have n0_ := Aside0.mk (hb); have n1_ := Aside0.mk (ho); clear HB; have HB := n0_; have HO160 := n1_; clear n0_ n1_; clear ho hb hg hat; have p161 : 0 ≤ (1 : Int) := (by omega); have q161 : 1 < (l0.length : Int) := of_decide_eq_true (by first | (with_reducible assumption) | assumption); obtain ⟨ad161, e161, hx161_0⟩ := Kd.at_int HR0.out 1 p161 q161; obtain rfl : ad148 = ad161 := (by injection e161); (try simp only [show (1 : Int).toNat = 1 from rfl, Nat.reduceMul, Nat.reduceEqDiff, Go.Addr.add, ↓reduceIte] at hx161_0); have qi161 : (1 < l0.length) = True := eq_true (by omega); (try rw [show ((1 : Int)).toNat = 1 from rfl] at hx161_0); replace hx161_0 := (HB.out.cell (World.block_lt_of_cell? w _ hx161_0)).trans hx161_0; replace p161 := eq_true p161; replace q161 := eq_true q161))
                           repeat (go_quiet (first | (go_at_call 10; (try rw [show ((ji15) : Int).toNat - 1 = (((l0.take ((ji15) : Int).toNat).drop 1)).length from (by rw [List.length_drop, List.length_take]; omega)]); (with_reducible refine (reefref03_Sum.calls kj1 _ _ ((l0.take ((ji15) : Int).toNat).drop 1) t152 _ ?side1 ?side2 A14.out).mono ?_); (case side1 => repeat (first | exact (Kd.C_below HR151.out HB.out) | (with_reducible refine Kd.C_alloc ?_ _) | (with_reducible refine Kd.C_drewN ?_ _) | (with_reducible refine Kd.C_drew ?_))); (case side2 => exact HC151.out); rintro e w' ⟨rfl, ⟨nd, rfl⟩⟩; (try first | exact ⟨rfl, _, World.drewN_drewN _ _ _⟩ | exact ⟨rfl, _, Eq.trans (World.drewN_drewN _ _ _) (congrArg (World.drewN _) (Nat.add_assoc _ _ _))⟩); have p153 : 0 ≤ ((ji15) : Int) := of_decide_eq_true (by first | (with_reducible assumption) | assumption); have q153 : (ji15) < (l0.length : Int) := of_decide_eq_true (by first | (with_reducible assumption) | assumption); obtain ⟨ad153, e153, hx153_0⟩ := Kd.at_int HR0.out (ji15) p153 q153; obtain rfl : ad148 = ad153 := (by injection e153); replace hx153_0 := (HB.out.cell (World.block_lt_of_cell? w _ hx153_0)).trans hx153_0; replace p153 := eq_true p153; replace q153 := eq_true q153; have p154 : 0 ≤ ((ji19) : Int) := of_decide_eq_true (by first | (with_reducible assumption) | assumption); have q154 : (ji19) < (l0.length : Int) := of_decide_eq_true (by first | (with_reducible assumption) | assumption); obtain ⟨ad154, e154, hx154_0⟩ := Kd.at_int HR0.out (ji19) p154 q154; obtain rfl : ad148 = ad154 := (by injection e154); replace hx154_0 := (HB.out.cell (World.block_lt_of_cell? w _ hx154_0)).trans hx154_0; replace p154 := eq_true p154; replace q154 := eq_true q154; have p155 : 0 ≤ ((ji23) : Int) := of_decide_eq_true (by first | (with_reducible assumption) | assumption); have q155 : (ji23) < (l0.length : Int) := of_decide_eq_true (by first | (with_reducible assumption) | assumption); obtain ⟨ad155, e155, hx155_0⟩ := Kd.at_int HR0.out (ji23) p155 q155; obtain rfl : ad148 = ad155 := (by injection e155); replace hx155_0 := (HB.out.cell (World.block_lt_of_cell? w _ hx155_0)).trans hx155_0; replace p155 := eq_true p155; replace q155 := eq_true q155; have p156 : 0 ≤ ((ji27) : Int) := of_decide_eq_true (by first | (with_reducible assumption) | assumption); have q156 : (ji27) < (l0.length : Int) := of_decide_eq_true (by first | (with_reducible assumption) | assumption); obtain ⟨ad156, e156, hx156_0⟩ := Kd.at_int HR0.out (ji27) p156 q156; obtain rfl : ad148 = ad156 := (by injection e156); replace hx156_0 := (HB.out.cell (World.block_lt_of_cell? w _ hx156_0)).trans hx156_0; replace p156 := eq_true p156; replace q156 := eq_true q156; obtain ⟨i036, hi036, _, hsz36, _⟩ := info_parts info5; obtain ⟨A36, hcut36, hA36, hC36⟩ := print_mid_of (P := Try.prog) (Value.int .u8) 0 22 5 .i64 .i64 Try.underlying22 hi036 hsz36 (some ad148) c0 l0 5 (ji15) (by omega) (by first | omega | exact of_decide_eq_true (by first | (with_reducible assumption) | assumption)) (of_decide_eq_true (by first | (with_reducible assumption) | assumption)) HC0.out; have HR157 := Aside0.mk (Kd.C_of_reads (h1 := fun _ => rfl) (hA36 _ (Kd.reads_of_C HR0.out))); have HC157 := Aside0.mk hC36; clear hA36 hC36 hi036 hsz36) | ((with_reducible refine gate_builtin (b := .append) (xs := #[.tmp 91, .tmp 94]) rfl ?_); at_builtin; refine Kd.R_append_rows (Kd.int .u8) (w0 := w) w.heap.size rfl (.tmp 91) (.tmp 94) 22 5 (.int .u8 0) 1 rfl Try.underlying22 info5 rfl (by decide) (by omega) (.slice none 0 0) ([] : List Int) ((l0.take ((ji15) : Int).toNat).drop 5) _ _ _ (fun _ => True) (fun _ => False) rfl rfl ?aO ?aR (fun _ _ h => h) (fun _ h => h.elim) ?aF ?aB ?aS ?aL ?_; (case aR => first | (rw [← show ((l0.take ((ji15) : Int).toNat).drop 5).length = ((ji15).toNat - 5) from (by rw [List.length_drop, List.length_take]; have h_ : ((ji15) : Int) ≤ (l0.length : Int) := of_decide_eq_true (by first | (with_reducible assumption) | assumption); omega)]; repeat (first | exact (Kd.C_below HR157.out (by repeat (first | (with_reducible first | exact HB.out | apply below_alloc | apply pw_below_drewN | apply below_drew1) | exact HB.out))) | (with_reducible refine Kd.C_alloc ?_ _) | (with_reducible refine Kd.C_drewN ?_ _) | (with_reducible refine Kd.C_drew ?_))) | (repeat (first | exact (Kd.C_below HR157.out (by repeat (first | (with_reducible first | exact HB.out | apply below_alloc | apply pw_below_drewN | apply below_drew1) | exact HB.out))) | (with_reducible refine Kd.C_alloc ?_ _) | (with_reducible refine Kd.C_drewN ?_ _) | (with_reducible refine Kd.C_drew ?_)))); (case aB => exact (by repeat (first | (with_reducible first | exact HB.out | apply below_alloc | apply pw_below_drewN | apply below_drew1) | exact HB.out))); (case aF => exact (fun _ _ => trivial)); (case aO => exact ((Kd.R_nil _ _ _ _ (fun _ => True)))); (case aS => exact (below_size (by repeat (first | (with_reducible first | exact HB.out | apply below_alloc | apply pw_below_drewN | apply below_drew1) | exact HB.out)))); (case aL => have := LMc33.out; have hlx_ := (show ((l0.take ((ji15) : Int).toNat).drop 5).length = ((ji15).toNat - 5) from (by rw [List.length_drop, List.length_take]; have h_ : ((ji15) : Int) ≤ (l0.length : Int) := of_decide_eq_true (by first | (with_reducible assumption) | assumption); omega)); omega); intro v159 w37 ho hb hg hat; rw [← Ny158.out] at ho; have n0_ := Aside0.mk (hb); have n1_ := Aside0.mk (ho); clear HB; have HB := n0_; have HO160 := n1_; clear n0_ n1_; clear ho hb hg hat; have p161 : 0 ≤ (1 : Int) := (by omega); have q161 : 1 < (l0.length : Int) := of_decide_eq_true (by first | (with_reducible assumption) | assumption); obtain ⟨ad161, e161, hx161_0⟩ := Kd.at_int HR0.out 1 p161 q161; obtain rfl : ad148 = ad161 := (by injection e161); (try simp only [show (1 : Int).toNat = 1 from rfl, Nat.reduceMul, Nat.reduceEqDiff, Go.Addr.add, ↓reduceIte] at hx161_0); have qi161 : (1 < l0.length) = True := eq_true (by omega); (try rw [show ((1 : Int)).toNat = 1 from rfl] at hx161_0); replace hx161_0 := (HB.out.cell (World.block_lt_of_cell? w _ hx161_0)).trans hx161_0; replace p161 := eq_true p161; replace q161 := eq_true q161)); try go_wp2_with (first | (go_at_call 10; (try rw [show ((ji15) : Int).toNat - 1 = (((l0.take ((ji15) : Int).toNat).drop 1)).length from (by rw [List.length_drop, List.length_take]; omega)]); (with_reducible refine (reefref03_Sum.calls kj1 _ _ ((l0.take ((ji15) : Int).toNat).drop 1) t152 _ ?side1 ?side2 A14.out).mono ?_); (case side1 => repeat (first | exact (Kd.C_below HR151.out HB.out) | (with_reducible refine Kd.C_alloc ?_ _) | (with_reducible refine Kd.C_drewN ?_ _) | (with_reducible refine Kd.C_drew ?_))); (case side2 => exact HC151.out); rintro e w' ⟨rfl, ⟨nd, rfl⟩⟩; (try first | exact ⟨rfl, _, World.drewN_drewN _ _ _⟩ | exact ⟨rfl, _, Eq.trans (World.drewN_drewN _ _ _) (congrArg (World.drewN _) (Nat.add_assoc _ _ _))⟩); have p153 : 0 ≤ ((ji15) : Int) := of_decide_eq_true (by first | (with_reducible assumption) | assumption); have q153 : (ji15) < (l0.length : Int) := of_decide_eq_true (by first | (with_reducible assumption) | assumption); obtain ⟨ad153, e153, hx153_0⟩ := Kd.at_int HR0.out (ji15) p153 q153; obtain rfl : ad148 = ad153 := (by injection e153); replace hx153_0 := (HB.out.cell (World.block_lt_of_cell? w _ hx153_0)).trans hx153_0; replace p153 := eq_true p153; replace q153 := eq_true q153; have p154 : 0 ≤ ((ji19) : Int) := of_decide_eq_true (by first | (with_reducible assumption) | assumption); have q154 : (ji19) < (l0.length : Int) := of_decide_eq_true (by first | (with_reducible assumption) | assumption); obtain ⟨ad154, e154, hx154_0⟩ := Kd.at_int HR0.out (ji19) p154 q154; obtain rfl : ad148 = ad154 := (by injection e154); replace hx154_0 := (HB.out.cell (World.block_lt_of_cell? w _ hx154_0)).trans hx154_0; replace p154 := eq_true p154; replace q154 := eq_true q154; have p155 : 0 ≤ ((ji23) : Int) := of_decide_eq_true (by first | (with_reducible assumption) | assumption); have q155 : (ji23) < (l0.length : Int) := of_decide_eq_true (by first | (with_reducible assumption) | assumption); obtain ⟨ad155, e155, hx155_0⟩ := Kd.at_int HR0.out (ji23) p155 q155; obtain rfl : ad148 = ad155 := (by injection e155); replace hx155_0 := (HB.out.cell (World.block_lt_of_cell? w _ hx155_0)).trans hx155_0; replace p155 := eq_true p155; replace q155 := eq_true q155; have p156 : 0 ≤ ((ji27) : Int) := of_decide_eq_true (by first | (with_reducible assumption) | assumption); have q156 : (ji27) < (l0.length : Int) := of_decide_eq_true (by first | (with_reducible assumption) | assumption); obtain ⟨ad156, e156, hx156_0⟩ := Kd.at_int HR0.out (ji27) p156 q156; obtain rfl : ad148 = ad156 := (by injection e156); replace hx156_0 := (HB.out.cell (World.block_lt_of_cell? w _ hx156_0)).trans hx156_0; replace p156 := eq_true p156; replace q156 := eq_true q156; obtain ⟨i036, hi036, _, hsz36, _⟩ := info_parts info5; obtain ⟨A36, hcut36, hA36, hC36⟩ := print_mid_of (P := Try.prog) (Value.int .u8) 0 22 5 .i64 .i64 Try.underlying22 hi036 hsz36 (some ad148) c0 l0 5 (ji15) (by omega) (by first | omega | exact of_decide_eq_true (by first | (with_reducible assumption) | assumption)) (of_decide_eq_true (by first | (with_reducible assumption) | assumption)) HC0.out; have HR157 := Aside0.mk (Kd.C_of_reads (h1 := fun _ => rfl) (hA36 _ (Kd.reads_of_C HR0.out))); have HC157 := Aside0.mk hC36; clear hA36 hC36 hi036 hsz36) | ((with_reducible refine gate_builtin (b := .append) (xs := #[.tmp 91, .tmp 94]) rfl ?_); at_builtin; refine Kd.R_append_rows (Kd.int .u8) (w0 := w) w.heap.size rfl (.tmp 91) (.tmp 94) 22 5 (.int .u8 0) 1 rfl Try.underlying22 info5 rfl (by decide) (by omega) (.slice none 0 0) ([] : List Int) ((l0.take ((ji15) : Int).toNat).drop 5) _ _ _ (fun _ => True) (fun _ => False) rfl rfl ?aO ?aR (fun _ _ h => h) (fun _ h => h.elim) ?aF ?aB ?aS ?aL ?_; (case aR => first | (rw [← show ((l0.take ((ji15) : Int).toNat).drop 5).length = ((ji15).toNat - 5) from (by rw [List.length_drop, List.length_take]; have h_ : ((ji15) : Int) ≤ (l0.length : Int) := of_decide_eq_true (by first | (with_reducible assumption) | assumption); omega)]; repeat (first | exact (Kd.C_below HR157.out (by repeat (first | (with_reducible first | exact HB.out | apply below_alloc | apply pw_below_drewN | apply below_drew1) | exact HB.out))) | (with_reducible refine Kd.C_alloc ?_ _) | (with_reducible refine Kd.C_drewN ?_ _) | (with_reducible refine Kd.C_drew ?_))) | (repeat (first | exact (Kd.C_below HR157.out (by repeat (first | (with_reducible first | exact HB.out | apply below_alloc | apply pw_below_drewN | apply below_drew1) | exact HB.out))) | (with_reducible refine Kd.C_alloc ?_ _) | (with_reducible refine Kd.C_drewN ?_ _) | (with_reducible refine Kd.C_drew ?_)))); (case aB => exact (by repeat (first | (with_reducible first | exact HB.out | apply below_alloc | apply pw_below_drewN | apply below_drew1) | exact HB.out))); (case aF => exact (fun _ _ => trivial)); (case aO => exact ((Kd.R_nil _ _ _ _ (fun _ => True)))); (case aS => exact (below_size (by repeat (first | (with_reducible first | exact HB.out | apply below_alloc | apply pw_below_drewN | apply below_drew1) | exact HB.out)))); (case aL => have := LMc33.out; have hlx_ := (show ((l0.take ((ji15) : Int).toNat).drop 5).length = ((ji15).toNat - 5) from (by rw [List.length_drop, List.length_take]; have h_ : ((ji15) : Int) ≤ (l0.length : Int) := of_decide_eq_true (by first | (with_reducible assumption) | assumption); omega)); omega); intro v159 w37 ho hb hg hat; rw [← Ny158.out] at ho; have n0_ := Aside0.mk (hb); have n1_ := Aside0.mk (ho); clear HB; have HB := n0_; have HO160 := n1_; clear n0_ n1_; clear ho hb hg hat; have p161 : 0 ≤ (1 : Int) := (by omega); have q161 : 1 < (l0.length : Int) := of_decide_eq_true (by first | (with_reducible assumption) | assumption); obtain ⟨ad161, e161, hx161_0⟩ := Kd.at_int HR0.out 1 p161 q161; obtain rfl : ad148 = ad161 := (by injection e161); (try simp only [show (1 : Int).toNat = 1 from rfl, Nat.reduceMul, Nat.reduceEqDiff, Go.Addr.add, ↓reduceIte] at hx161_0); have qi161 : (1 < l0.length) = True := eq_true (by omega); (try rw [show ((1 : Int)).toNat = 1 from rfl] at hx161_0); replace hx161_0 := (HB.out.cell (World.block_lt_of_cell? w _ hx161_0)).trans hx161_0; replace p161 := eq_true p161; replace q161 := eq_true q161)))
                           refine bodyPost_ret (results_list (rs := [.tmp 2, .tmp 3, .tmp 4, .tmp 5]) rfl (by simp) (.tmp (.tmp (.tmp (.tmp .nil))))) rfl ?_
                           exact ⟨_, by first | rfl | (simp [errW_none, errW_some] <;> rfl) | (simp only [← hji15, ← hji19, ← hji23, ← hji27]; first | rfl | (simp [errW_none, errW_some] <;> rfl)) | (simp [*, errW_none, errW_some] <;> rfl), by (with_reducible repeat (first | apply Kd.R_alloc | apply Kd.R_drewN | apply Kd.R_drew)); exact HO160.out, by repeat (first | (with_reducible first | exact HB.out | apply below_alloc | apply pw_below_drewN | apply below_drew1) | exact HB.out)⟩
                          ·rw [if_neg c34] at H
                           exact absurd H (by simp)
                         ·rw [if_neg c33] at H
                          exact absurd H (by simp)
                        ·rw [if_neg c31] at H
                         exact absurd H (by simp)
                       ·rw [if_neg c30] at H
                        have c30b0 : ((rd l0 (ji27)) == ((t152 / 16777216) % 256)) = false := beq_eq_false_iff_ne.mpr c30
                        have c30b1 : ((rd l0 (ji27)) != ((t152 / 16777216) % 256)) = true := bne_iff_ne.mpr c30
                        simp only [Option.some.injEq, Prod.mk.injEq] at H
                        obtain ⟨rfl, rfl, rfl, rfl⟩ := H
                        have p148 : 0 ≤ (2 : Int) := (by omega)
                        have q148 : 2 < (l0.length : Int) := of_decide_eq_true (by first | (with_reducible assumption) | assumption)
                        obtain ⟨ad148, e148, hx148_0⟩ := Kd.at_int HR0.out 2 p148 q148
                        cases e148
                        (try simp only [show (2 : Int).toNat = 2 from rfl, Nat.reduceMul, Nat.reduceEqDiff, Go.Addr.add, ↓reduceIte] at hx148_0)
                        have qi148 : (2 < l0.length) = True := eq_true (by omega)
                        (try rw [show ((2 : Int)).toNat = 2 from rfl] at hx148_0)
                        replace hx148_0 := (HB.out.cell (World.block_lt_of_cell? w _ hx148_0)).trans hx148_0
                        replace p148 := eq_true p148
                        replace q148 := eq_true q148
                        have p149 : 0 ≤ (3 : Int) := (by omega)
                        have q149 : 3 < (l0.length : Int) := of_decide_eq_true (by first | (with_reducible assumption) | assumption)
                        obtain ⟨ad149, e149, hx149_0⟩ := Kd.at_int HR0.out 3 p149 q149
                        obtain rfl : ad148 = ad149 := (by injection e149)
                        (try simp only [show (3 : Int).toNat = 3 from rfl, Nat.reduceMul, Nat.reduceEqDiff, Go.Addr.add, ↓reduceIte] at hx149_0)
                        have qi149 : (3 < l0.length) = True := eq_true (by omega)
                        (try rw [show ((3 : Int)).toNat = 3 from rfl] at hx149_0)
                        replace hx149_0 := (HB.out.cell (World.block_lt_of_cell? w _ hx149_0)).trans hx149_0
                        replace p149 := eq_true p149
                        replace q149 := eq_true q149
                        have p150 : 0 ≤ (4 : Int) := (by omega)
                        have q150 : 4 < (l0.length : Int) := of_decide_eq_true (by first | (with_reducible assumption) | assumption)
                        obtain ⟨ad150, e150, hx150_0⟩ := Kd.at_int HR0.out 4 p150 q150
                        obtain rfl : ad148 = ad150 := (by injection e150)
                        (try simp only [show (4 : Int).toNat = 4 from rfl, Nat.reduceMul, Nat.reduceEqDiff, Go.Addr.add, ↓reduceIte] at hx150_0)
                        have qi150 : (4 < l0.length) = True := eq_true (by omega)
                        (try rw [show ((4 : Int)).toNat = 4 from rfl] at hx150_0)
                        replace hx150_0 := (HB.out.cell (World.block_lt_of_cell? w _ hx150_0)).trans hx150_0
                        replace p150 := eq_true p150
                        replace q150 := eq_true q150
                        obtain ⟨i038, hi038, _, hsz38, _⟩ := info_parts info5
                        obtain ⟨A38, hcut38, hA38, hC38⟩ := print_mid_of (P := Try.prog) (Value.int .u8) 0 22 5 .i64 .i64 Try.underlying22 hi038 hsz38 (some ad148) c0 l0 1 (ji15) (by omega) (by first | omega | exact of_decide_eq_true (by first | (with_reducible assumption) | assumption)) (of_decide_eq_true (by first | (with_reducible assumption) | assumption)) HC0.out
                        have HR151 := Aside0.mk (Kd.C_of_reads (h1 := fun _ => rfl) (hA38 _ (Kd.reads_of_C HR0.out)))
                        have HC151 := Aside0.mk hC38
                        clear hA38 hC38 hi038 hsz38
                        go_wp2_with (first | (go_at_call 10; (try rw [show ((ji15) : Int).toNat - 1 = (((l0.take ((ji15) : Int).toNat).drop 1)).length from (by rw [List.length_drop, List.length_take]; omega)]); (with_reducible refine (reefref03_Sum.calls kj1 _ _ ((l0.take ((ji15) : Int).toNat).drop 1) t152 _ ?side1 ?side2 A14.out).mono ?_); (case side1 => repeat (first | exact (Kd.C_below HR151.out HB.out) | (with_reducible refine Kd.C_alloc ?_ _) | (with_reducible refine Kd.C_drewN ?_ _) | (with_reducible refine Kd.C_drew ?_))); (case side2 => exact HC151.out); rintro e w' ⟨rfl, ⟨nd, rfl⟩⟩; (try first | exact ⟨rfl, _, World.drewN_drewN _ _ _⟩ | exact ⟨rfl, _, Eq.trans (World.drewN_drewN _ _ _) (congrArg (World.drewN _) (Nat.add_assoc _ _ _))⟩); have p153 : 0 ≤ ((ji15) : Int) := of_decide_eq_true (by first | (with_reducible assumption) | assumption); have q153 : (ji15) < (l0.length : Int) := of_decide_eq_true (by first | (with_reducible assumption) | assumption); obtain ⟨ad153, e153, hx153_0⟩ := Kd.at_int HR0.out (ji15) p153 q153; obtain rfl : ad148 = ad153 := (by injection e153); replace hx153_0 := (HB.out.cell (World.block_lt_of_cell? w _ hx153_0)).trans hx153_0; replace p153 := eq_true p153; replace q153 := eq_true q153; have p154 : 0 ≤ ((ji19) : Int) := of_decide_eq_true (by first | (with_reducible assumption) | assumption); have q154 : (ji19) < (l0.length : Int) := of_decide_eq_true (by first | (with_reducible assumption) | assumption); obtain ⟨ad154, e154, hx154_0⟩ := Kd.at_int HR0.out (ji19) p154 q154; obtain rfl : ad148 = ad154 := (by injection e154); replace hx154_0 := (HB.out.cell (World.block_lt_of_cell? w _ hx154_0)).trans hx154_0; replace p154 := eq_true p154; replace q154 := eq_true q154; have p155 : 0 ≤ ((ji23) : Int) := of_decide_eq_true (by first | (with_reducible assumption) | assumption); have q155 : (ji23) < (l0.length : Int) := of_decide_eq_true (by first | (with_reducible assumption) | assumption); obtain ⟨ad155, e155, hx155_0⟩ := Kd.at_int HR0.out (ji23) p155 q155; obtain rfl : ad148 = ad155 := (by injection e155); replace hx155_0 := (HB.out.cell (World.block_lt_of_cell? w _ hx155_0)).trans hx155_0; replace p155 := eq_true p155; replace q155 := eq_true q155; have p156 : 0 ≤ ((ji27) : Int) := of_decide_eq_true (by first | (with_reducible assumption) | assumption); have q156 : (ji27) < (l0.length : Int) := of_decide_eq_true (by first | (with_reducible assumption) | assumption); obtain ⟨ad156, e156, hx156_0⟩ := Kd.at_int HR0.out (ji27) p156 q156; obtain rfl : ad148 = ad156 := (by injection e156); replace hx156_0 := (HB.out.cell (World.block_lt_of_cell? w _ hx156_0)).trans hx156_0; replace p156 := eq_true p156; replace q156 := eq_true q156))
                        repeat (go_quiet (first | (go_at_call 10; (try rw [show ((ji15) : Int).toNat - 1 = (((l0.take ((ji15) : Int).toNat).drop 1)).length from (by rw [List.length_drop, List.length_take]; omega)]); (with_reducible refine (reefref03_Sum.calls kj1 _ _ ((l0.take ((ji15) : Int).toNat).drop 1) t152 _ ?side1 ?side2 A14.out).mono ?_); (case side1 => repeat (first | exact (Kd.C_below HR151.out HB.out) | (with_reducible refine Kd.C_alloc ?_ _) | (with_reducible refine Kd.C_drewN ?_ _) | (with_reducible refine Kd.C_drew ?_))); (case side2 => exact HC151.out); rintro e w' ⟨rfl, ⟨nd, rfl⟩⟩; (try first | exact ⟨rfl, _, World.drewN_drewN _ _ _⟩ | exact ⟨rfl, _, Eq.trans (World.drewN_drewN _ _ _) (congrArg (World.drewN _) (Nat.add_assoc _ _ _))⟩); have p153 : 0 ≤ ((ji15) : Int) := of_decide_eq_true (by first | (with_reducible assumption) | assumption); have q153 : (ji15) < (l0.length : Int) := of_decide_eq_true (by first | (with_reducible assumption) | assumption); obtain ⟨ad153, e153, hx153_0⟩ := Kd.at_int HR0.out (ji15) p153 q153; obtain rfl : ad148 = ad153 := (by injection e153); replace hx153_0 := (HB.out.cell (World.block_lt_of_cell? w _ hx153_0)).trans hx153_0; replace p153 := eq_true p153; replace q153 := eq_true q153; have p154 : 0 ≤ ((ji19) : Int) := of_decide_eq_true (by first | (with_reducible assumption) | assumption); have q154 : (ji19) < (l0.length : Int) := of_decide_eq_true (by first | (with_reducible assumption) | assumption); obtain ⟨ad154, e154, hx154_0⟩ := Kd.at_int HR0.out (ji19) p154 q154; obtain rfl : ad148 = ad154 := (by injection e154); replace hx154_0 := (HB.out.cell (World.block_lt_of_cell? w _ hx154_0)).trans hx154_0; replace p154 := eq_true p154; replace q154 := eq_true q154; have p155 : 0 ≤ ((ji23) : Int) := of_decide_eq_true (by first | (with_reducible assumption) | assumption); have q155 : (ji23) < (l0.length : Int) := of_decide_eq_true (by first | (with_reducible assumption) | assumption); obtain ⟨ad155, e155, hx155_0⟩ := Kd.at_int HR0.out (ji23) p155 q155; obtain rfl : ad148 = ad155 := (by injection e155); replace hx155_0 := (HB.out.cell (World.block_lt_of_cell? w _ hx155_0)).trans hx155_0; replace p155 := eq_true p155; replace q155 := eq_true q155; have p156 : 0 ≤ ((ji27) : Int) := of_decide_eq_true (by first | (with_reducible assumption) | assumption); have q156 : (ji27) < (l0.length : Int) := of_decide_eq_true (by first | (with_reducible assumption) | assumption); obtain ⟨ad156, e156, hx156_0⟩ := Kd.at_int HR0.out (ji27) p156 q156; obtain rfl : ad148 = ad156 := (by injection e156); replace hx156_0 := (HB.out.cell (World.block_lt_of_cell? w _ hx156_0)).trans hx156_0; replace p156 := eq_true p156; replace q156 := eq_true q156)); try go_wp2_with (first | (go_at_call 10; (try rw [show ((ji15) : Int).toNat - 1 = (((l0.take ((ji15) : Int).toNat).drop 1)).length from (by rw [List.length_drop, List.length_take]; omega)]); (with_reducible refine (reefref03_Sum.calls kj1 _ _ ((l0.take ((ji15) : Int).toNat).drop 1) t152 _ ?side1 ?side2 A14.out).mono ?_); (case side1 => repeat (first | exact (Kd.C_below HR151.out HB.out) | (with_reducible refine Kd.C_alloc ?_ _) | (with_reducible refine Kd.C_drewN ?_ _) | (with_reducible refine Kd.C_drew ?_))); (case side2 => exact HC151.out); rintro e w' ⟨rfl, ⟨nd, rfl⟩⟩; (try first | exact ⟨rfl, _, World.drewN_drewN _ _ _⟩ | exact ⟨rfl, _, Eq.trans (World.drewN_drewN _ _ _) (congrArg (World.drewN _) (Nat.add_assoc _ _ _))⟩); have p153 : 0 ≤ ((ji15) : Int) := of_decide_eq_true (by first | (with_reducible assumption) | assumption); have q153 : (ji15) < (l0.length : Int) := of_decide_eq_true (by first | (with_reducible assumption) | assumption); obtain ⟨ad153, e153, hx153_0⟩ := Kd.at_int HR0.out (ji15) p153 q153; obtain rfl : ad148 = ad153 := (by injection e153); replace hx153_0 := (HB.out.cell (World.block_lt_of_cell? w _ hx153_0)).trans hx153_0; replace p153 := eq_true p153; replace q153 := eq_true q153; have p154 : 0 ≤ ((ji19) : Int) := of_decide_eq_true (by first | (with_reducible assumption) | assumption); have q154 : (ji19) < (l0.length : Int) := of_decide_eq_true (by first | (with_reducible assumption) | assumption); obtain ⟨ad154, e154, hx154_0⟩ := Kd.at_int HR0.out (ji19) p154 q154; obtain rfl : ad148 = ad154 := (by injection e154); replace hx154_0 := (HB.out.cell (World.block_lt_of_cell? w _ hx154_0)).trans hx154_0; replace p154 := eq_true p154; replace q154 := eq_true q154; have p155 : 0 ≤ ((ji23) : Int) := of_decide_eq_true (by first | (with_reducible assumption) | assumption); have q155 : (ji23) < (l0.length : Int) := of_decide_eq_true (by first | (with_reducible assumption) | assumption); obtain ⟨ad155, e155, hx155_0⟩ := Kd.at_int HR0.out (ji23) p155 q155; obtain rfl : ad148 = ad155 := (by injection e155); replace hx155_0 := (HB.out.cell (World.block_lt_of_cell? w _ hx155_0)).trans hx155_0; replace p155 := eq_true p155; replace q155 := eq_true q155; have p156 : 0 ≤ ((ji27) : Int) := of_decide_eq_true (by first | (with_reducible assumption) | assumption); have q156 : (ji27) < (l0.length : Int) := of_decide_eq_true (by first | (with_reducible assumption) | assumption); obtain ⟨ad156, e156, hx156_0⟩ := Kd.at_int HR0.out (ji27) p156 q156; obtain rfl : ad148 = ad156 := (by injection e156); replace hx156_0 := (HB.out.cell (World.block_lt_of_cell? w _ hx156_0)).trans hx156_0; replace p156 := eq_true p156; replace q156 := eq_true q156)))
                        refine bodyPost_ret (results_list (rs := [.tmp 2, .tmp 3, .tmp 4, .tmp 5]) rfl (by simp) (.tmp (.tmp (.tmp (.tmp .nil))))) rfl ?_
                        exact ⟨_, by first | rfl | (simp [errW_none, errW_some] <;> rfl) | (simp only [← hji15, ← hji19, ← hji23, ← hji27]; first | rfl | (simp [errW_none, errW_some] <;> rfl)) | (simp [*, errW_none, errW_some] <;> rfl), by first | exact Kd.R_nil _ _ _ _ _ | exact Kd.N_nil _ _ _ _ _ | exact Kd.V_nil _ _ _ _ _ | exact Kd.Q_nil _ _ _ _ _ | exact Kd.S_nil _ _ _ _ _, by repeat (first | (with_reducible first | exact HB.out | apply below_alloc | apply pw_below_drewN | apply below_drew1) | exact HB.out)⟩
                      ·rw [if_neg c29] at H
                       exact absurd H (by simp)
                     ·rw [if_neg c28] at H
                      exact absurd H (by simp)
                    ·rw [if_neg c26] at H
                     have c26b0 : ((rd l0 (ji23)) == ((t152 / 65536) % 256)) = false := beq_eq_false_iff_ne.mpr c26
                     have c26b1 : ((rd l0 (ji23)) != ((t152 / 65536) % 256)) = true := bne_iff_ne.mpr c26
                     simp only [Option.some.injEq, Prod.mk.injEq] at H
                     obtain ⟨rfl, rfl, rfl, rfl⟩ := H
                     have p148 : 0 ≤ (2 : Int) := (by omega)
                     have q148 : 2 < (l0.length : Int) := of_decide_eq_true (by first | (with_reducible assumption) | assumption)
                     obtain ⟨ad148, e148, hx148_0⟩ := Kd.at_int HR0.out 2 p148 q148
                     cases e148
                     (try simp only [show (2 : Int).toNat = 2 from rfl, Nat.reduceMul, Nat.reduceEqDiff, Go.Addr.add, ↓reduceIte] at hx148_0)
                     have qi148 : (2 < l0.length) = True := eq_true (by omega)
                     (try rw [show ((2 : Int)).toNat = 2 from rfl] at hx148_0)
                     replace hx148_0 := (HB.out.cell (World.block_lt_of_cell? w _ hx148_0)).trans hx148_0
                     replace p148 := eq_true p148
                     replace q148 := eq_true q148
                     have p149 : 0 ≤ (3 : Int) := (by omega)
                     have q149 : 3 < (l0.length : Int) := of_decide_eq_true (by first | (with_reducible assumption) | assumption)
                     obtain ⟨ad149, e149, hx149_0⟩ := Kd.at_int HR0.out 3 p149 q149
                     obtain rfl : ad148 = ad149 := (by injection e149)
                     (try simp only [show (3 : Int).toNat = 3 from rfl, Nat.reduceMul, Nat.reduceEqDiff, Go.Addr.add, ↓reduceIte] at hx149_0)
                     have qi149 : (3 < l0.length) = True := eq_true (by omega)
                     (try rw [show ((3 : Int)).toNat = 3 from rfl] at hx149_0)
                     replace hx149_0 := (HB.out.cell (World.block_lt_of_cell? w _ hx149_0)).trans hx149_0
                     replace p149 := eq_true p149
                     replace q149 := eq_true q149
                     have p150 : 0 ≤ (4 : Int) := (by omega)
                     have q150 : 4 < (l0.length : Int) := of_decide_eq_true (by first | (with_reducible assumption) | assumption)
                     obtain ⟨ad150, e150, hx150_0⟩ := Kd.at_int HR0.out 4 p150 q150
                     obtain rfl : ad148 = ad150 := (by injection e150)
                     (try simp only [show (4 : Int).toNat = 4 from rfl, Nat.reduceMul, Nat.reduceEqDiff, Go.Addr.add, ↓reduceIte] at hx150_0)
                     have qi150 : (4 < l0.length) = True := eq_true (by omega)
                     (try rw [show ((4 : Int)).toNat = 4 from rfl] at hx150_0)
                     replace hx150_0 := (HB.out.cell (World.block_lt_of_cell? w _ hx150_0)).trans hx150_0
                     replace p150 := eq_true p150
                     replace q150 := eq_true q150
                     obtain ⟨i039, hi039, _, hsz39, _⟩ := info_parts info5
                     obtain ⟨A39, hcut39, hA39, hC39⟩ := print_mid_of (P := Try.prog) (Value.int .u8) 0 22 5 .i64 .i64 Try.underlying22 hi039 hsz39 (some ad148) c0 l0 1 (ji15) (by omega) (by first | omega | exact of_decide_eq_true (by first | (with_reducible assumption) | assumption)) (of_decide_eq_true (by first | (with_reducible assumption) | assumption)) HC0.out
                     have HR151 := Aside0.mk (Kd.C_of_reads (h1 := fun _ => rfl) (hA39 _ (Kd.reads_of_C HR0.out)))
                     have HC151 := Aside0.mk hC39
                     clear hA39 hC39 hi039 hsz39
                     go_wp2_with (first | (go_at_call 10; (try rw [show ((ji15) : Int).toNat - 1 = (((l0.take ((ji15) : Int).toNat).drop 1)).length from (by rw [List.length_drop, List.length_take]; omega)]); (with_reducible refine (reefref03_Sum.calls kj1 _ _ ((l0.take ((ji15) : Int).toNat).drop 1) t152 _ ?side1 ?side2 A14.out).mono ?_); (case side1 => repeat (first | exact (Kd.C_below HR151.out HB.out) | (with_reducible refine Kd.C_alloc ?_ _) | (with_reducible refine Kd.C_drewN ?_ _) | (with_reducible refine Kd.C_drew ?_))); (case side2 => exact HC151.out); rintro e w' ⟨rfl, ⟨nd, rfl⟩⟩; (try first | exact ⟨rfl, _, World.drewN_drewN _ _ _⟩ | exact ⟨rfl, _, Eq.trans (World.drewN_drewN _ _ _) (congrArg (World.drewN _) (Nat.add_assoc _ _ _))⟩); have p153 : 0 ≤ ((ji15) : Int) := of_decide_eq_true (by first | (with_reducible assumption) | assumption); have q153 : (ji15) < (l0.length : Int) := of_decide_eq_true (by first | (with_reducible assumption) | assumption); obtain ⟨ad153, e153, hx153_0⟩ := Kd.at_int HR0.out (ji15) p153 q153; obtain rfl : ad148 = ad153 := (by injection e153); replace hx153_0 := (HB.out.cell (World.block_lt_of_cell? w _ hx153_0)).trans hx153_0; replace p153 := eq_true p153; replace q153 := eq_true q153; have p154 : 0 ≤ ((ji19) : Int) := of_decide_eq_true (by first | (with_reducible assumption) | assumption); have q154 : (ji19) < (l0.length : Int) := of_decide_eq_true (by first | (with_reducible assumption) | assumption); obtain ⟨ad154, e154, hx154_0⟩ := Kd.at_int HR0.out (ji19) p154 q154; obtain rfl : ad148 = ad154 := (by injection e154); replace hx154_0 := (HB.out.cell (World.block_lt_of_cell? w _ hx154_0)).trans hx154_0; replace p154 := eq_true p154; replace q154 := eq_true q154; have p155 : 0 ≤ ((ji23) : Int) := of_decide_eq_true (by first | (with_reducible assumption) | assumption); have q155 : (ji23) < (l0.length : Int) := of_decide_eq_true (by first | (with_reducible assumption) | assumption); obtain ⟨ad155, e155, hx155_0⟩ := Kd.at_int HR0.out (ji23) p155 q155; obtain rfl : ad148 = ad155 := (by injection e155); replace hx155_0 := (HB.out.cell (World.block_lt_of_cell? w _ hx155_0)).trans hx155_0; replace p155 := eq_true p155; replace q155 := eq_true q155))
                     repeat (go_quiet (first | (go_at_call 10; (try rw [show ((ji15) : Int).toNat - 1 = (((l0.take ((ji15) : Int).toNat).drop 1)).length from (by rw [List.length_drop, List.length_take]; omega)]); (with_reducible refine (reefref03_Sum.calls kj1 _ _ ((l0.take ((ji15) : Int).toNat).drop 1) t152 _ ?side1 ?side2 A14.out).mono ?_); (case side1 => repeat (first | exact (Kd.C_below HR151.out HB.out) | (with_reducible refine Kd.C_alloc ?_ _) | (with_reducible refine Kd.C_drewN ?_ _) | (with_reducible refine Kd.C_drew ?_))); (case side2 => exact HC151.out); rintro e w' ⟨rfl, ⟨nd, rfl⟩⟩; (try first | exact ⟨rfl, _, World.drewN_drewN _ _ _⟩ | exact ⟨rfl, _, Eq.trans (World.drewN_drewN _ _ _) (congrArg (World.drewN _) (Nat.add_assoc _ _ _))⟩); have p153 : 0 ≤ ((ji15) : Int) := of_decide_eq_true (by first | (with_reducible assumption) | assumption); have q153 : (ji15) < (l0.length : Int) := of_decide_eq_true (by first | (with_reducible assumption) | assumption); obtain ⟨ad153, e153, hx153_0⟩ := Kd.at_int HR0.out (ji15) p153 q153; obtain rfl : ad148 = ad153 := (by injection e153); replace hx153_0 := (HB.out.cell (World.block_lt_of_cell? w _ hx153_0)).trans hx153_0; replace p153 := eq_true p153; replace q153 := eq_true q153; have p154 : 0 ≤ ((ji19) : Int) := of_decide_eq_true (by first | (with_reducible assumption) | assumption); have q154 : (ji19) < (l0.length : Int) := of_decide_eq_true (by first | (with_reducible assumption) | assumption); obtain ⟨ad154, e154, hx154_0⟩ := Kd.at_int HR0.out (ji19) p154 q154; obtain rfl : ad148 = ad154 := (by injection e154); replace hx154_0 := (HB.out.cell (World.block_lt_of_cell? w _ hx154_0)).trans hx154_0; replace p154 := eq_true p154; replace q154 := eq_true q154; have p155 : 0 ≤ ((ji23) : Int) := of_decide_eq_true (by first | (with_reducible assumption) | assumption); have q155 : (ji23) < (l0.length : Int) := of_decide_eq_true (by first | (with_reducible assumption) | assumption); obtain ⟨ad155, e155, hx155_0⟩ := Kd.at_int HR0.out (ji23) p155 q155; obtain rfl : ad148 = ad155 := (by injection e155); replace hx155_0 := (HB.out.cell (World.block_lt_of_cell? w _ hx155_0)).trans hx155_0; replace p155 := eq_true p155; replace q155 := eq_true q155)); try go_wp2_with (first | (go_at_call 10; (try rw [show ((ji15) : Int).toNat - 1 = (((l0.take ((ji15) : Int).toNat).drop 1)).length from (by rw [List.length_drop, List.length_take]; omega)]); (with_reducible refine (reefref03_Sum.calls kj1 _ _ ((l0.take ((ji15) : Int).toNat).drop 1) t152 _ ?side1 ?side2 A14.out).mono ?_); (case side1 => repeat (first | exact (Kd.C_below HR151.out HB.out) | (with_reducible refine Kd.C_alloc ?_ _) | (with_reducible refine Kd.C_drewN ?_ _) | (with_reducible refine Kd.C_drew ?_))); (case side2 => exact HC151.out); rintro e w' ⟨rfl, ⟨nd, rfl⟩⟩; (try first | exact ⟨rfl, _, World.drewN_drewN _ _ _⟩ | exact ⟨rfl, _, Eq.trans (World.drewN_drewN _ _ _) (congrArg (World.drewN _) (Nat.add_assoc _ _ _))⟩); have p153 : 0 ≤ ((ji15) : Int) := of_decide_eq_true (by first | (with_reducible assumption) | assumption); have q153 : (ji15) < (l0.length : Int) := of_decide_eq_true (by first | (with_reducible assumption) | assumption); obtain ⟨ad153, e153, hx153_0⟩ := Kd.at_int HR0.out (ji15) p153 q153; obtain rfl : ad148 = ad153 := (by injection e153); replace hx153_0 := (HB.out.cell (World.block_lt_of_cell? w _ hx153_0)).trans hx153_0; replace p153 := eq_true p153; replace q153 := eq_true q153; have p154 : 0 ≤ ((ji19) : Int) := of_decide_eq_true (by first | (with_reducible assumption) | assumption); have q154 : (ji19) < (l0.length : Int) := of_decide_eq_true (by first | (with_reducible assumption) | assumption); obtain ⟨ad154, e154, hx154_0⟩ := Kd.at_int HR0.out (ji19) p154 q154; obtain rfl : ad148 = ad154 := (by injection e154); replace hx154_0 := (HB.out.cell (World.block_lt_of_cell? w _ hx154_0)).trans hx154_0; replace p154 := eq_true p154; replace q154 := eq_true q154; have p155 : 0 ≤ ((ji23) : Int) := of_decide_eq_true (by first | (with_reducible assumption) | assumption); have q155 : (ji23) < (l0.length : Int) := of_decide_eq_true (by first | (with_reducible assumption) | assumption); obtain ⟨ad155, e155, hx155_0⟩ := Kd.at_int HR0.out (ji23) p155 q155; obtain rfl : ad148 = ad155 := (by injection e155); replace hx155_0 := (HB.out.cell (World.block_lt_of_cell? w _ hx155_0)).trans hx155_0; replace p155 := eq_true p155; replace q155 := eq_true q155)))
                     refine bodyPost_ret (results_list (rs := [.tmp 2, .tmp 3, .tmp 4, .tmp 5]) rfl (by simp) (.tmp (.tmp (.tmp (.tmp .nil))))) rfl ?_
                     exact ⟨_, by first | rfl | (simp [errW_none, errW_some] <;> rfl) | (simp only [← hji15, ← hji19, ← hji23]; first | rfl | (simp [errW_none, errW_some] <;> rfl)) | (simp [*, errW_none, errW_some] <;> rfl), by first | exact Kd.R_nil _ _ _ _ _ | exact Kd.N_nil _ _ _ _ _ | exact Kd.V_nil _ _ _ _ _ | exact Kd.Q_nil _ _ _ _ _ | exact Kd.S_nil _ _ _ _ _, by repeat (first | (with_reducible first | exact HB.out | apply below_alloc | apply pw_below_drewN | apply below_drew1) | exact HB.out)⟩
                   ·rw [if_neg c25] at H
                    exact absurd H (by simp)
                  ·rw [if_neg c24] at H
                   exact absurd H (by simp)
                 ·rw [if_neg c22] at H
                  have c22b0 : ((rd l0 (ji19)) == ((t152 / 256) % 256)) = false := beq_eq_false_iff_ne.mpr c22
                  have c22b1 : ((rd l0 (ji19)) != ((t152 / 256) % 256)) = true := bne_iff_ne.mpr c22
                  simp only [Option.some.injEq, Prod.mk.injEq] at H
                  obtain ⟨rfl, rfl, rfl, rfl⟩ := H
                  have p148 : 0 ≤ (2 : Int) := (by omega)
                  have q148 : 2 < (l0.length : Int) := of_decide_eq_true (by first | (with_reducible assumption) | assumption)
                  obtain ⟨ad148, e148, hx148_0⟩ := Kd.at_int HR0.out 2 p148 q148
                  cases e148
                  (try simp only [show (2 : Int).toNat = 2 from rfl, Nat.reduceMul, Nat.reduceEqDiff, Go.Addr.add, ↓reduceIte] at hx148_0)
                  have qi148 : (2 < l0.length) = True := eq_true (by omega)
                  (try rw [show ((2 : Int)).toNat = 2 from rfl] at hx148_0)
                  replace hx148_0 := (HB.out.cell (World.block_lt_of_cell? w _ hx148_0)).trans hx148_0
                  replace p148 := eq_true p148
                  replace q148 := eq_true q148
                  have p149 : 0 ≤ (3 : Int) := (by omega)
                  have q149 : 3 < (l0.length : Int) := of_decide_eq_true (by first | (with_reducible assumption) | assumption)
                  obtain ⟨ad149, e149, hx149_0⟩ := Kd.at_int HR0.out 3 p149 q149
                  obtain rfl : ad148 = ad149 := (by injection e149)
                  (try simp only [show (3 : Int).toNat = 3 from rfl, Nat.reduceMul, Nat.reduceEqDiff, Go.Addr.add, ↓reduceIte] at hx149_0)
                  have qi149 : (3 < l0.length) = True := eq_true (by omega)
                  (try rw [show ((3 : Int)).toNat = 3 from rfl] at hx149_0)
                  replace hx149_0 := (HB.out.cell (World.block_lt_of_cell? w _ hx149_0)).trans hx149_0
                  replace p149 := eq_true p149
                  replace q149 := eq_true q149
                  have p150 : 0 ≤ (4 : Int) := (by omega)
                  have q150 : 4 < (l0.length : Int) := of_decide_eq_true (by first | (with_reducible assumption) | assumption)
                  obtain ⟨ad150, e150, hx150_0⟩ := Kd.at_int HR0.out 4 p150 q150
                  obtain rfl : ad148 = ad150 := (by injection e150)
                  (try simp only [show (4 : Int).toNat = 4 from rfl, Nat.reduceMul, Nat.reduceEqDiff, Go.Addr.add, ↓reduceIte] at hx150_0)
                  have qi150 : (4 < l0.length) = True := eq_true (by omega)
                  (try rw [show ((4 : Int)).toNat = 4 from rfl] at hx150_0)
                  replace hx150_0 := (HB.out.cell (World.block_lt_of_cell? w _ hx150_0)).trans hx150_0
                  replace p150 := eq_true p150
                  replace q150 := eq_true q150
                  obtain ⟨i040, hi040, _, hsz40, _⟩ := info_parts info5
                  obtain ⟨A40, hcut40, hA40, hC40⟩ := print_mid_of (P := Try.prog) (Value.int .u8) 0 22 5 .i64 .i64 Try.underlying22 hi040 hsz40 (some ad148) c0 l0 1 (ji15) (by omega) (by first | omega | exact of_decide_eq_true (by first | (with_reducible assumption) | assumption)) (of_decide_eq_true (by first | (with_reducible assumption) | assumption)) HC0.out
                  have HR151 := Aside0.mk (Kd.C_of_reads (h1 := fun _ => rfl) (hA40 _ (Kd.reads_of_C HR0.out)))
                  have HC151 := Aside0.mk hC40
                  clear hA40 hC40 hi040 hsz40
                  go_wp2_with (first | (go_at_call 10; (try rw [show ((ji15) : Int).toNat - 1 = (((l0.take ((ji15) : Int).toNat).drop 1)).length from (by rw [List.length_drop, List.length_take]; omega)]); (with_reducible refine (reefref03_Sum.calls kj1 _ _ ((l0.take ((ji15) : Int).toNat).drop 1) t152 _ ?side1 ?side2 A14.out).mono ?_); (case side1 => repeat (first | exact (Kd.C_below HR151.out HB.out) | (with_reducible refine Kd.C_alloc ?_ _) | (with_reducible refine Kd.C_drewN ?_ _) | (with_reducible refine Kd.C_drew ?_))); (case side2 => exact HC151.out); rintro e w' ⟨rfl, ⟨nd, rfl⟩⟩; (try first | exact ⟨rfl, _, World.drewN_drewN _ _ _⟩ | exact ⟨rfl, _, Eq.trans (World.drewN_drewN _ _ _) (congrArg (World.drewN _) (Nat.add_assoc _ _ _))⟩); have p153 : 0 ≤ ((ji15) : Int) := of_decide_eq_true (by first | (with_reducible assumption) | assumption); have q153 : (ji15) < (l0.length : Int) := of_decide_eq_true (by first | (with_reducible assumption) | assumption); obtain ⟨ad153, e153, hx153_0⟩ := Kd.at_int HR0.out (ji15) p153 q153; obtain rfl : ad148 = ad153 := (by injection e153); replace hx153_0 := (HB.out.cell (World.block_lt_of_cell? w _ hx153_0)).trans hx153_0; replace p153 := eq_true p153; replace q153 := eq_true q153; have p154 : 0 ≤ ((ji19) : Int) := of_decide_eq_true (by first | (with_reducible assumption) | assumption); have q154 : (ji19) < (l0.length : Int) := of_decide_eq_true (by first | (with_reducible assumption) | assumption); obtain ⟨ad154, e154, hx154_0⟩ := Kd.at_int HR0.out (ji19) p154 q154; obtain rfl : ad148 = ad154 := (by injection e154); replace hx154_0 := (HB.out.cell (World.block_lt_of_cell? w _ hx154_0)).trans hx154_0; replace p154 := eq_true p154; replace q154 := eq_true q154))
                  repeat (go_quiet (first | (go_at_call 10; (try rw [show ((ji15) : Int).toNat - 1 = (((l0.take ((ji15) : Int).toNat).drop 1)).length from (by rw [List.length_drop, List.length_take]; omega)]); (with_reducible refine (reefref03_Sum.calls kj1 _ _ ((l0.take ((ji15) : Int).toNat).drop 1) t152 _ ?side1 ?side2 A14.out).mono ?_); (case side1 => repeat (first | exact (Kd.C_below HR151.out HB.out) | (with_reducible refine Kd.C_alloc ?_ _) | (with_reducible refine Kd.C_drewN ?_ _) | (with_reducible refine Kd.C_drew ?_))); (case side2 => exact HC151.out); rintro e w' ⟨rfl, ⟨nd, rfl⟩⟩; (try first | exact ⟨rfl, _, World.drewN_drewN _ _ _⟩ | exact ⟨rfl, _, Eq.trans (World.drewN_drewN _ _ _) (congrArg (World.drewN _) (Nat.add_assoc _ _ _))⟩); have p153 : 0 ≤ ((ji15) : Int) := of_decide_eq_true (by first | (with_reducible assumption) | assumption); have q153 : (ji15) < (l0.length : Int) := of_decide_eq_true (by first | (with_reducible assumption) | assumption); obtain ⟨ad153, e153, hx153_0⟩ := Kd.at_int HR0.out (ji15) p153 q153; obtain rfl : ad148 = ad153 := (by injection e153); replace hx153_0 := (HB.out.cell (World.block_lt_of_cell? w _ hx153_0)).trans hx153_0; replace p153 := eq_true p153; replace q153 := eq_true q153; have p154 : 0 ≤ ((ji19) : Int) := of_decide_eq_true (by first | (with_reducible assumption) | assumption); have q154 : (ji19) < (l0.length : Int) := of_decide_eq_true (by first | (with_reducible assumption) | assumption); obtain ⟨ad154, e154, hx154_0⟩ := Kd.at_int HR0.out (ji19) p154 q154; obtain rfl : ad148 = ad154 := (by injection e154); replace hx154_0 := (HB.out.cell (World.block_lt_of_cell? w _ hx154_0)).trans hx154_0; replace p154 := eq_true p154; replace q154 := eq_true q154)); try go_wp2_with (first | (go_at_call 10; (try rw [show ((ji15) : Int).toNat - 1 = (((l0.take ((ji15) : Int).toNat).drop 1)).length from (by rw [List.length_drop, List.length_take]; omega)]); (with_reducible refine (reefref03_Sum.calls kj1 _ _ ((l0.take ((ji15) : Int).toNat).drop 1) t152 _ ?side1 ?side2 A14.out).mono ?_); (case side1 => repeat (first | exact (Kd.C_below HR151.out HB.out) | (with_reducible refine Kd.C_alloc ?_ _) | (with_reducible refine Kd.C_drewN ?_ _) | (with_reducible refine Kd.C_drew ?_))); (case side2 => exact HC151.out); rintro e w' ⟨rfl, ⟨nd, rfl⟩⟩; (try first | exact ⟨rfl, _, World.drewN_drewN _ _ _⟩ | exact ⟨rfl, _, Eq.trans (World.drewN_drewN _ _ _) (congrArg (World.drewN _) (Nat.add_assoc _ _ _))⟩); have p153 : 0 ≤ ((ji15) : Int) := of_decide_eq_true (by first | (with_reducible assumption) | assumption); have q153 : (ji15) < (l0.length : Int) := of_decide_eq_true (by first | (with_reducible assumption) | assumption); obtain ⟨ad153, e153, hx153_0⟩ := Kd.at_int HR0.out (ji15) p153 q153; obtain rfl : ad148 = ad153 := (by injection e153); replace hx153_0 := (HB.out.cell (World.block_lt_of_cell? w _ hx153_0)).trans hx153_0; replace p153 := eq_true p153; replace q153 := eq_true q153; have p154 : 0 ≤ ((ji19) : Int) := of_decide_eq_true (by first | (with_reducible assumption) | assumption); have q154 : (ji19) < (l0.length : Int) := of_decide_eq_true (by first | (with_reducible assumption) | assumption); obtain ⟨ad154, e154, hx154_0⟩ := Kd.at_int HR0.out (ji19) p154 q154; obtain rfl : ad148 = ad154 := (by injection e154); replace hx154_0 := (HB.out.cell (World.block_lt_of_cell? w _ hx154_0)).trans hx154_0; replace p154 := eq_true p154; replace q154 := eq_true q154)))
                  refine bodyPost_ret (results_list (rs := [.tmp 2, .tmp 3, .tmp 4, .tmp 5]) rfl (by simp) (.tmp (.tmp (.tmp (.tmp .nil))))) rfl ?_
                  exact ⟨_, by first | rfl | (simp [errW_none, errW_some] <;> rfl) | (simp only [← hji15, ← hji19]; first | rfl | (simp [errW_none, errW_some] <;> rfl)) | (simp [*, errW_none, errW_some] <;> rfl), by first | exact Kd.R_nil _ _ _ _ _ | exact Kd.N_nil _ _ _ _ _ | exact Kd.V_nil _ _ _ _ _ | exact Kd.Q_nil _ _ _ _ _ | exact Kd.S_nil _ _ _ _ _, by repeat (first | (with_reducible first | exact HB.out | apply below_alloc | apply pw_below_drewN | apply below_drew1) | exact HB.out)⟩
                ·rw [if_neg c21] at H
                 exact absurd H (by simp)
               ·rw [if_neg c20] at H
                exact absurd H (by simp)
              ·rw [if_neg c18] at H
               have c18b0 : ((rd l0 (ji15)) == ((t152) % 256)) = false := beq_eq_false_iff_ne.mpr c18
               have c18b1 : ((rd l0 (ji15)) != ((t152) % 256)) = true := bne_iff_ne.mpr c18
               simp only [Option.some.injEq, Prod.mk.injEq] at H
               obtain ⟨rfl, rfl, rfl, rfl⟩ := H
               have p148 : 0 ≤ (2 : Int) := (by omega)
               have q148 : 2 < (l0.length : Int) := of_decide_eq_true (by first | (with_reducible assumption) | assumption)
               obtain ⟨ad148, e148, hx148_0⟩ := Kd.at_int HR0.out 2 p148 q148
               cases e148
               (try simp only [show (2 : Int).toNat = 2 from rfl, Nat.reduceMul, Nat.reduceEqDiff, Go.Addr.add, ↓reduceIte] at hx148_0)
               have qi148 : (2 < l0.length) = True := eq_true (by omega)
               (try rw [show ((2 : Int)).toNat = 2 from rfl] at hx148_0)
               replace hx148_0 := (HB.out.cell (World.block_lt_of_cell? w _ hx148_0)).trans hx148_0
               replace p148 := eq_true p148
               replace q148 := eq_true q148
               have p149 : 0 ≤ (3 : Int) := (by omega)
               have q149 : 3 < (l0.length : Int) := of_decide_eq_true (by first | (with_reducible assumption) | assumption)
               obtain ⟨ad149, e149, hx149_0⟩ := Kd.at_int HR0.out 3 p149 q149
               obtain rfl : ad148 = ad149 := (by injection e149)
               (try simp only [show (3 : Int).toNat = 3 from rfl, Nat.reduceMul, Nat.reduceEqDiff, Go.Addr.add, ↓reduceIte] at hx149_0)
               have qi149 : (3 < l0.length) = True := eq_true (by omega)
               (try rw [show ((3 : Int)).toNat = 3 from rfl] at hx149_0)
               replace hx149_0 := (HB.out.cell (World.block_lt_of_cell? w _ hx149_0)).trans hx149_0
               replace p149 := eq_true p149
               replace q149 := eq_true q149
               have p150 : 0 ≤ (4 : Int) := (by omega)
               have q150 : 4 < (l0.length : Int) := of_decide_eq_true (by first | (with_reducible assumption) | assumption)
               obtain ⟨ad150, e150, hx150_0⟩ := Kd.at_int HR0.out 4 p150 q150
               obtain rfl : ad148 = ad150 := (by injection e150)
               (try simp only [show (4 : Int).toNat = 4 from rfl, Nat.reduceMul, Nat.reduceEqDiff, Go.Addr.add, ↓reduceIte] at hx150_0)
               have qi150 : (4 < l0.length) = True := eq_true (by omega)
               (try rw [show ((4 : Int)).toNat = 4 from rfl] at hx150_0)
               replace hx150_0 := (HB.out.cell (World.block_lt_of_cell? w _ hx150_0)).trans hx150_0
               replace p150 := eq_true p150
               replace q150 := eq_true q150
               obtain ⟨i041, hi041, _, hsz41, _⟩ := info_parts info5
               obtain ⟨A41, hcut41, hA41, hC41⟩ := print_mid_of (P := Try.prog) (Value.int .u8) 0 22 5 .i64 .i64 Try.underlying22 hi041 hsz41 (some ad148) c0 l0 1 (ji15) (by omega) (by first | omega | exact of_decide_eq_true (by first | (with_reducible assumption) | assumption)) (of_decide_eq_true (by first | (with_reducible assumption) | assumption)) HC0.out
               have HR151 := Aside0.mk (Kd.C_of_reads (h1 := fun _ => rfl) (hA41 _ (Kd.reads_of_C HR0.out)))
               have HC151 := Aside0.mk hC41
               clear hA41 hC41 hi041 hsz41
               go_wp2_with (first | (go_at_call 10; (try rw [show ((ji15) : Int).toNat - 1 = (((l0.take ((ji15) : Int).toNat).drop 1)).length from (by rw [List.length_drop, List.length_take]; omega)]); (with_reducible refine (reefref03_Sum.calls kj1 _ _ ((l0.take ((ji15) : Int).toNat).drop 1) t152 _ ?side1 ?side2 A14.out).mono ?_); (case side1 => repeat (first | exact (Kd.C_below HR151.out HB.out) | (with_reducible refine Kd.C_alloc ?_ _) | (with_reducible refine Kd.C_drewN ?_ _) | (with_reducible refine Kd.C_drew ?_))); (case side2 => exact HC151.out); rintro e w' ⟨rfl, ⟨nd, rfl⟩⟩; (try first | exact ⟨rfl, _, World.drewN_drewN _ _ _⟩ | exact ⟨rfl, _, Eq.trans (World.drewN_drewN _ _ _) (congrArg (World.drewN _) (Nat.add_assoc _ _ _))⟩); have p153 : 0 ≤ ((ji15) : Int) := of_decide_eq_true (by first | (with_reducible assumption) | assumption); have q153 : (ji15) < (l0.length : Int) := of_decide_eq_true (by first | (with_reducible assumption) | assumption); obtain ⟨ad153, e153, hx153_0⟩ := Kd.at_int HR0.out (ji15) p153 q153; obtain rfl : ad148 = ad153 := (by injection e153); replace hx153_0 := (HB.out.cell (World.block_lt_of_cell? w _ hx153_0)).trans hx153_0; replace p153 := eq_true p153; replace q153 := eq_true q153))
               repeat (go_quiet (first | (go_at_call 10; (try rw [show ((ji15) : Int).toNat - 1 = (((l0.take ((ji15) : Int).toNat).drop 1)).length from (by rw [List.length_drop, List.length_take]; omega)]); (with_reducible refine (reefref03_Sum.calls kj1 _ _ ((l0.take ((ji15) : Int).toNat).drop 1) t152 _ ?side1 ?side2 A14.out).mono ?_); (case side1 => repeat (first | exact (Kd.C_below HR151.out HB.out) | (with_reducible refine Kd.C_alloc ?_ _) | (with_reducible refine Kd.C_drewN ?_ _) | (with_reducible refine Kd.C_drew ?_))); (case side2 => exact HC151.out); rintro e w' ⟨rfl, ⟨nd, rfl⟩⟩; (try first | exact ⟨rfl, _, World.drewN_drewN _ _ _⟩ | exact ⟨rfl, _, Eq.trans (World.drewN_drewN _ _ _) (congrArg (World.drewN _) (Nat.add_assoc _ _ _))⟩); have p153 : 0 ≤ ((ji15) : Int) := of_decide_eq_true (by first | (with_reducible assumption) | assumption); have q153 : (ji15) < (l0.length : Int) := of_decide_eq_true (by first | (with_reducible assumption) | assumption); obtain ⟨ad153, e153, hx153_0⟩ := Kd.at_int HR0.out (ji15) p153 q153; obtain rfl : ad148 = ad153 := (by injection e153); replace hx153_0 := (HB.out.cell (World.block_lt_of_cell? w _ hx153_0)).trans hx153_0; replace p153 := eq_true p153; replace q153 := eq_true q153)); try go_wp2_with (first | (go_at_call 10; (try rw [show ((ji15) : Int).toNat - 1 = (((l0.take ((ji15) : Int).toNat).drop 1)).length from (by rw [List.length_drop, List.length_take]; omega)]); (with_reducible refine (reefref03_Sum.calls kj1 _ _ ((l0.take ((ji15) : Int).toNat).drop 1) t152 _ ?side1 ?side2 A14.out).mono ?_); (case side1 => repeat (first | exact (Kd.C_below HR151.out HB.out) | (with_reducible refine Kd.C_alloc ?_ _) | (with_reducible refine Kd.C_drewN ?_ _) | (with_reducible refine Kd.C_drew ?_))); (case side2 => exact HC151.out); rintro e w' ⟨rfl, ⟨nd, rfl⟩⟩; (try first | exact ⟨rfl, _, World.drewN_drewN _ _ _⟩ | exact ⟨rfl, _, Eq.trans (World.drewN_drewN _ _ _) (congrArg (World.drewN _) (Nat.add_assoc _ _ _))⟩); have p153 : 0 ≤ ((ji15) : Int) := of_decide_eq_true (by first | (with_reducible assumption) | assumption); have q153 : (ji15) < (l0.length : Int) := of_decide_eq_true (by first | (with_reducible assumption) | assumption); obtain ⟨ad153, e153, hx153_0⟩ := Kd.at_int HR0.out (ji15) p153 q153; obtain rfl : ad148 = ad153 := (by injection e153); replace hx153_0 := (HB.out.cell (World.block_lt_of_cell? w _ hx153_0)).trans hx153_0; replace p153 := eq_true p153; replace q153 := eq_true q153)))
               refine bodyPost_ret (results_list (rs := [.tmp 2, .tmp 3, .tmp 4, .tmp 5]) rfl (by simp) (.tmp (.tmp (.tmp (.tmp .nil))))) rfl ?_
               exact ⟨_, by first | rfl | (simp [errW_none, errW_some] <;> rfl) | (simp only [← hji15]; first | rfl | (simp [errW_none, errW_some] <;> rfl)) | (simp [*, errW_none, errW_some] <;> rfl), by first | exact Kd.R_nil _ _ _ _ _ | exact Kd.N_nil _ _ _ _ _ | exact Kd.V_nil _ _ _ _ _ | exact Kd.Q_nil _ _ _ _ _ | exact Kd.S_nil _ _ _ _ _, by repeat (first | (with_reducible first | exact HB.out | apply below_alloc | apply pw_below_drewN | apply below_drew1) | exact HB.out)⟩
             ·rw [if_neg c17] at H
              exact absurd H (by simp)
            ·rw [if_neg c16] at H
             exact absurd H (by simp)
           ·rw [if_neg c13] at H
            exact absurd H (by simp)
          ·rw [if_neg c12] at H
           exact absurd H (by simp)
       ·rw [if_neg c9] at H
        exact absurd H (by simp)
      ·rw [if_neg c8] at H
       exact absurd H (by simp)
     ·rw [if_neg c7] at H
      exact absurd H (by simp)

end Go.Proofs.Ytoadflcdpcfibaa.P
