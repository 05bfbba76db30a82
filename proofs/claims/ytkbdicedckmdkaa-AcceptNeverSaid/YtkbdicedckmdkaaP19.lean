-- Printed by gprint.py, a program of this session, over the kit's print.py
import Derived.Test.YtkbdicedckmdkaaP0
import Derived.Test.YtkbdicedckmdkaaP1
import Derived.Test.YtkbdicedckmdkaaP3
import Derived.Test.YtkbdicedckmdkaaContains
namespace Go.Proofs.Ytkbdicedckmdkaa.P
open Go.RowKit Go.Proofs.YtkbdicedckmdkaaW.PrintWords Go.Proofs.YtkbdicedckmdkaaW.PrintLast Go.Proofs.YtkbdicedckmdkaaW.PrintMore
attribute [local go_sem] max2_int min2_int max_two min_two max_three min_three max_four min_four   -- for this text's walks alone
set_option linter.unusedVariables false
set_option linter.unusedSimpArgs false

attribute [local go_sem high] eqA24
/-! ### accept_Fit: function 24 -/
mutual
def accept_Fit.j0 : Nat → Bool → Int → Int → Bool → Int → Int → ByteArray → List ByteArray → Int → Int → Option (Bool)
 | 0, _, _, _, _, _, _, _, _, _, _ => none
 | k + 1, x5, x426000, x426001, x426002, x426003, x426004, x426005, x426006, x427000, x427001 => if x5 = true then (some false) else (if x426002 = true then (accept_Fit.j1 k false x426000 x426001 x426002 x426003 x426004 x426005 x426006) else (if (!(x426003 == x427000) || (!(x426004 == x427001))) = true then (accept_Fit.j1 k true x426000 x426001 x426002 x426003 x426004 x426005 x426006) else (accept_Fit.j1 k (x426005.toList != ([] : List UInt8)) x426000 x426001 x426002 x426003 x426004 x426005 x426006)))
def accept_Fit.j1 : Nat → Bool → Int → Int → Bool → Int → Int → ByteArray → List ByteArray → Option (Bool)
 | 0, _, _, _, _, _, _, _, _ => none
 | k + 1, x16, x426000, x426001, x426002, x426003, x426004, x426005, x426006 => if x16 = true then (some false) else (if x426002 = true then (if x426003 < 1 then (accept_Fit.j2 k true x426000 x426001 x426002 x426003 x426004 x426005 x426006) else ((accept_mon.f x426004).bind fun t428 => (if t428 = true then ((accept_Later.f x426003 x426004 x426000 x426001).bind fun t429 => (if t429 = true then (accept_Fit.j2 k true x426000 x426001 x426002 x426003 x426004 x426005 x426006) else ((accept_value.f x426005).bind fun t430 => (accept_Fit.j2 k (!t430) x426000 x426001 x426002 x426003 x426004 x426005 x426006)))) else (accept_Fit.j2 k true x426000 x426001 x426002 x426003 x426004 x426005 x426006)))) else (accept_Fit.j2 k false x426000 x426001 x426002 x426003 x426004 x426005 x426006))
def accept_Fit.j2 : Nat → Bool → Int → Int → Bool → Int → Int → ByteArray → List ByteArray → Option (Bool)
 | 0, _, _, _, _, _, _, _, _ => none
 | k + 1, x31, x426000, x426001, x426002, x426003, x426004, x426005, x426006 => if x31 = true then (some false) else (if (x426006.length : Int) > 4096 then (some false) else ((slices_ContainsFunc_string_string.f x426006).bind fun t431 => (some (!t431))))
end
def accept_Fit.f (k : Nat) (a0_0 : Int) (a0_1 : Int) (a0_2 : Bool) (a0_3 : Int) (a0_4 : Int) (a0_5 : ByteArray) (l0_6 : List ByteArray) : Option (Bool) := if (!(a0_0 == 0) || (!(a0_1 == 0))) = true then ((accept_ballot.f a0_0 a0_1).bind fun t427 => (accept_Fit.j0 k (!t427) a0_0 a0_1 a0_2 a0_3 a0_4 a0_5 l0_6 0 0)) else (accept_Fit.j0 k false a0_0 a0_1 a0_2 a0_3 a0_4 a0_5 l0_6 0 0)
theorem accept_Fit.mono_l : ∀ k, (∀ y0 y1 y2 y3 y4 y5 y6 y7 y8 y9, LeO (accept_Fit.j0 k y0 y1 y2 y3 y4 y5 y6 y7 y8 y9) (accept_Fit.j0 (k + 1) y0 y1 y2 y3 y4 y5 y6 y7 y8 y9)) ∧ (∀ y0 y1 y2 y3 y4 y5 y6 y7, LeO (accept_Fit.j1 k y0 y1 y2 y3 y4 y5 y6 y7) (accept_Fit.j1 (k + 1) y0 y1 y2 y3 y4 y5 y6 y7)) ∧ (∀ y0 y1 y2 y3 y4 y5 y6 y7, LeO (accept_Fit.j2 k y0 y1 y2 y3 y4 y5 y6 y7) (accept_Fit.j2 (k + 1) y0 y1 y2 y3 y4 y5 y6 y7))
 | 0 => ⟨fun _ _ _ _ _ _ _ _ _ _ r h => by simp [accept_Fit.j0] at h, fun _ _ _ _ _ _ _ _ r h => by simp [accept_Fit.j1] at h, fun _ _ _ _ _ _ _ _ r h => by simp [accept_Fit.j2] at h⟩
 | k + 1 => by
  obtain ⟨ih0, ih1, ih2⟩ := accept_Fit.mono_l k
  refine ⟨?_, ?_, ?_⟩
  ·intro y0 y1 y2 y3 y4 y5 y6 y7 y8 y9
   unfold accept_Fit.j0
   repeat' first
   | (with_reducible exact ih0 _ _ _ _ _ _ _ _ _ _)
   | (with_reducible exact ih1 _ _ _ _ _ _ _ _)
   | (with_reducible exact ih2 _ _ _ _ _ _ _ _)
   | (with_reducible exact LeO.refl _)
   | (with_reducible exact LeO.none _)
   | (with_reducible refine LeO.ite ?_ ?_)
   | (with_reducible refine LeO.bind ?_ (fun _ => ?_))
   | exact ih0 _ _ _ _ _ _ _ _ _ _
   | exact ih1 _ _ _ _ _ _ _ _
   | exact ih2 _ _ _ _ _ _ _ _
   | exact LeO.none _
   | refine LeO.ite ?_ ?_
   | refine LeO.bind ?_ (fun _ => ?_)
  ·intro y0 y1 y2 y3 y4 y5 y6 y7
   unfold accept_Fit.j1
   repeat' first
   | (with_reducible exact ih0 _ _ _ _ _ _ _ _ _ _)
   | (with_reducible exact ih1 _ _ _ _ _ _ _ _)
   | (with_reducible exact ih2 _ _ _ _ _ _ _ _)
   | (with_reducible exact LeO.refl _)
   | (with_reducible exact LeO.none _)
   | (with_reducible refine LeO.ite ?_ ?_)
   | (with_reducible refine LeO.bind ?_ (fun _ => ?_))
   | exact ih0 _ _ _ _ _ _ _ _ _ _
   | exact ih1 _ _ _ _ _ _ _ _
   | exact ih2 _ _ _ _ _ _ _ _
   | exact LeO.none _
   | refine LeO.ite ?_ ?_
   | refine LeO.bind ?_ (fun _ => ?_)
  ·intro y0 y1 y2 y3 y4 y5 y6 y7
   unfold accept_Fit.j2
   repeat' first
   | (with_reducible exact ih0 _ _ _ _ _ _ _ _ _ _)
   | (with_reducible exact ih1 _ _ _ _ _ _ _ _)
   | (with_reducible exact ih2 _ _ _ _ _ _ _ _)
   | (with_reducible exact LeO.refl _)
   | (with_reducible exact LeO.none _)
   | (with_reducible refine LeO.ite ?_ ?_)
   | (with_reducible refine LeO.bind ?_ (fun _ => ?_))
   | exact ih0 _ _ _ _ _ _ _ _ _ _
   | exact ih1 _ _ _ _ _ _ _ _
   | exact ih2 _ _ _ _ _ _ _ _
   | exact LeO.none _
   | refine LeO.ite ?_ ?_
   | refine LeO.bind ?_ (fun _ => ?_)
theorem accept_Fit.mono : ∀ a0 a1 a2 a3 a4 a5 a6 k, LeO (accept_Fit.f k a0 a1 a2 a3 a4 a5 a6) (accept_Fit.f (k + 1) a0 a1 a2 a3 a4 a5 a6) := by
 intro a0 a1 a2 a3 a4 a5 a6 k
 obtain ⟨ih0, ih1, ih2⟩ := accept_Fit.mono_l k
 unfold accept_Fit.f
 repeat' first
   | (with_reducible exact ih0 _ _ _ _ _ _ _ _ _ _)
   | (with_reducible exact ih1 _ _ _ _ _ _ _ _)
   | (with_reducible exact ih2 _ _ _ _ _ _ _ _)
   | (with_reducible exact LeO.refl _)
   | (with_reducible exact LeO.none _)
   | (with_reducible refine LeO.ite ?_ ?_)
   | (with_reducible refine LeO.bind ?_ (fun _ => ?_))
   | exact ih0 _ _ _ _ _ _ _ _ _ _
   | exact ih1 _ _ _ _ _ _ _ _
   | exact ih2 _ _ _ _ _ _ _ _
   | exact LeO.none _
   | refine LeO.ite ?_ ?_
   | refine LeO.bind ?_ (fun _ => ?_)
set_option maxHeartbeats 8000000 in
set_option maxRecDepth 100000 in
theorem accept_Fit.calls (k : Nat) (a0_0 : Int) (a0_1 : Int) (a0_2 : Bool) (a0_3 : Int) (a0_4 : Int) (a0_5 : ByteArray) (A0_6 : Option Addr) (c0_6 : Nat) (l0_6 : List ByteArray) (r : Bool) (w : World) (hr0_6 : Kd.C Kd.string w A0_6 l0_6.length l0_6) (hc0_6 : l0_6.length ≤ c0_6) (h : accept_Fit.f k a0_0 a0_1 a0_2 a0_3 a0_4 a0_5 l0_6 = some r) :
  Calls Try.prog 24 #[.agg #[.int .i64 a0_0, .int .i64 a0_1, .bool a0_2, .int .i64 a0_3, .int .i64 a0_4, .string a0_5, .slice A0_6 l0_6.length c0_6]] w fun e w' => e = .returned (.bool r) ∧ Below w.heap.size w w' := by
 have hu27 := Try.underlying27
 have hu24 := Try.underlying24
 have HR0_6 := Aside0.mk hr0_6
 have HC0_6 := Aside0.mk hc0_6
 clear hr0_6 hc0_6
 have HB := Aside0.mk (Below.refl w.heap.size w)
 have H : (if (!(a0_0 == 0) || (!(a0_1 == 0))) = true then ((accept_ballot.f a0_0 a0_1).bind fun t427 => (accept_Fit.j0 k (!t427) a0_0 a0_1 a0_2 a0_3 a0_4 a0_5 l0_6 0 0)) else (accept_Fit.j0 k false a0_0 a0_1 a0_2 a0_3 a0_4 a0_5 l0_6 0 0)) = some r := h
 clear h
 have HC2 := Aside0.mk H
 clear H
 go_enter Try.func24, Try.ntmps24
 go_upto_region 2 with (first | ((with_reducible refine gate_dst (N := 1) rfl ?_); refine box_event ?hg (N := 1) ?hd (cs := #[.int .i64 a0_0, .int .i64 a0_1, .bool a0_2, .int .i64 a0_3, .int .i64 a0_4, .string a0_5, .slice A0_6 l0_6.length c0_6]) (t := 27) ?hr ?_; (case hd => rfl); (case hg => rfl); (case hr => first | (go_simp; done) | (go_simp; rfl)); intro gb425 hg w3 hbox hb; have n0_ := Aside0.mk (below_step (by repeat (first | (with_reducible first | exact HB.out | apply below_alloc | apply pw_below_drewN | apply below_drew1) | exact HB.out)) hb); have n1_ := Aside0.mk (hbox); have n2_ := Aside0.mk ((by rw [hg]; exact (below_size (by repeat (first | (with_reducible first | exact HB.out | apply below_alloc | apply pw_below_drewN | apply below_drew1) | exact HB.out))) : w.heap.size ≤ gb425)); have n3_ := n2_; clear HB; have HB := n0_; have BK425 := n1_; have GW425 := n2_; have GE425 := n3_; clear n0_ n1_ n2_ n3_; clear hb hbox hg) | ((with_reducible refine gate_dst (N := 3) rfl ?_); refine box_event ?hg (N := 3) ?hd (cs := #[.int .i64 0, .int .i64 0]) (t := 24) ?hr ?_; (case hd => rfl); (case hg => rfl); (case hr => first | (go_simp; done) | (go_simp; rfl)); intro gb426 hg w4 hbox hb; have n0_ := Aside0.mk (blk_below (g := gb425) (o := .cells #[.int .i64 a0_0, .int .i64 a0_1, .bool a0_2, .int .i64 a0_3, .int .i64 a0_4, .string a0_5, .slice A0_6 l0_6.length c0_6] 27 (0, 0)) (by (with_reducible repeat (first | apply bN | apply bD | apply bA)); exact BK425.out) hb); have n1_ := Aside0.mk (below_step (by repeat (first | (with_reducible first | exact HB.out | apply below_alloc | apply pw_below_drewN | apply below_drew1 | refine below_set ?_ GE425.out) | exact HB.out)) hb); have n2_ := Aside0.mk (hbox); have n3_ := Aside0.mk ((by rw [hg]; exact (below_size (by repeat (first | (with_reducible first | exact HB.out | apply below_alloc | apply pw_below_drewN | apply below_drew1 | refine below_set ?_ GE425.out) | exact HB.out))) : w.heap.size ≤ gb426)); have n4_ := n3_; have n5_ := Aside0.mk ((by rw [hg]; exact Nat.ne_of_lt (blk_lt (g := gb425) (o := .cells #[.int .i64 a0_0, .int .i64 a0_1, .bool a0_2, .int .i64 a0_3, .int .i64 a0_4, .string a0_5, .slice A0_6 l0_6.length c0_6] 27 (0, 0)) (by (with_reducible repeat (first | apply bN | apply bD | apply bA)); exact BK425.out)) : gb425 ≠ gb426)); have n6_ := Aside0.mk ((by rw [hg]; exact Nat.ne_of_gt (blk_lt (g := gb425) (o := .cells #[.int .i64 a0_0, .int .i64 a0_1, .bool a0_2, .int .i64 a0_3, .int .i64 a0_4, .string a0_5, .slice A0_6 l0_6.length c0_6] 27 (0, 0)) (by (with_reducible repeat (first | apply bN | apply bD | apply bA)); exact BK425.out)) : gb426 ≠ gb425)); clear BK425; clear HB; have BK425 := n0_; have HB := n1_; have BK426 := n2_; have GW426 := n3_; have GE426 := n4_; have NB425_426 := n5_; have NB426_425 := n6_; clear n0_ n1_ n2_ n3_ n4_ n5_ n6_; clear hb hbox hg; have hnb5 := NB426_425.out; have hnc5 := NB425_426.out; obtain ⟨hcz6_0, hcz6_1⟩ := blkC2 w4 gb426 (.int .i64 0) (.int .i64 0) BK426.out; obtain ⟨hfz6_0, hfz6_1⟩ := blkF2 BK426.out))
 (try simp only [Act.put, List.setIfInBounds_toArray, List.set_cons_zero, List.set_cons_succ])
 go_cut [5] (fun v5 wc => ∃ (kq : Nat) (x5_1 : Bool), v5 = .bool x5_1 ∧ Aside0 (accept_Fit.j0 kq x5_1 a0_0 a0_1 a0_2 a0_3 a0_4 a0_5 l0_6 0 0 = some r) ∧ Aside0 (kq ≤ k) ∧ Aside0 (wc.heap[gb425]? = some (.cells #[.int .i64 a0_0, .int .i64 a0_1, .bool a0_2, .int .i64 a0_3, .int .i64 a0_4, .string a0_5, (.slice A0_6 l0_6.length c0_6)] 27 (0, 0))) ∧ Aside0 (wc.heap[gb426]? = some (.cells #[.int .i64 0, .int .i64 0] 24 (0, 0))) ∧ Aside0 (Below w.heap.size w wc))
 case first =>
  have H := HC2.out
  clear HC2
  by_cases c7 : (!(a0_0 == 0) || (!(a0_1 == 0))) = true
  ·rw [if_pos c7] at H
   have c7b0 : (!(a0_0 == 0) || (!(a0_1 == 0))) = true := c7
   clear c7
   (first | rw [c7b0] | (simp only [i64_w, i32_w]; rw [c7b0]) | skip)
   replace H := Option.bind_eq_some_iff.mp H
   obtain ⟨t427, A80, H⟩ := H
   replace H : (accept_Fit.j0 k (!t427) a0_0 a0_1 a0_2 a0_3 a0_4 a0_5 l0_6 0 0) = some r := H
   have A8 := Aside0.mk A80
   clear A80
   have H' := Aside0.mk H
   clear H
   have hnb9 := NB425_426.out
   have hnc9 := NB426_425.out
   obtain ⟨hcz10_0, hcz10_1, hcz10_2, hcz10_3, hcz10_4, hcz10_5, hcz10_6⟩ := blkC7 w4 gb425 (.int .i64 a0_0) (.int .i64 a0_1) (.bool a0_2) (.int .i64 a0_3) (.int .i64 a0_4) (.string a0_5) (.slice A0_6 l0_6.length c0_6) BK425.out
   obtain ⟨hfz10_0, hfz10_1, hfz10_2, hfz10_3, hfz10_4, hfz10_5, hfz10_6⟩ := blkF7 BK425.out
   obtain ⟨hcz11_0, hcz11_1⟩ := blkC2 w4 gb426 (.int .i64 0) (.int .i64 0) BK426.out
   obtain ⟨hfz11_0, hfz11_1⟩ := blkF2 BK426.out
   go_wp2_with (first | (go_at_call 27; (with_reducible refine (accept_ballot.calls a0_0 a0_1 t427 _ A8.out).mono ?_); rintro e w12 ⟨rfl, hb⟩; have n0_ := Aside0.mk (blk_below (g := gb425) (o := .cells #[.int .i64 a0_0, .int .i64 a0_1, .bool a0_2, .int .i64 a0_3, .int .i64 a0_4, .string a0_5, .slice A0_6 l0_6.length c0_6] 27 (0, 0)) (by (with_reducible repeat (first | apply bN | apply bD | apply bA)); refine blk_far ?_ NB425_426.out _; (with_reducible repeat (first | apply bN | apply bD | apply bA)); refine blk_far ?_ NB425_426.out _; (with_reducible repeat (first | apply bN | apply bD | apply bA)); exact BK425.out) hb); have n1_ := Aside0.mk (blk_below (g := gb426) (o := .cells #[.int .i64 0, .int .i64 0] 24 (0, 0)) (by (with_reducible repeat (first | apply bN | apply bD | apply bA)); refine blk_put (cs := #[.int .i64 0, .int .i64 0]) ?_ 1 _ rfl; (with_reducible repeat (first | apply bN | apply bD | apply bA)); refine blk_put (cs := #[.int .i64 0, .int .i64 0]) ?_ 0 _ rfl; (with_reducible repeat (first | apply bN | apply bD | apply bA)); exact BK426.out) hb); have n2_ := Aside0.mk (below_step (by repeat (first | (with_reducible first | exact HB.out | apply below_alloc | apply pw_below_drewN | apply below_drew1 | refine below_set ?_ (Aside0.out ‹_›)) | exact HB.out)) hb); clear BK425; clear BK426; clear HB; have BK425 := n0_; have BK426 := n1_; have HB := n2_; clear n0_ n1_ n2_; (try clear hb); (try clear hb2); (try clear hk); (try clear hi)))
   go_meet
   case rel => exact ⟨_, (!t427), (by first | rfl | (simp; done) | (simp [*]; done)), H', ⟨by first | omega | exact Nat.le_refl _⟩, ⟨by (with_reducible repeat (first | apply bN | apply bD | apply bA)); exact BK425.out⟩, ⟨by (with_reducible repeat (first | apply bN | apply bD | apply bA)); exact BK426.out⟩, ⟨by repeat (first | (with_reducible first | exact HB.out | apply below_alloc | apply pw_below_drewN | apply below_drew1 | refine below_set ?_ (Aside0.out ‹_›)) | exact HB.out)⟩⟩
  ·rw [if_neg c7] at H
   have c7b0 : (!(a0_0 == 0) || (!(a0_1 == 0))) = false := by simpa using c7
   clear c7
   (first | rw [c7b0] | (simp only [i64_w, i32_w]; rw [c7b0]) | skip)
   have H' := Aside0.mk H
   clear H
   have hnb13 := NB425_426.out
   have hnc13 := NB426_425.out
   obtain ⟨hcz14_0, hcz14_1, hcz14_2, hcz14_3, hcz14_4, hcz14_5, hcz14_6⟩ := blkC7 w4 gb425 (.int .i64 a0_0) (.int .i64 a0_1) (.bool a0_2) (.int .i64 a0_3) (.int .i64 a0_4) (.string a0_5) (.slice A0_6 l0_6.length c0_6) BK425.out
   obtain ⟨hfz14_0, hfz14_1, hfz14_2, hfz14_3, hfz14_4, hfz14_5, hfz14_6⟩ := blkF7 BK425.out
   obtain ⟨hcz15_0, hcz15_1⟩ := blkC2 w4 gb426 (.int .i64 0) (.int .i64 0) BK426.out
   obtain ⟨hfz15_0, hfz15_1⟩ := blkF2 BK426.out
   go_wp2
   go_meet
   case rel => exact ⟨_, (false), (by first | rfl | (simp; done) | (simp [*]; done)), H', ⟨by first | omega | exact Nat.le_refl _⟩, ⟨by (with_reducible repeat (first | apply bN | apply bD | apply bA)); refine blk_far ?_ NB425_426.out _; (with_reducible repeat (first | apply bN | apply bD | apply bA)); refine blk_far ?_ NB425_426.out _; (with_reducible repeat (first | apply bN | apply bD | apply bA)); exact BK425.out⟩, ⟨by (with_reducible repeat (first | apply bN | apply bD | apply bA)); refine blk_put (cs := #[.int .i64 0, .int .i64 0]) ?_ 1 _ rfl; (with_reducible repeat (first | apply bN | apply bD | apply bA)); refine blk_put (cs := #[.int .i64 0, .int .i64 0]) ?_ 0 _ rfl; (with_reducible repeat (first | apply bN | apply bD | apply bA)); exact BK426.out⟩, ⟨by repeat (first | (with_reducible first | exact HB.out | apply below_alloc | apply pw_below_drewN | apply below_drew1 | refine below_set ?_ (Aside0.out ‹_›)) | exact HB.out)⟩⟩
 case rest =>
  clear HC2
  try clear c1
  try clear c2
  try clear p2
  try clear c5
  try clear c7
  try clear c7b0
  try clear c9
  try clear c13
  try clear hcz10_0 hcz10_1 hcz10_2 hcz10_3 hcz10_4 hcz10_5 hcz10_6
  try clear hcz11_0 hcz11_1
  try clear hcz14_0 hcz14_1 hcz14_2 hcz14_3 hcz14_4 hcz14_5 hcz14_6
  try clear hcz15_0 hcz15_1
  try clear hcz6_0 hcz6_1
  try clear hfz10_0 hfz10_1 hfz10_2 hfz10_3 hfz10_4 hfz10_5 hfz10_6
  try clear hfz11_0 hfz11_1
  try clear hfz14_0 hfz14_1 hfz14_2 hfz14_3 hfz14_4 hfz14_5 hfz14_6
  try clear hfz15_0 hfz15_1
  try clear hfz6_0 hfz6_1
  obtain ⟨kq, x5_1, rfl, HA, HJ1, BK425, BK426, HB⟩ := hcut
  cases kq with
  | zero => exact absurd HA.out (by simp [accept_Fit.j0])
  | succ kj1 =>
   have H := HA.out
   clear HA
   simp only [accept_Fit.j0] at H
   by_cases c16 : x5_1 = true
   ·subst c16
    have H1 : (some false) = some r := by rw [if_pos rfl] at H; exact H
    clear H
    have H := H1
    clear H1
    obtain rfl := Option.some.inj H
    go_wp2
    go_ret
    exact ⟨by first | rfl | (simp [errW_none, errW_some] <;> rfl) | (simp [*, errW_none, errW_some] <;> rfl), by repeat (first | (with_reducible first | exact HB.out | apply below_alloc | apply pw_below_drewN | apply below_drew1 | refine below_set ?_ (Aside0.out ‹_›)) | exact HB.out)⟩
   ·replace c16 := Bool.eq_false_iff.mpr c16
    subst c16
    have H1 : (if a0_2 = true then (accept_Fit.j1 kj1 false a0_0 a0_1 a0_2 a0_3 a0_4 a0_5 l0_6) else (if (!(a0_3 == 0) || (!(a0_4 == 0))) = true then (accept_Fit.j1 kj1 true a0_0 a0_1 a0_2 a0_3 a0_4 a0_5 l0_6) else (accept_Fit.j1 kj1 (a0_5.toList != ([] : List UInt8)) a0_0 a0_1 a0_2 a0_3 a0_4 a0_5 l0_6))) = some r := by rw [if_neg (show ¬ (false = true) by decide)] at H; exact H
    clear H
    have H := H1
    clear H1
    have HC17 := Aside0.mk H
    clear H
    go_upto_region 4 with (fail)
    go_cut [16] (fun v16 wc => ∃ (kq : Nat) (x16_16 : Bool), v16 = .bool x16_16 ∧ Aside0 (accept_Fit.j1 kq x16_16 a0_0 a0_1 a0_2 a0_3 a0_4 a0_5 l0_6 = some r) ∧ Aside0 (kq ≤ kj1) ∧ Aside0 (wc.heap[gb425]? = some (.cells #[.int .i64 a0_0, .int .i64 a0_1, .bool a0_2, .int .i64 a0_3, .int .i64 a0_4, .string a0_5, (.slice A0_6 l0_6.length c0_6)] 27 (0, 0))) ∧ Aside0 (wc.heap[gb426]? = some (.cells #[.int .i64 0, .int .i64 0] 24 (0, 0))) ∧ Aside0 (Below w.heap.size w wc))
    case first =>
     have H := HC17.out
     clear HC17
     by_cases c18 : a0_2 = true
     ·subst c18
      have H1 : (accept_Fit.j1 kj1 false a0_0 a0_1 true a0_3 a0_4 a0_5 l0_6) = some r := by rw [if_pos rfl] at H; exact H
      clear H
      have H := H1
      clear H1
      have H' := Aside0.mk H
      clear H
      have hnb19 := NB425_426.out
      have hnc19 := NB426_425.out
      obtain ⟨hcz20_0, hcz20_1, hcz20_2, hcz20_3, hcz20_4, hcz20_5, hcz20_6⟩ := blkC7 wc gb425 (.int .i64 a0_0) (.int .i64 a0_1) (.bool true) (.int .i64 a0_3) (.int .i64 a0_4) (.string a0_5) (.slice A0_6 l0_6.length c0_6) BK425.out
      obtain ⟨hfz20_0, hfz20_1, hfz20_2, hfz20_3, hfz20_4, hfz20_5, hfz20_6⟩ := blkF7 BK425.out
      go_wp2
      go_meet
      case rel => exact ⟨_, (false), (by first | rfl | (simp; done) | (simp [*]; done)), H', ⟨by have := HJ1.out; first | omega | exact Nat.le_refl _⟩, ⟨by (with_reducible repeat (first | apply bN | apply bD | apply bA)); exact BK425.out⟩, ⟨by (with_reducible repeat (first | apply bN | apply bD | apply bA)); exact BK426.out⟩, ⟨by repeat (first | (with_reducible first | exact HB.out | apply below_alloc | apply pw_below_drewN | apply below_drew1 | refine below_set ?_ (Aside0.out ‹_›)) | exact HB.out)⟩⟩
     ·replace c18 := Bool.eq_false_iff.mpr c18
      subst c18
      have H1 : (if (!(a0_3 == 0) || (!(a0_4 == 0))) = true then (accept_Fit.j1 kj1 true a0_0 a0_1 false a0_3 a0_4 a0_5 l0_6) else (accept_Fit.j1 kj1 (a0_5.toList != ([] : List UInt8)) a0_0 a0_1 false a0_3 a0_4 a0_5 l0_6)) = some r := by rw [if_neg (show ¬ (false = true) by decide)] at H; exact H
      clear H
      have H := H1
      clear H1
      by_cases c21 : (!(a0_3 == 0) || (!(a0_4 == 0))) = true
      ·rw [if_pos c21] at H
       have c21b0 : (!(a0_3 == 0) || (!(a0_4 == 0))) = true := c21
       clear c21
       (first | rw [c21b0] | (simp only [i64_w, i32_w]; rw [c21b0]) | skip)
       have H' := Aside0.mk H
       clear H
       have hnb22 := NB425_426.out
       have hnc22 := NB426_425.out
       obtain ⟨hcz23_0, hcz23_1, hcz23_2, hcz23_3, hcz23_4, hcz23_5, hcz23_6⟩ := blkC7 wc gb425 (.int .i64 a0_0) (.int .i64 a0_1) (.bool false) (.int .i64 a0_3) (.int .i64 a0_4) (.string a0_5) (.slice A0_6 l0_6.length c0_6) BK425.out
       obtain ⟨hfz23_0, hfz23_1, hfz23_2, hfz23_3, hfz23_4, hfz23_5, hfz23_6⟩ := blkF7 BK425.out
       obtain ⟨hcz24_0, hcz24_1⟩ := blkC2 wc gb426 (.int .i64 0) (.int .i64 0) BK426.out
       obtain ⟨hfz24_0, hfz24_1⟩ := blkF2 BK426.out
       go_wp2
       go_meet
       case rel => exact ⟨_, (true), (by first | rfl | (simp; done) | (simp [*]; done)), H', ⟨by have := HJ1.out; first | omega | exact Nat.le_refl _⟩, ⟨by (with_reducible repeat (first | apply bN | apply bD | apply bA)); exact BK425.out⟩, ⟨by (with_reducible repeat (first | apply bN | apply bD | apply bA)); exact BK426.out⟩, ⟨by repeat (first | (with_reducible first | exact HB.out | apply below_alloc | apply pw_below_drewN | apply below_drew1 | refine below_set ?_ (Aside0.out ‹_›)) | exact HB.out)⟩⟩
      ·rw [if_neg c21] at H
       have c21b0 : (!(a0_3 == 0) || (!(a0_4 == 0))) = false := by simpa using c21
       clear c21
       (first | rw [c21b0] | (simp only [i64_w, i32_w]; rw [c21b0]) | skip)
       have H' := Aside0.mk H
       clear H
       have hnb25 := NB425_426.out
       have hnc25 := NB426_425.out
       obtain ⟨hcz26_0, hcz26_1, hcz26_2, hcz26_3, hcz26_4, hcz26_5, hcz26_6⟩ := blkC7 wc gb425 (.int .i64 a0_0) (.int .i64 a0_1) (.bool false) (.int .i64 a0_3) (.int .i64 a0_4) (.string a0_5) (.slice A0_6 l0_6.length c0_6) BK425.out
       obtain ⟨hfz26_0, hfz26_1, hfz26_2, hfz26_3, hfz26_4, hfz26_5, hfz26_6⟩ := blkF7 BK425.out
       obtain ⟨hcz27_0, hcz27_1⟩ := blkC2 wc gb426 (.int .i64 0) (.int .i64 0) BK426.out
       obtain ⟨hfz27_0, hfz27_1⟩ := blkF2 BK426.out
       go_wp2
       go_meet
       case rel => exact ⟨_, ((a0_5.toList != ([] : List UInt8))), (by first | rfl | exact congrArg Value.bool (isEmpty_ne _) | (simp; done) | (simp [*]; done)), H', ⟨by have := HJ1.out; first | omega | exact Nat.le_refl _⟩, ⟨by (with_reducible repeat (first | apply bN | apply bD | apply bA)); exact BK425.out⟩, ⟨by (with_reducible repeat (first | apply bN | apply bD | apply bA)); exact BK426.out⟩, ⟨by repeat (first | (with_reducible first | exact HB.out | apply below_alloc | apply pw_below_drewN | apply below_drew1 | refine below_set ?_ (Aside0.out ‹_›)) | exact HB.out)⟩⟩
    case rest =>
     clear HC17
     try clear c1
     try clear c2
     try clear p2
     try clear c5
     try clear c7
     try clear c7b0
     try clear c9
     try clear c13
     try clear c16
     try clear c18
     try clear c19
     try clear c21
     try clear c21b0
     try clear c22
     try clear c24
     try clear c25
     try clear hcz10_0 hcz10_1 hcz10_2 hcz10_3 hcz10_4 hcz10_5 hcz10_6
     try clear hcz11_0 hcz11_1
     try clear hcz14_0 hcz14_1 hcz14_2 hcz14_3 hcz14_4 hcz14_5 hcz14_6
     try clear hcz15_0 hcz15_1
     try clear hcz20_0 hcz20_1 hcz20_2 hcz20_3 hcz20_4 hcz20_5 hcz20_6
     try clear hcz23_0 hcz23_1 hcz23_2 hcz23_3 hcz23_4 hcz23_5 hcz23_6
     try clear hcz24_0 hcz24_1
     try clear hcz26_0 hcz26_1 hcz26_2 hcz26_3 hcz26_4 hcz26_5 hcz26_6
     try clear hcz27_0 hcz27_1
     try clear hcz6_0 hcz6_1
     try clear hfz10_0 hfz10_1 hfz10_2 hfz10_3 hfz10_4 hfz10_5 hfz10_6
     try clear hfz11_0 hfz11_1
     try clear hfz14_0 hfz14_1 hfz14_2 hfz14_3 hfz14_4 hfz14_5 hfz14_6
     try clear hfz15_0 hfz15_1
     try clear hfz20_0 hfz20_1 hfz20_2 hfz20_3 hfz20_4 hfz20_5 hfz20_6
     try clear hfz23_0 hfz23_1 hfz23_2 hfz23_3 hfz23_4 hfz23_5 hfz23_6
     try clear hfz24_0 hfz24_1
     try clear hfz26_0 hfz26_1 hfz26_2 hfz26_3 hfz26_4 hfz26_5 hfz26_6
     try clear hfz27_0 hfz27_1
     try clear hfz6_0 hfz6_1
     try clear p2
     obtain ⟨kq, x16_16, rfl, HA, HJ16, BK425, BK426, HB⟩ := hcut
     cases kq with
     | zero => exact absurd HA.out (by simp [accept_Fit.j1])
     | succ kj16 =>
      have H := HA.out
      clear HA
      simp only [accept_Fit.j1] at H
      by_cases c28 : x16_16 = true
      ·subst c28
       have H1 : (some false) = some r := by rw [if_pos rfl] at H; exact H
       clear H
       have H := H1
       clear H1
       obtain rfl := Option.some.inj H
       go_wp2
       go_ret
       exact ⟨by first | rfl | (simp [errW_none, errW_some] <;> rfl) | (simp [*, errW_none, errW_some] <;> rfl), by repeat (first | (with_reducible first | exact HB.out | apply below_alloc | apply pw_below_drewN | apply below_drew1 | refine below_set ?_ (Aside0.out ‹_›)) | exact HB.out)⟩
      ·replace c28 := Bool.eq_false_iff.mpr c28
       subst c28
       have H1 : (if a0_2 = true then (if a0_3 < 1 then (accept_Fit.j2 kj16 true a0_0 a0_1 a0_2 a0_3 a0_4 a0_5 l0_6) else ((accept_mon.f a0_4).bind fun t428 => (if t428 = true then ((accept_Later.f a0_3 a0_4 a0_0 a0_1).bind fun t429 => (if t429 = true then (accept_Fit.j2 kj16 true a0_0 a0_1 a0_2 a0_3 a0_4 a0_5 l0_6) else ((accept_value.f a0_5).bind fun t430 => (accept_Fit.j2 kj16 (!t430) a0_0 a0_1 a0_2 a0_3 a0_4 a0_5 l0_6)))) else (accept_Fit.j2 kj16 true a0_0 a0_1 a0_2 a0_3 a0_4 a0_5 l0_6)))) else (accept_Fit.j2 kj16 false a0_0 a0_1 a0_2 a0_3 a0_4 a0_5 l0_6)) = some r := by rw [if_neg (show ¬ (false = true) by decide)] at H; exact H
       clear H
       have H := H1
       clear H1
       have HC29 := Aside0.mk H
       clear H
       go_upto_region 6 with (fail)
       go_cut [31] (fun v31 wc => ∃ (kq : Nat) (x31_28 : Bool), v31 = .bool x31_28 ∧ Aside0 (accept_Fit.j2 kq x31_28 a0_0 a0_1 a0_2 a0_3 a0_4 a0_5 l0_6 = some r) ∧ Aside0 (kq ≤ kj16) ∧ Aside0 (wc.heap[gb425]? = some (.cells #[.int .i64 a0_0, .int .i64 a0_1, .bool a0_2, .int .i64 a0_3, .int .i64 a0_4, .string a0_5, (.slice A0_6 l0_6.length c0_6)] 27 (0, 0))) ∧ Aside0 (wc.heap[gb426]? = some (.cells #[.int .i64 0, .int .i64 0] 24 (0, 0))) ∧ Aside0 (Below w.heap.size w wc))
       case first =>
        have H := HC29.out
        clear HC29
        by_cases c30 : a0_2 = true
        ·subst c30
         have H1 : (if a0_3 < 1 then (accept_Fit.j2 kj16 true a0_0 a0_1 true a0_3 a0_4 a0_5 l0_6) else ((accept_mon.f a0_4).bind fun t428 => (if t428 = true then ((accept_Later.f a0_3 a0_4 a0_0 a0_1).bind fun t429 => (if t429 = true then (accept_Fit.j2 kj16 true a0_0 a0_1 true a0_3 a0_4 a0_5 l0_6) else ((accept_value.f a0_5).bind fun t430 => (accept_Fit.j2 kj16 (!t430) a0_0 a0_1 true a0_3 a0_4 a0_5 l0_6)))) else (accept_Fit.j2 kj16 true a0_0 a0_1 true a0_3 a0_4 a0_5 l0_6)))) = some r := by rw [if_pos rfl] at H; exact H
         clear H
         have H := H1
         clear H1
         by_cases c31 : a0_3 < 1
         ·rw [if_pos c31] at H
          have c31b0 : decide (a0_3 < 1) = true := decide_eq_true c31
          clear c31
          (first | rw [c31b0] | (simp only [i64_w, i32_w]; rw [c31b0]) | skip)
          have H' := Aside0.mk H
          clear H
          have hnb32 := NB425_426.out
          have hnc32 := NB426_425.out
          obtain ⟨hcz33_0, hcz33_1, hcz33_2, hcz33_3, hcz33_4, hcz33_5, hcz33_6⟩ := blkC7 wc gb425 (.int .i64 a0_0) (.int .i64 a0_1) (.bool true) (.int .i64 a0_3) (.int .i64 a0_4) (.string a0_5) (.slice A0_6 l0_6.length c0_6) BK425.out
          obtain ⟨hfz33_0, hfz33_1, hfz33_2, hfz33_3, hfz33_4, hfz33_5, hfz33_6⟩ := blkF7 BK425.out
          go_wp2
          go_meet
          case rel => exact ⟨_, (true), (by first | rfl | (simp; done) | (simp [*]; done)), H', ⟨by have := HJ1.out; have := HJ16.out; first | omega | exact Nat.le_refl _⟩, ⟨by (with_reducible repeat (first | apply bN | apply bD | apply bA)); exact BK425.out⟩, ⟨by (with_reducible repeat (first | apply bN | apply bD | apply bA)); exact BK426.out⟩, ⟨by repeat (first | (with_reducible first | exact HB.out | apply below_alloc | apply pw_below_drewN | apply below_drew1 | refine below_set ?_ (Aside0.out ‹_›)) | exact HB.out)⟩⟩
         ·rw [if_neg c31] at H
          have c31b0 : decide (a0_3 < 1) = false := decide_eq_false c31
          clear c31
          (first | rw [c31b0] | (simp only [i64_w, i32_w]; rw [c31b0]) | skip)
          replace H := Option.bind_eq_some_iff.mp H
          obtain ⟨t428, A340, H⟩ := H
          replace H : (if t428 = true then ((accept_Later.f a0_3 a0_4 a0_0 a0_1).bind fun t429 => (if t429 = true then (accept_Fit.j2 kj16 true a0_0 a0_1 true a0_3 a0_4 a0_5 l0_6) else ((accept_value.f a0_5).bind fun t430 => (accept_Fit.j2 kj16 (!t430) a0_0 a0_1 true a0_3 a0_4 a0_5 l0_6)))) else (accept_Fit.j2 kj16 true a0_0 a0_1 true a0_3 a0_4 a0_5 l0_6)) = some r := H
          have A34 := Aside0.mk A340
          clear A340
          by_cases c35 : t428 = true
          ·subst c35
           have H1 : ((accept_Later.f a0_3 a0_4 a0_0 a0_1).bind fun t429 => (if t429 = true then (accept_Fit.j2 kj16 true a0_0 a0_1 true a0_3 a0_4 a0_5 l0_6) else ((accept_value.f a0_5).bind fun t430 => (accept_Fit.j2 kj16 (!t430) a0_0 a0_1 true a0_3 a0_4 a0_5 l0_6)))) = some r := by rw [if_pos rfl] at H; exact H
           clear H
           have H := H1
           clear H1
           replace H := Option.bind_eq_some_iff.mp H
           obtain ⟨t429, A360, H⟩ := H
           replace H : (if t429 = true then (accept_Fit.j2 kj16 true a0_0 a0_1 true a0_3 a0_4 a0_5 l0_6) else ((accept_value.f a0_5).bind fun t430 => (accept_Fit.j2 kj16 (!t430) a0_0 a0_1 true a0_3 a0_4 a0_5 l0_6))) = some r := H
           have A36 := Aside0.mk A360
           clear A360
           by_cases c37 : t429 = true
           ·subst c37
            have H1 : (accept_Fit.j2 kj16 true a0_0 a0_1 true a0_3 a0_4 a0_5 l0_6) = some r := by rw [if_pos rfl] at H; exact H
            clear H
            have H := H1
            clear H1
            have H' := Aside0.mk H
            clear H
            have hnb38 := NB425_426.out
            have hnc38 := NB426_425.out
            obtain ⟨hcz39_0, hcz39_1, hcz39_2, hcz39_3, hcz39_4, hcz39_5, hcz39_6⟩ := blkC7 wc gb425 (.int .i64 a0_0) (.int .i64 a0_1) (.bool true) (.int .i64 a0_3) (.int .i64 a0_4) (.string a0_5) (.slice A0_6 l0_6.length c0_6) BK425.out
            obtain ⟨hfz39_0, hfz39_1, hfz39_2, hfz39_3, hfz39_4, hfz39_5, hfz39_6⟩ := blkF7 BK425.out
            go_wp2_with (first | (go_at_call 34; (with_reducible refine (accept_mon.calls a0_4 true _ A34.out).mono ?_); rintro e w' ⟨rfl, ⟨nd, rfl⟩⟩) | (go_at_call 25; (with_reducible refine (accept_Later.calls a0_3 a0_4 a0_0 a0_1 true _ A36.out).mono ?_); rintro e w40 ⟨rfl, hb⟩; have n0_ := Aside0.mk (blk_below (g := gb425) (o := .cells #[.int .i64 a0_0, .int .i64 a0_1, .bool true, .int .i64 a0_3, .int .i64 a0_4, .string a0_5, .slice A0_6 l0_6.length c0_6] 27 (0, 0)) (by (with_reducible repeat (first | apply bN | apply bD | apply bA)); exact BK425.out) hb); have n1_ := Aside0.mk (blk_below (g := gb426) (o := .cells #[.int .i64 0, .int .i64 0] 24 (0, 0)) (by (with_reducible repeat (first | apply bN | apply bD | apply bA)); exact BK426.out) hb); have n2_ := Aside0.mk (below_step (by repeat (first | (with_reducible first | exact HB.out | apply below_alloc | apply pw_below_drewN | apply below_drew1 | refine below_set ?_ (Aside0.out ‹_›)) | exact HB.out)) hb); clear BK425; clear BK426; clear HB; have BK425 := n0_; have BK426 := n1_; have HB := n2_; clear n0_ n1_ n2_; (try clear hb); (try clear hb2); (try clear hk); (try clear hi)))
            go_meet
            case rel => exact ⟨_, (true), (by first | rfl | (simp; done) | (simp [*]; done)), H', ⟨by have := HJ1.out; have := HJ16.out; first | omega | exact Nat.le_refl _⟩, ⟨by (with_reducible repeat (first | apply bN | apply bD | apply bA)); exact BK425.out⟩, ⟨by (with_reducible repeat (first | apply bN | apply bD | apply bA)); exact BK426.out⟩, ⟨by repeat (first | (with_reducible first | exact HB.out | apply below_alloc | apply pw_below_drewN | apply below_drew1 | refine below_set ?_ (Aside0.out ‹_›)) | exact HB.out)⟩⟩
           ·replace c37 := Bool.eq_false_iff.mpr c37
            subst c37
            have H1 : ((accept_value.f a0_5).bind fun t430 => (accept_Fit.j2 kj16 (!t430) a0_0 a0_1 true a0_3 a0_4 a0_5 l0_6)) = some r := by rw [if_neg (show ¬ (false = true) by decide)] at H; exact H
            clear H
            have H := H1
            clear H1
            replace H := Option.bind_eq_some_iff.mp H
            obtain ⟨t430, A410, H⟩ := H
            replace H : (accept_Fit.j2 kj16 (!t430) a0_0 a0_1 true a0_3 a0_4 a0_5 l0_6) = some r := H
            have A41 := Aside0.mk A410
            clear A410
            have H' := Aside0.mk H
            clear H
            have hnb42 := NB425_426.out
            have hnc42 := NB426_425.out
            obtain ⟨hcz43_0, hcz43_1, hcz43_2, hcz43_3, hcz43_4, hcz43_5, hcz43_6⟩ := blkC7 wc gb425 (.int .i64 a0_0) (.int .i64 a0_1) (.bool true) (.int .i64 a0_3) (.int .i64 a0_4) (.string a0_5) (.slice A0_6 l0_6.length c0_6) BK425.out
            obtain ⟨hfz43_0, hfz43_1, hfz43_2, hfz43_3, hfz43_4, hfz43_5, hfz43_6⟩ := blkF7 BK425.out
            go_wp2_with (first | (go_at_call 34; (with_reducible refine (accept_mon.calls a0_4 true _ A34.out).mono ?_); rintro e w' ⟨rfl, ⟨nd, rfl⟩⟩) | (go_at_call 25; (with_reducible refine (accept_Later.calls a0_3 a0_4 a0_0 a0_1 false _ A36.out).mono ?_); rintro e w44 ⟨rfl, hb⟩; have n0_ := Aside0.mk (blk_below (g := gb425) (o := .cells #[.int .i64 a0_0, .int .i64 a0_1, .bool true, .int .i64 a0_3, .int .i64 a0_4, .string a0_5, .slice A0_6 l0_6.length c0_6] 27 (0, 0)) (by (with_reducible repeat (first | apply bN | apply bD | apply bA)); exact BK425.out) hb); have n1_ := Aside0.mk (blk_below (g := gb426) (o := .cells #[.int .i64 0, .int .i64 0] 24 (0, 0)) (by (with_reducible repeat (first | apply bN | apply bD | apply bA)); exact BK426.out) hb); have n2_ := Aside0.mk (below_step (by repeat (first | (with_reducible first | exact HB.out | apply below_alloc | apply pw_below_drewN | apply below_drew1 | refine below_set ?_ (Aside0.out ‹_›)) | exact HB.out)) hb); clear BK425; clear BK426; clear HB; have BK425 := n0_; have BK426 := n1_; have HB := n2_; clear n0_ n1_ n2_; (try clear hb); (try clear hb2); (try clear hk); (try clear hi); obtain ⟨hcz45_0, hcz45_1, hcz45_2, hcz45_3, hcz45_4, hcz45_5, hcz45_6⟩ := blkC7 w44 gb425 (.int .i64 a0_0) (.int .i64 a0_1) (.bool true) (.int .i64 a0_3) (.int .i64 a0_4) (.string a0_5) (.slice A0_6 l0_6.length c0_6) BK425.out; obtain ⟨hfz45_0, hfz45_1, hfz45_2, hfz45_3, hfz45_4, hfz45_5, hfz45_6⟩ := blkF7 BK425.out) | (go_at_call 30; (with_reducible refine (accept_value.calls a0_5 t430 _ A41.out).mono ?_); rintro e w' ⟨rfl, ⟨nd, rfl⟩⟩))
            go_meet
            case rel => exact ⟨_, (!t430), (by first | rfl | (simp; done) | (simp [*]; done)), H', ⟨by have := HJ1.out; have := HJ16.out; first | omega | exact Nat.le_refl _⟩, ⟨by (with_reducible repeat (first | apply bN | apply bD | apply bA)); exact BK425.out⟩, ⟨by (with_reducible repeat (first | apply bN | apply bD | apply bA)); exact BK426.out⟩, ⟨by repeat (first | (with_reducible first | exact HB.out | apply below_alloc | apply pw_below_drewN | apply below_drew1 | refine below_set ?_ (Aside0.out ‹_›)) | exact HB.out)⟩⟩
          ·replace c35 := Bool.eq_false_iff.mpr c35
           subst c35
           have H1 : (accept_Fit.j2 kj16 true a0_0 a0_1 true a0_3 a0_4 a0_5 l0_6) = some r := by rw [if_neg (show ¬ (false = true) by decide)] at H; exact H
           clear H
           have H := H1
           clear H1
           have H' := Aside0.mk H
           clear H
           have hnb46 := NB425_426.out
           have hnc46 := NB426_425.out
           obtain ⟨hcz47_0, hcz47_1, hcz47_2, hcz47_3, hcz47_4, hcz47_5, hcz47_6⟩ := blkC7 wc gb425 (.int .i64 a0_0) (.int .i64 a0_1) (.bool true) (.int .i64 a0_3) (.int .i64 a0_4) (.string a0_5) (.slice A0_6 l0_6.length c0_6) BK425.out
           obtain ⟨hfz47_0, hfz47_1, hfz47_2, hfz47_3, hfz47_4, hfz47_5, hfz47_6⟩ := blkF7 BK425.out
           go_wp2_with (first | (go_at_call 34; (with_reducible refine (accept_mon.calls a0_4 false _ A34.out).mono ?_); rintro e w' ⟨rfl, ⟨nd, rfl⟩⟩))
           go_meet
           case rel => exact ⟨_, (true), (by first | rfl | (simp; done) | (simp [*]; done)), H', ⟨by have := HJ1.out; have := HJ16.out; first | omega | exact Nat.le_refl _⟩, ⟨by (with_reducible repeat (first | apply bN | apply bD | apply bA)); exact BK425.out⟩, ⟨by (with_reducible repeat (first | apply bN | apply bD | apply bA)); exact BK426.out⟩, ⟨by repeat (first | (with_reducible first | exact HB.out | apply below_alloc | apply pw_below_drewN | apply below_drew1 | refine below_set ?_ (Aside0.out ‹_›)) | exact HB.out)⟩⟩
        ·replace c30 := Bool.eq_false_iff.mpr c30
         subst c30
         have H1 : (accept_Fit.j2 kj16 false a0_0 a0_1 false a0_3 a0_4 a0_5 l0_6) = some r := by rw [if_neg (show ¬ (false = true) by decide)] at H; exact H
         clear H
         have H := H1
         clear H1
         have H' := Aside0.mk H
         clear H
         have hnb48 := NB425_426.out
         have hnc48 := NB426_425.out
         obtain ⟨hcz49_0, hcz49_1, hcz49_2, hcz49_3, hcz49_4, hcz49_5, hcz49_6⟩ := blkC7 wc gb425 (.int .i64 a0_0) (.int .i64 a0_1) (.bool false) (.int .i64 a0_3) (.int .i64 a0_4) (.string a0_5) (.slice A0_6 l0_6.length c0_6) BK425.out
         obtain ⟨hfz49_0, hfz49_1, hfz49_2, hfz49_3, hfz49_4, hfz49_5, hfz49_6⟩ := blkF7 BK425.out
         go_wp2
         go_meet
         case rel => exact ⟨_, (false), (by first | rfl | (simp; done) | (simp [*]; done)), H', ⟨by have := HJ1.out; have := HJ16.out; first | omega | exact Nat.le_refl _⟩, ⟨by (with_reducible repeat (first | apply bN | apply bD | apply bA)); exact BK425.out⟩, ⟨by (with_reducible repeat (first | apply bN | apply bD | apply bA)); exact BK426.out⟩, ⟨by repeat (first | (with_reducible first | exact HB.out | apply below_alloc | apply pw_below_drewN | apply below_drew1 | refine below_set ?_ (Aside0.out ‹_›)) | exact HB.out)⟩⟩
       case rest =>
        clear HC29
        try clear c1
        try clear c2
        try clear p2
        try clear c3
        try clear c4
        try clear c5
        try clear c7
        try clear c7b0
        try clear c9
        try clear c13
        try clear c16
        try clear c18
        try clear c19
        try clear c21
        try clear c21b0
        try clear c22
        try clear c24
        try clear c25
        try clear c28
        try clear c30
        try clear c31
        try clear c31b0
        try clear c32
        try clear c35
        try clear c37
        try clear c38
        try clear c42
        try clear c46
        try clear c48
        try clear hcz10_0 hcz10_1 hcz10_2 hcz10_3 hcz10_4 hcz10_5 hcz10_6
        try clear hcz11_0 hcz11_1
        try clear hcz14_0 hcz14_1 hcz14_2 hcz14_3 hcz14_4 hcz14_5 hcz14_6
        try clear hcz15_0 hcz15_1
        try clear hcz20_0 hcz20_1 hcz20_2 hcz20_3 hcz20_4 hcz20_5 hcz20_6
        try clear hcz23_0 hcz23_1 hcz23_2 hcz23_3 hcz23_4 hcz23_5 hcz23_6
        try clear hcz24_0 hcz24_1
        try clear hcz26_0 hcz26_1 hcz26_2 hcz26_3 hcz26_4 hcz26_5 hcz26_6
        try clear hcz27_0 hcz27_1
        try clear hcz33_0 hcz33_1 hcz33_2 hcz33_3 hcz33_4 hcz33_5 hcz33_6
        try clear hcz39_0 hcz39_1 hcz39_2 hcz39_3 hcz39_4 hcz39_5 hcz39_6
        try clear hcz43_0 hcz43_1 hcz43_2 hcz43_3 hcz43_4 hcz43_5 hcz43_6
        try clear hcz45_0 hcz45_1 hcz45_2 hcz45_3 hcz45_4 hcz45_5 hcz45_6
        try clear hcz47_0 hcz47_1 hcz47_2 hcz47_3 hcz47_4 hcz47_5 hcz47_6
        try clear hcz49_0 hcz49_1 hcz49_2 hcz49_3 hcz49_4 hcz49_5 hcz49_6
        try clear hcz6_0 hcz6_1
        try clear hfz10_0 hfz10_1 hfz10_2 hfz10_3 hfz10_4 hfz10_5 hfz10_6
        try clear hfz11_0 hfz11_1
        try clear hfz14_0 hfz14_1 hfz14_2 hfz14_3 hfz14_4 hfz14_5 hfz14_6
        try clear hfz15_0 hfz15_1
        try clear hfz20_0 hfz20_1 hfz20_2 hfz20_3 hfz20_4 hfz20_5 hfz20_6
        try clear hfz23_0 hfz23_1 hfz23_2 hfz23_3 hfz23_4 hfz23_5 hfz23_6
        try clear hfz24_0 hfz24_1
        try clear hfz26_0 hfz26_1 hfz26_2 hfz26_3 hfz26_4 hfz26_5 hfz26_6
        try clear hfz27_0 hfz27_1
        try clear hfz33_0 hfz33_1 hfz33_2 hfz33_3 hfz33_4 hfz33_5 hfz33_6
        try clear hfz39_0 hfz39_1 hfz39_2 hfz39_3 hfz39_4 hfz39_5 hfz39_6
        try clear hfz43_0 hfz43_1 hfz43_2 hfz43_3 hfz43_4 hfz43_5 hfz43_6
        try clear hfz45_0 hfz45_1 hfz45_2 hfz45_3 hfz45_4 hfz45_5 hfz45_6
        try clear hfz47_0 hfz47_1 hfz47_2 hfz47_3 hfz47_4 hfz47_5 hfz47_6
        try clear hfz49_0 hfz49_1 hfz49_2 hfz49_3 hfz49_4 hfz49_5 hfz49_6
        try clear hfz6_0 hfz6_1
        try clear p2
        obtain ⟨kq, x31_28, rfl, HA, HJ28, BK425, BK426, HB⟩ := hcut
        cases kq with
        | zero => exact absurd HA.out (by simp [accept_Fit.j2])
        | succ kj28 =>
         have H := HA.out
         clear HA
         simp only [accept_Fit.j2] at H
         by_cases c50 : x31_28 = true
         ·subst c50
          have H1 : (some false) = some r := by rw [if_pos rfl] at H; exact H
          clear H
          have H := H1
          clear H1
          obtain rfl := Option.some.inj H
          go_wp2
          go_ret
          exact ⟨by first | rfl | (simp [errW_none, errW_some] <;> rfl) | (simp [*, errW_none, errW_some] <;> rfl), by repeat (first | (with_reducible first | exact HB.out | apply below_alloc | apply pw_below_drewN | apply below_drew1 | refine below_set ?_ (Aside0.out ‹_›)) | exact HB.out)⟩
         ·replace c50 := Bool.eq_false_iff.mpr c50
          subst c50
          have H1 : (if (l0_6.length : Int) > 4096 then (some false) else ((slices_ContainsFunc_string_string.f l0_6).bind fun t431 => (some (!t431)))) = some r := by rw [if_neg (show ¬ (false = true) by decide)] at H; exact H
          clear H
          have H := H1
          clear H1
          by_cases c51 : (l0_6.length : Int) > 4096
          ·rw [if_pos c51] at H
           have c51b0 : decide (4096 < (l0_6.length : Int)) = true := decide_eq_true c51
           have c51b1 : decide (4096 < l0_6.length) = true := decide_eq_true (by omega)
           clear c51
           obtain rfl := Option.some.inj H
           have hnb52 := NB425_426.out
           have hnc52 := NB426_425.out
           obtain ⟨hcz53_0, hcz53_1, hcz53_2, hcz53_3, hcz53_4, hcz53_5, hcz53_6⟩ := blkC7 wc gb425 (.int .i64 a0_0) (.int .i64 a0_1) (.bool a0_2) (.int .i64 a0_3) (.int .i64 a0_4) (.string a0_5) (.slice A0_6 l0_6.length c0_6) BK425.out
           obtain ⟨hfz53_0, hfz53_1, hfz53_2, hfz53_3, hfz53_4, hfz53_5, hfz53_6⟩ := blkF7 BK425.out
           go_wp2
           go_ret
           exact ⟨by first | rfl | (simp [errW_none, errW_some] <;> rfl) | (simp [*, errW_none, errW_some] <;> rfl), by repeat (first | (with_reducible first | exact HB.out | apply below_alloc | apply pw_below_drewN | apply below_drew1 | refine below_set ?_ (Aside0.out ‹_›)) | exact HB.out)⟩
          ·rw [if_neg c51] at H
           have c51b0 : decide (4096 < (l0_6.length : Int)) = false := decide_eq_false c51
           have c51b1 : decide (4096 < l0_6.length) = false := decide_eq_false (by omega)
           clear c51
           replace H := Option.bind_eq_some_iff.mp H
           obtain ⟨t431, A540, H⟩ := H
           replace H : (some (!t431)) = some r := H
           have A54 := Aside0.mk A540
           clear A540
           obtain rfl := Option.some.inj H
           have hnb55 := NB425_426.out
           have hnc55 := NB426_425.out
           obtain ⟨hcz56_0, hcz56_1, hcz56_2, hcz56_3, hcz56_4, hcz56_5, hcz56_6⟩ := blkC7 wc gb425 (.int .i64 a0_0) (.int .i64 a0_1) (.bool a0_2) (.int .i64 a0_3) (.int .i64 a0_4) (.string a0_5) (.slice A0_6 l0_6.length c0_6) BK425.out
           obtain ⟨hfz56_0, hfz56_1, hfz56_2, hfz56_3, hfz56_4, hfz56_5, hfz56_6⟩ := blkF7 BK425.out
           go_wp2_with (first | ((with_reducible refine gate_callee (f := 35) rfl ?_); refine goesL_ (some 67) rfl rfl Try.func35 (by kernel_rfl) rfl #[.slice A0_6 l0_6.length c0_6, .func (.func 36) #[] #[]] rfl (by (try simp only [List.map_toArray, List.map_cons, List.map_nil]); first | done | rfl | (simp only [List.length_drop, List.length_take]; rfl)) ?_; (with_reducible refine (slices_ContainsFunc_string_string.calls _ _ l0_6 t431 _ ?side1 ?side2 A54.out).mono ?_); (case side1 => repeat (first | exact (Kd.C_below HR0_6.out HB.out) | (with_reducible refine Kd.C_alloc ?_ _) | (with_reducible refine Kd.C_drewN ?_ _) | (with_reducible refine Kd.C_drew ?_))); (case side2 => exact HC0_6.out); rintro e w57 ⟨rfl, hb⟩; refine ⟨_, rfl, ?_⟩; have n0_ := Aside0.mk (blk_below (g := gb425) (o := .cells #[.int .i64 a0_0, .int .i64 a0_1, .bool a0_2, .int .i64 a0_3, .int .i64 a0_4, .string a0_5, .slice A0_6 l0_6.length c0_6] 27 (0, 0)) (by (with_reducible repeat (first | apply bN | apply bD | apply bA)); exact BK425.out) hb); have n1_ := Aside0.mk (blk_below (g := gb426) (o := .cells #[.int .i64 0, .int .i64 0] 24 (0, 0)) (by (with_reducible repeat (first | apply bN | apply bD | apply bA)); exact BK426.out) hb); have n2_ := Aside0.mk (below_step (by repeat (first | (with_reducible first | exact HB.out | apply below_alloc | apply pw_below_drewN | apply below_drew1 | refine below_set ?_ (Aside0.out ‹_›)) | exact HB.out)) hb); clear BK425; clear BK426; clear HB; have BK425 := n0_; have BK426 := n1_; have HB := n2_; clear n0_ n1_ n2_; (try clear hb); (try clear hb2); (try clear hk); (try clear hi)))
           go_ret
           exact ⟨by first | rfl | (simp [errW_none, errW_some] <;> rfl) | (simp [*, errW_none, errW_some] <;> rfl), by repeat (first | (with_reducible first | exact HB.out | apply below_alloc | apply pw_below_drewN | apply below_drew1 | refine below_set ?_ (Aside0.out ‹_›)) | exact HB.out)⟩

end Go.Proofs.Ytkbdicedckmdkaa.P
