-- Printed by gprint.py, a program of this session, over the kit's print.py
import Derived.Test.YtpdpjcpmpppadaaP0
import Derived.Test.YtpdpjcpmpppadaaP1
import Derived.Test.YtpdpjcpmpppadaaP3
import Derived.Test.YtpdpjcpmpppadaaP26
namespace Go.Proofs.Ytpdpjcpmpppadaa.P
open Go.RowKit Go.Proofs.YtpdpjcpmpppadaaW.PrintWords Go.Proofs.YtpdpjcpmpppadaaW.PrintLast Go.Proofs.YtpdpjcpmpppadaaW.PrintMore
attribute [local go_sem] max2_int min2_int max_two min_two max_three min_three max_four min_four   -- for this text's walks alone
set_option linter.unusedVariables false
set_option linter.unusedSimpArgs false

attribute [local go_sem high] eqA23
/-! ### reeflaw16_LeadNext: function 3 -/
def reeflaw16_LeadNext.j0 : Nat → Int → Int → Bool → Bool → Int → Int → Int → Int → Option (Bool)
 | 0, _, _, _, _, _, _, _, _ => none
 | k + 1, x1, x2, x10, x41, x185000, x185001, x189000, x189001 => if x41 = true then (none) else (if x10 = true then ((reefref15_Later.f x189000 x189001 x185000 x185001).bind fun t195 => (if t195 = true then (if x189001 = x2 then (if x189000 > x1 then ((reeflaw16_awake.f k).bind fun t196 => (some t196)) else (none)) else (none)) else (none))) else ((reeflaw16_awake.f k).bind fun t197 => (some t197)))
def reeflaw16_LeadNext.f (k : Nat) (a0_0 : Int) (a0_1 : Int) (a1 : Int) (a2 : Int) (a3 : Int) : Option (Bool) := (lead_Next.f a0_0 a0_1 a1 a2).bind fun bt185 => ((reefref16_Next.f a0_0 a0_1 a1 a2).bind fun bt189 => (if (!(bt185.1 == bt189.1) || (!(bt185.2.1 == bt189.2.1))) = true then (none) else (if (bt185.2.2 != bt189.2.2) = true then (none) else ((lead_Most.f a3).bind fun t193 => ((reefref16_Most.f a3).bind fun t194 => (reeflaw16_LeadNext.j0 k a1 a2 bt185.2.2 (t193 != t194) a0_0 a0_1 bt185.1 bt185.2.1))))))
theorem reeflaw16_LeadNext.mono_l : ∀ k, (∀ y0 y1 y2 y3 y4 y5 y6 y7, LeO (reeflaw16_LeadNext.j0 k y0 y1 y2 y3 y4 y5 y6 y7) (reeflaw16_LeadNext.j0 (k + 1) y0 y1 y2 y3 y4 y5 y6 y7))
 | 0 => fun _ _ _ _ _ _ _ _ r h => by simp [reeflaw16_LeadNext.j0] at h
 | k + 1 => by
  have ih0 := reeflaw16_LeadNext.mono_l k
  ·intro y0 y1 y2 y3 y4 y5 y6 y7
   unfold reeflaw16_LeadNext.j0
   repeat' first
   | (with_reducible exact ih0 _ _ _ _ _ _ _ _)
   | (with_reducible exact reeflaw16_awake.mono _)
   | (with_reducible exact LeO.refl _)
   | (with_reducible exact LeO.none _)
   | (with_reducible refine LeO.ite ?_ ?_)
   | (with_reducible refine LeO.bind ?_ (fun _ => ?_))
   | exact ih0 _ _ _ _ _ _ _ _
   | exact reeflaw16_awake.mono _
   | exact LeO.none _
   | refine LeO.ite ?_ ?_
   | refine LeO.bind ?_ (fun _ => ?_)
theorem reeflaw16_LeadNext.mono : ∀ a0 a1 a2 a3 a4 k, LeO (reeflaw16_LeadNext.f k a0 a1 a2 a3 a4) (reeflaw16_LeadNext.f (k + 1) a0 a1 a2 a3 a4) := by
 intro a0 a1 a2 a3 a4 k
 have ih0 := reeflaw16_LeadNext.mono_l k
 unfold reeflaw16_LeadNext.f
 repeat' first
   | (with_reducible exact ih0 _ _ _ _ _ _ _ _)
   | (with_reducible exact reeflaw16_awake.mono _)
   | (with_reducible exact LeO.refl _)
   | (with_reducible exact LeO.none _)
   | (with_reducible refine LeO.ite ?_ ?_)
   | (with_reducible refine LeO.bind ?_ (fun _ => ?_))
   | exact ih0 _ _ _ _ _ _ _ _
   | exact reeflaw16_awake.mono _
   | exact LeO.none _
   | refine LeO.ite ?_ ?_
   | refine LeO.bind ?_ (fun _ => ?_)
set_option maxHeartbeats 8000000 in
set_option maxRecDepth 100000 in
theorem reeflaw16_LeadNext.calls (k : Nat) (a0_0 : Int) (a0_1 : Int) (a1 : Int) (a2 : Int) (a3 : Int) (r : Bool) (w : World) (h : reeflaw16_LeadNext.f k a0_0 a0_1 a1 a2 a3 = some r) :
  Calls Try.prog 3 #[.agg #[.int .i64 a0_0, .int .i64 a0_1], .int .i64 a1, .int .i64 a2, .int .i64 a3] w fun e w' => e = .returned (.bool r) ∧ Below w.heap.size w w' := by
 have hu23 := Try.underlying23
 have HB := Aside0.mk (Below.refl w.heap.size w)
 have H : ((lead_Next.f a0_0 a0_1 a1 a2).bind fun bt185 => ((reefref16_Next.f a0_0 a0_1 a1 a2).bind fun bt189 => (if (!(bt185.1 == bt189.1) || (!(bt185.2.1 == bt189.2.1))) = true then (none) else (if (bt185.2.2 != bt189.2.2) = true then (none) else ((lead_Most.f a3).bind fun t193 => ((reefref16_Most.f a3).bind fun t194 => (reeflaw16_LeadNext.j0 k a1 a2 bt185.2.2 (t193 != t194) a0_0 a0_1 bt185.1 bt185.2.1))))))) = some r := h
 clear h
 replace H := Option.bind_eq_some_iff.mp H
 obtain ⟨⟨t185, t186, t187⟩, A50, H⟩ := H
 replace H : ((reefref16_Next.f a0_0 a0_1 a1 a2).bind fun bt189 => (if (!(t185 == bt189.1) || (!(t186 == bt189.2.1))) = true then (none) else (if (t187 != bt189.2.2) = true then (none) else ((lead_Most.f a3).bind fun t193 => ((reefref16_Most.f a3).bind fun t194 => (reeflaw16_LeadNext.j0 k a1 a2 t187 (t193 != t194) a0_0 a0_1 t185 t186)))))) = some r := H
 have A5 := Aside0.mk A50
 clear A50
 replace H := Option.bind_eq_some_iff.mp H
 obtain ⟨⟨t189, t190, t191⟩, A60, H⟩ := H
 replace H : (if (!(t185 == t189) || (!(t186 == t190))) = true then (none) else (if (t187 != t191) = true then (none) else ((lead_Most.f a3).bind fun t193 => ((reefref16_Most.f a3).bind fun t194 => (reeflaw16_LeadNext.j0 k a1 a2 t187 (t193 != t194) a0_0 a0_1 t185 t186))))) = some r := H
 have A6 := Aside0.mk A60
 clear A60
 have HC7 := Aside0.mk H
 clear H
 go_enter Try.func3, Try.ntmps3
 go_upto_region 3 with (first | ((with_reducible refine gate_dst (N := 4) rfl ?_); refine box_event ?hg (N := 4) ?hd (cs := #[.int .i64 a0_0, .int .i64 a0_1]) (t := 23) ?hr ?_; (case hd => rfl); (case hg => rfl); (case hr => first | (go_simp; done) | (go_simp; rfl)); intro gb184 hg w8 hbox hb; have n0_ := Aside0.mk (below_step (by repeat (first | (with_reducible first | exact HB.out | apply below_alloc | apply pw_below_drewN | apply below_drew1) | exact HB.out)) hb); have n1_ := Aside0.mk (hbox); have n2_ := Aside0.mk ((by rw [hg]; exact (below_size (by repeat (first | (with_reducible first | exact HB.out | apply below_alloc | apply pw_below_drewN | apply below_drew1) | exact HB.out))) : w.heap.size ≤ gb184)); have n3_ := n2_; clear HB; have HB := n0_; have BK184 := n1_; have GW184 := n2_; have GE184 := n3_; clear n0_ n1_ n2_ n3_; clear hb hbox hg; obtain ⟨hcz9_0, hcz9_1⟩ := blkC2 w8 gb184 (.int .i64 a0_0) (.int .i64 a0_1) BK184.out; obtain ⟨hfz9_0, hfz9_1⟩ := blkF2 BK184.out) | ((with_reducible refine gate_callee (f := 8) rfl ?_); refine goesL_ (some 17) rfl rfl Try.func8 (by kernel_rfl) rfl #[.agg #[.int .i64 a0_0, .int .i64 a0_1], .int .i64 a1, .int .i64 a2] rfl (by (try simp only [List.map_toArray, List.map_cons, List.map_nil]); first | done | rfl | (simp only [List.length_drop, List.length_take]; rfl)) ?_; (with_reducible refine (lead_Next.calls a0_0 a0_1 a1 a2 t185 t186 t187 _ A5.out).mono ?_); rintro e w10 ⟨rfl, hb⟩; refine ⟨_, rfl, ?_⟩; have n0_ := Aside0.mk (blk_below (g := gb184) (o := .cells #[.int .i64 a0_0, .int .i64 a0_1] 23 (0, 0)) (by (with_reducible repeat (first | apply bN | apply bD | apply bA)); exact BK184.out) hb); have n1_ := Aside0.mk (below_step (by repeat (first | (with_reducible first | exact HB.out | apply below_alloc | apply pw_below_drewN | apply below_drew1 | refine below_set ?_ GE184.out) | exact HB.out)) hb); clear BK184; clear HB; have BK184 := n0_; have HB := n1_; clear n0_ n1_; (try clear hb); (try clear hb2); (try clear hk); (try clear hi)) | ((with_reducible refine gate_dst (N := 9) rfl ?_); refine box_event ?hg (N := 9) ?hd (cs := #[.int .i64 0, .int .i64 0]) (t := 23) ?hr ?_; (case hd => rfl); (case hg => rfl); (case hr => first | (go_simp; done) | (go_simp; rfl)); intro gb188 hg w11 hbox hb; have n0_ := Aside0.mk (blk_below (g := gb184) (o := .cells #[.int .i64 a0_0, .int .i64 a0_1] 23 (0, 0)) (by (with_reducible repeat (first | apply bN | apply bD | apply bA)); exact BK184.out) hb); have n1_ := Aside0.mk (below_step (by repeat (first | (with_reducible first | exact HB.out | apply below_alloc | apply pw_below_drewN | apply below_drew1 | refine below_set ?_ GE184.out) | exact HB.out)) hb); have n2_ := Aside0.mk (hbox); have n3_ := Aside0.mk ((by rw [hg]; exact (below_size (by repeat (first | (with_reducible first | exact HB.out | apply below_alloc | apply pw_below_drewN | apply below_drew1 | refine below_set ?_ GE184.out) | exact HB.out))) : w.heap.size ≤ gb188)); have n4_ := n3_; have n5_ := Aside0.mk ((by rw [hg]; exact Nat.ne_of_lt (blk_lt (g := gb184) (o := .cells #[.int .i64 a0_0, .int .i64 a0_1] 23 (0, 0)) (by (with_reducible repeat (first | apply bN | apply bD | apply bA)); exact BK184.out)) : gb184 ≠ gb188)); have n6_ := Aside0.mk ((by rw [hg]; exact Nat.ne_of_gt (blk_lt (g := gb184) (o := .cells #[.int .i64 a0_0, .int .i64 a0_1] 23 (0, 0)) (by (with_reducible repeat (first | apply bN | apply bD | apply bA)); exact BK184.out)) : gb188 ≠ gb184)); clear BK184; clear HB; have BK184 := n0_; have HB := n1_; have BK188 := n2_; have GW188 := n3_; have GE188 := n4_; have NB184_188 := n5_; have NB188_184 := n6_; clear n0_ n1_ n2_ n3_ n4_ n5_ n6_; clear hb hbox hg; have hnb12 := NB188_184.out; have hnc12 := NB184_188.out; obtain ⟨hcz13_0, hcz13_1⟩ := blkC2 w11 gb188 (.int .i64 0) (.int .i64 0) BK188.out; obtain ⟨hfz13_0, hfz13_1⟩ := blkF2 BK188.out; obtain ⟨hcz14_0, hcz14_1⟩ := blkC2 w11 gb184 (.int .i64 a0_0) (.int .i64 a0_1) BK184.out; obtain ⟨hfz14_0, hfz14_1⟩ := blkF2 BK184.out) | ((with_reducible refine gate_callee (f := 9) rfl ?_); refine goesL_ (some 24) rfl rfl Try.func9 (by kernel_rfl) rfl #[.agg #[.int .i64 a0_0, .int .i64 a0_1], .int .i64 a1, .int .i64 a2] rfl (by (try simp only [List.map_toArray, List.map_cons, List.map_nil]); first | done | rfl | (simp only [List.length_drop, List.length_take]; rfl)) ?_; (with_reducible refine (reefref16_Next.calls a0_0 a0_1 a1 a2 t189 t190 t191 _ A6.out).mono ?_); rintro e w15 ⟨rfl, hb⟩; refine ⟨_, rfl, ?_⟩; have n0_ := Aside0.mk (blk_below (g := gb184) (o := .cells #[.int .i64 a0_0, .int .i64 a0_1] 23 (0, 0)) (by (with_reducible repeat (first | apply bN | apply bD | apply bA)); refine blk_far ?_ NB184_188.out _; (with_reducible repeat (first | apply bN | apply bD | apply bA)); refine blk_far ?_ NB184_188.out _; (with_reducible repeat (first | apply bN | apply bD | apply bA)); exact BK184.out) hb); have n1_ := Aside0.mk (blk_below (g := gb188) (o := .cells #[.int .i64 t185, .int .i64 t186] 23 (0, 0)) (by (with_reducible repeat (first | apply bN | apply bD | apply bA)); refine blk_put (cs := #[.int .i64 t185, .int .i64 0]) ?_ 1 _ rfl; (with_reducible repeat (first | apply bN | apply bD | apply bA)); refine blk_put (cs := #[.int .i64 0, .int .i64 0]) ?_ 0 _ rfl; (with_reducible repeat (first | apply bN | apply bD | apply bA)); exact BK188.out) hb); have n2_ := Aside0.mk (below_step (by repeat (first | (with_reducible first | exact HB.out | apply below_alloc | apply pw_below_drewN | apply below_drew1 | refine below_set ?_ (Aside0.out ‹_›)) | exact HB.out)) hb); clear BK184; clear BK188; clear HB; have BK184 := n0_; have BK188 := n1_; have HB := n2_; clear n0_ n1_ n2_; (try clear hb); (try clear hb2); (try clear hk); (try clear hi)) | ((with_reducible refine gate_dst (N := 11) rfl ?_); refine box_event ?hg (N := 11) ?hd (cs := #[.int .i64 0, .int .i64 0]) (t := 23) ?hr ?_; (case hd => rfl); (case hg => rfl); (case hr => first | (go_simp; done) | (go_simp; rfl)); intro gb192 hg w16 hbox hb; have n0_ := Aside0.mk (blk_below (g := gb184) (o := .cells #[.int .i64 a0_0, .int .i64 a0_1] 23 (0, 0)) (by (with_reducible repeat (first | apply bN | apply bD | apply bA)); exact BK184.out) hb); have n1_ := Aside0.mk (blk_below (g := gb188) (o := .cells #[.int .i64 t185, .int .i64 t186] 23 (0, 0)) (by (with_reducible repeat (first | apply bN | apply bD | apply bA)); exact BK188.out) hb); have n2_ := Aside0.mk (below_step (by repeat (first | (with_reducible first | exact HB.out | apply below_alloc | apply pw_below_drewN | apply below_drew1 | refine below_set ?_ (Aside0.out ‹_›)) | exact HB.out)) hb); have n3_ := Aside0.mk (hbox); have n4_ := Aside0.mk ((by rw [hg]; exact (below_size (by repeat (first | (with_reducible first | exact HB.out | apply below_alloc | apply pw_below_drewN | apply below_drew1 | refine below_set ?_ (Aside0.out ‹_›)) | exact HB.out))) : w.heap.size ≤ gb192)); have n5_ := n4_; have n6_ := Aside0.mk ((by rw [hg]; exact Nat.ne_of_lt (blk_lt (g := gb184) (o := .cells #[.int .i64 a0_0, .int .i64 a0_1] 23 (0, 0)) (by (with_reducible repeat (first | apply bN | apply bD | apply bA)); exact BK184.out)) : gb184 ≠ gb192)); have n7_ := Aside0.mk ((by rw [hg]; exact Nat.ne_of_gt (blk_lt (g := gb184) (o := .cells #[.int .i64 a0_0, .int .i64 a0_1] 23 (0, 0)) (by (with_reducible repeat (first | apply bN | apply bD | apply bA)); exact BK184.out)) : gb192 ≠ gb184)); have n8_ := Aside0.mk ((by rw [hg]; exact Nat.ne_of_lt (blk_lt (g := gb188) (o := .cells #[.int .i64 t185, .int .i64 t186] 23 (0, 0)) (by (with_reducible repeat (first | apply bN | apply bD | apply bA)); exact BK188.out)) : gb188 ≠ gb192)); have n9_ := Aside0.mk ((by rw [hg]; exact Nat.ne_of_gt (blk_lt (g := gb188) (o := .cells #[.int .i64 t185, .int .i64 t186] 23 (0, 0)) (by (with_reducible repeat (first | apply bN | apply bD | apply bA)); exact BK188.out)) : gb192 ≠ gb188)); clear BK184; clear BK188; clear HB; have BK184 := n0_; have BK188 := n1_; have HB := n2_; have BK192 := n3_; have GW192 := n4_; have GE192 := n5_; have NB184_192 := n6_; have NB192_184 := n7_; have NB188_192 := n8_; have NB192_188 := n9_; clear n0_ n1_ n2_ n3_ n4_ n5_ n6_ n7_ n8_ n9_; clear hb hbox hg; have hnb17 := NB192_184.out; have hnc17 := NB184_192.out; have hnb18 := NB192_188.out; have hnc18 := NB188_192.out; obtain ⟨hcz19_0, hcz19_1⟩ := blkC2 w16 gb192 (.int .i64 0) (.int .i64 0) BK192.out; obtain ⟨hfz19_0, hfz19_1⟩ := blkF2 BK192.out))
 (try simp only [Act.put, List.setIfInBounds_toArray, List.set_cons_zero, List.set_cons_succ])
 go_cut [41] (fun v41 wc => ∃ (kq : Nat) (x41_6 : Bool), v41 = .bool x41_6 ∧ Aside0 (reeflaw16_LeadNext.j0 kq a1 a2 t187 x41_6 a0_0 a0_1 t185 t186 = some r) ∧ Aside0 (kq ≤ k) ∧ Aside0 (wc.heap[gb184]? = some (.cells #[.int .i64 a0_0, .int .i64 a0_1] 23 (0, 0))) ∧ Aside0 (wc.heap[gb188]? = some (.cells #[.int .i64 t185, .int .i64 t186] 23 (0, 0))) ∧ Aside0 (wc.heap[gb192]? = some (.cells #[.int .i64 t189, .int .i64 t190] 23 (0, 0))) ∧ Aside0 (Below w.heap.size w wc))
 case first =>
  have H := HC7.out
  clear HC7
  by_cases c20 : (!(t185 == t189) || (!(t186 == t190))) = true
  ·rw [if_pos c20] at H
   exact absurd H (by simp)
  ·rw [if_neg c20] at H
   have c20b0 : (!(t185 == t189) || (!(t186 == t190))) = false := by simpa using c20
   clear c20
   (first | rw [c20b0] | (simp only [i64_w, i32_w]; rw [c20b0]) | skip)
   by_cases c21 : (t187 != t191) = true
   ·rw [if_pos c21] at H
    exact absurd H (by simp)
   ·rw [if_neg c21] at H
    have c21b0 : (t187 != t191) = false := by simpa using c21
    (try (have c21b1 : decide (t187 = t191) = true := by simpa using c21))
    (try (have c21b2 : (t187 == t191) = true := by simpa using c21))
    clear c21
    replace H := Option.bind_eq_some_iff.mp H
    obtain ⟨t193, A220, H⟩ := H
    replace H : ((reefref16_Most.f a3).bind fun t194 => (reeflaw16_LeadNext.j0 k a1 a2 t187 (t193 != t194) a0_0 a0_1 t185 t186)) = some r := H
    have A22 := Aside0.mk A220
    clear A220
    replace H := Option.bind_eq_some_iff.mp H
    obtain ⟨t194, A230, H⟩ := H
    replace H : (reeflaw16_LeadNext.j0 k a1 a2 t187 (t193 != t194) a0_0 a0_1 t185 t186) = some r := H
    have A23 := Aside0.mk A230
    clear A230
    have H' := Aside0.mk H
    clear H
    have hnb24 := NB188_184.out
    have hnc24 := NB184_188.out
    have hnb25 := NB188_192.out
    have hnc25 := NB192_188.out
    obtain ⟨hcz26_0, hcz26_1⟩ := blkC2 w16 gb188 (.int .i64 t185) (.int .i64 t186) BK188.out
    obtain ⟨hfz26_0, hfz26_1⟩ := blkF2 BK188.out
    have hnb27 := NB192_184.out
    have hnc27 := NB184_192.out
    obtain ⟨hcz28_0, hcz28_1⟩ := blkC2 w16 gb192 (.int .i64 0) (.int .i64 0) BK192.out
    obtain ⟨hfz28_0, hfz28_1⟩ := blkF2 BK192.out
    go_wp2_with (first | (go_at_call 10; (with_reducible refine (lead_Most.calls a3 t193 _ A22.out).mono ?_); rintro e w' ⟨rfl, ⟨nd, rfl⟩⟩) | (go_at_call 11; (with_reducible refine (reefref16_Most.calls a3 t194 _ A23.out).mono ?_); rintro e w' ⟨rfl, ⟨nd, rfl⟩⟩))
    go_meet
    case rel => exact ⟨_, ((t193 != t194)), (by first | rfl | (simp; done) | (simp [*]; done)), H', ⟨by first | omega | exact Nat.le_refl _⟩, ⟨by (with_reducible repeat (first | apply bN | apply bD | apply bA)); refine blk_far ?_ NB184_192.out _; (with_reducible repeat (first | apply bN | apply bD | apply bA)); refine blk_far ?_ NB184_192.out _; (with_reducible repeat (first | apply bN | apply bD | apply bA)); exact BK184.out⟩, ⟨by (with_reducible repeat (first | apply bN | apply bD | apply bA)); refine blk_far ?_ NB188_192.out _; (with_reducible repeat (first | apply bN | apply bD | apply bA)); refine blk_far ?_ NB188_192.out _; (with_reducible repeat (first | apply bN | apply bD | apply bA)); exact BK188.out⟩, ⟨by (with_reducible repeat (first | apply bN | apply bD | apply bA)); refine blk_put (cs := #[.int .i64 t189, .int .i64 0]) ?_ 1 _ rfl; (with_reducible repeat (first | apply bN | apply bD | apply bA)); refine blk_put (cs := #[.int .i64 0, .int .i64 0]) ?_ 0 _ rfl; (with_reducible repeat (first | apply bN | apply bD | apply bA)); exact BK192.out⟩, ⟨by repeat (first | (with_reducible first | exact HB.out | apply below_alloc | apply pw_below_drewN | apply below_drew1 | refine below_set ?_ (Aside0.out ‹_›)) | exact HB.out)⟩⟩
 case rest =>
  clear HC7
  try clear c1
  try clear c2
  try clear p2
  try clear c3
  try clear c8
  try clear c9
  try clear c12
  try clear c17
  try clear c18
  try clear c20
  try clear c20b0
  try clear c21
  try clear c21b0
  try clear c21b1
  try clear c21b2
  try clear c24
  try clear c25
  try clear c27
  try clear hcz13_0 hcz13_1
  try clear hcz14_0 hcz14_1
  try clear hcz19_0 hcz19_1
  try clear hcz26_0 hcz26_1
  try clear hcz28_0 hcz28_1
  try clear hcz9_0 hcz9_1
  try clear hfz13_0 hfz13_1
  try clear hfz14_0 hfz14_1
  try clear hfz19_0 hfz19_1
  try clear hfz26_0 hfz26_1
  try clear hfz28_0 hfz28_1
  try clear hfz9_0 hfz9_1
  obtain ⟨kq, x41_6, rfl, HA, HJ6, BK184, BK188, BK192, HB⟩ := hcut
  cases kq with
  | zero => exact absurd HA.out (by simp [reeflaw16_LeadNext.j0])
  | succ kj6 =>
   have H := HA.out
   clear HA
   simp only [reeflaw16_LeadNext.j0] at H
   by_cases c29 : x41_6 = true
   ·subst c29
    have H1 : (none) = some r := by rw [if_pos rfl] at H; exact H
    clear H
    have H := H1
    clear H1
    exact absurd H (by simp)
   ·replace c29 := Bool.eq_false_iff.mpr c29
    subst c29
    have H1 : (if t187 = true then ((reefref15_Later.f t185 t186 a0_0 a0_1).bind fun t195 => (if t195 = true then (if t186 = a2 then (if t185 > a1 then ((reeflaw16_awake.f kj6).bind fun t196 => (some t196)) else (none)) else (none)) else (none))) else ((reeflaw16_awake.f kj6).bind fun t197 => (some t197))) = some r := by rw [if_neg (show ¬ (false = true) by decide)] at H; exact H
    clear H
    have H := H1
    clear H1
    by_cases c30 : t187 = true
    ·subst c30
     have H1 : ((reefref15_Later.f t185 t186 a0_0 a0_1).bind fun t195 => (if t195 = true then (if t186 = a2 then (if t185 > a1 then ((reeflaw16_awake.f kj6).bind fun t196 => (some t196)) else (none)) else (none)) else (none))) = some r := by rw [if_pos rfl] at H; exact H
     clear H
     have H := H1
     clear H1
     replace H := Option.bind_eq_some_iff.mp H
     obtain ⟨t195, A310, H⟩ := H
     replace H : (if t195 = true then (if t186 = a2 then (if t185 > a1 then ((reeflaw16_awake.f kj6).bind fun t196 => (some t196)) else (none)) else (none)) else (none)) = some r := H
     have A31 := Aside0.mk A310
     clear A310
     by_cases c32 : t195 = true
     ·subst c32
      have H1 : (if t186 = a2 then (if t185 > a1 then ((reeflaw16_awake.f kj6).bind fun t196 => (some t196)) else (none)) else (none)) = some r := by rw [if_pos rfl] at H; exact H
      clear H
      have H := H1
      clear H1
      by_cases c33 : t186 = a2
      ·rw [if_pos c33] at H
       have c33b0 : (t186 == a2) = true := beq_iff_eq.mpr c33
       have c33b1 : (t186 != a2) = false := bne_eq_false_iff_eq.mpr c33
       clear c33
       by_cases c34 : t185 > a1
       ·rw [if_pos c34] at H
        have c34b0 : decide (a1 < t185) = true := decide_eq_true c34
        clear c34
        replace H := Option.bind_eq_some_iff.mp H
        obtain ⟨t196, A350, H⟩ := H
        replace H : (some t196) = some r := H
        have A35 := Aside0.mk A350
        clear A350
        obtain rfl := Option.some.inj H
        have hnb36 := NB188_184.out
        have hnc36 := NB184_188.out
        have hnb37 := NB188_192.out
        have hnc37 := NB192_188.out
        obtain ⟨hcz38_0, hcz38_1⟩ := blkC2 wc gb188 (.int .i64 t185) (.int .i64 t186) BK188.out
        obtain ⟨hfz38_0, hfz38_1⟩ := blkF2 BK188.out
        have hnb39 := NB184_192.out
        have hnc39 := NB192_184.out
        obtain ⟨hcz40_0, hcz40_1⟩ := blkC2 wc gb184 (.int .i64 a0_0) (.int .i64 a0_1) BK184.out
        obtain ⟨hfz40_0, hfz40_1⟩ := blkF2 BK184.out
        go_wp2_with (first | (go_at_call 12; (with_reducible refine (reefref15_Later.calls t185 t186 a0_0 a0_1 true _ A31.out).mono ?_); rintro e w41 ⟨rfl, hb⟩; have n0_ := Aside0.mk (blk_below (g := gb184) (o := .cells #[.int .i64 a0_0, .int .i64 a0_1] 23 (0, 0)) (by (with_reducible repeat (first | apply bN | apply bD | apply bA)); exact BK184.out) hb); have n1_ := Aside0.mk (blk_below (g := gb188) (o := .cells #[.int .i64 t185, .int .i64 t186] 23 (0, 0)) (by (with_reducible repeat (first | apply bN | apply bD | apply bA)); exact BK188.out) hb); have n2_ := Aside0.mk (blk_below (g := gb192) (o := .cells #[.int .i64 t189, .int .i64 t190] 23 (0, 0)) (by (with_reducible repeat (first | apply bN | apply bD | apply bA)); exact BK192.out) hb); have n3_ := Aside0.mk (below_step (by repeat (first | (with_reducible first | exact HB.out | apply below_alloc | apply pw_below_drewN | apply below_drew1 | refine below_set ?_ (Aside0.out ‹_›)) | exact HB.out)) hb); clear BK184; clear BK188; clear BK192; clear HB; have BK184 := n0_; have BK188 := n1_; have BK192 := n2_; have HB := n3_; clear n0_ n1_ n2_ n3_; (try clear hb); (try clear hb2); (try clear hk); (try clear hi); obtain ⟨hcz42_0, hcz42_1⟩ := blkC2 w41 gb188 (.int .i64 t185) (.int .i64 t186) BK188.out; obtain ⟨hfz42_0, hfz42_1⟩ := blkF2 BK188.out) | (go_at_call 13; (with_reducible refine (reeflaw16_awake.calls kj6  t196 _ A35.out).mono ?_); rintro e w43 ⟨rfl, hb⟩; have n0_ := Aside0.mk (blk_below (g := gb184) (o := .cells #[.int .i64 a0_0, .int .i64 a0_1] 23 (0, 0)) (by (with_reducible repeat (first | apply bN | apply bD | apply bA)); exact BK184.out) hb); have n1_ := Aside0.mk (blk_below (g := gb188) (o := .cells #[.int .i64 t185, .int .i64 t186] 23 (0, 0)) (by (with_reducible repeat (first | apply bN | apply bD | apply bA)); exact BK188.out) hb); have n2_ := Aside0.mk (blk_below (g := gb192) (o := .cells #[.int .i64 t189, .int .i64 t190] 23 (0, 0)) (by (with_reducible repeat (first | apply bN | apply bD | apply bA)); exact BK192.out) hb); have n3_ := Aside0.mk (below_step (by repeat (first | (with_reducible first | exact HB.out | apply below_alloc | apply pw_below_drewN | apply below_drew1 | refine below_set ?_ (Aside0.out ‹_›)) | exact HB.out)) hb); clear BK184; clear BK188; clear BK192; clear HB; have BK184 := n0_; have BK188 := n1_; have BK192 := n2_; have HB := n3_; clear n0_ n1_ n2_ n3_; (try clear hb); (try clear hb2); (try clear hk); (try clear hi)))
        go_ret
        exact ⟨by first | rfl | (simp [errW_none, errW_some] <;> rfl) | (simp [*, errW_none, errW_some] <;> rfl), by repeat (first | (with_reducible first | exact HB.out | apply below_alloc | apply pw_below_drewN | apply below_drew1 | refine below_set ?_ (Aside0.out ‹_›)) | exact HB.out)⟩
       ·rw [if_neg c34] at H
        exact absurd H (by simp)
      ·rw [if_neg c33] at H
       exact absurd H (by simp)
     ·replace c32 := Bool.eq_false_iff.mpr c32
      subst c32
      have H1 : (none) = some r := by rw [if_neg (show ¬ (false = true) by decide)] at H; exact H
      clear H
      have H := H1
      clear H1
      exact absurd H (by simp)
    ·replace c30 := Bool.eq_false_iff.mpr c30
     subst c30
     have H1 : ((reeflaw16_awake.f kj6).bind fun t197 => (some t197)) = some r := by rw [if_neg (show ¬ (false = true) by decide)] at H; exact H
     clear H
     have H := H1
     clear H1
     replace H := Option.bind_eq_some_iff.mp H
     obtain ⟨t197, A440, H⟩ := H
     replace H : (some t197) = some r := H
     have A44 := Aside0.mk A440
     clear A440
     obtain rfl := Option.some.inj H
     go_wp2_with (first | (go_at_call 13; (with_reducible refine (reeflaw16_awake.calls kj6  t197 _ A44.out).mono ?_); rintro e w45 ⟨rfl, hb⟩; have n0_ := Aside0.mk (blk_below (g := gb184) (o := .cells #[.int .i64 a0_0, .int .i64 a0_1] 23 (0, 0)) (by (with_reducible repeat (first | apply bN | apply bD | apply bA)); exact BK184.out) hb); have n1_ := Aside0.mk (blk_below (g := gb188) (o := .cells #[.int .i64 t185, .int .i64 t186] 23 (0, 0)) (by (with_reducible repeat (first | apply bN | apply bD | apply bA)); exact BK188.out) hb); have n2_ := Aside0.mk (blk_below (g := gb192) (o := .cells #[.int .i64 t189, .int .i64 t190] 23 (0, 0)) (by (with_reducible repeat (first | apply bN | apply bD | apply bA)); exact BK192.out) hb); have n3_ := Aside0.mk (below_step (by repeat (first | (with_reducible first | exact HB.out | apply below_alloc | apply pw_below_drewN | apply below_drew1 | refine below_set ?_ (Aside0.out ‹_›)) | exact HB.out)) hb); clear BK184; clear BK188; clear BK192; clear HB; have BK184 := n0_; have BK188 := n1_; have BK192 := n2_; have HB := n3_; clear n0_ n1_ n2_ n3_; (try clear hb); (try clear hb2); (try clear hk); (try clear hi)))
     go_ret
     exact ⟨by first | rfl | (simp [errW_none, errW_some] <;> rfl) | (simp [*, errW_none, errW_some] <;> rfl), by repeat (first | (with_reducible first | exact HB.out | apply below_alloc | apply pw_below_drewN | apply below_drew1 | refine below_set ?_ (Aside0.out ‹_›)) | exact HB.out)⟩

end Go.Proofs.Ytpdpjcpmpppadaa.P
