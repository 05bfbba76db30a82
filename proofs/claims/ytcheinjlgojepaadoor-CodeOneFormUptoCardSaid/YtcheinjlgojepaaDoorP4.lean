-- left of the seat's texts by prune.py, a program of this session
import Derived.Test.YtcheinjlgojepaaDoorP0
import Derived.Test.YtcheinjlgojepaaDoorP1
namespace Go.Proofs.YtcheinjlgojepaaDoor.P
open Go.RowKit Go.Proofs.YtcheinjlgojepaaDoorW.PrintWords Go.Proofs.YtcheinjlgojepaaDoorW.PrintLast Go.Proofs.YtcheinjlgojepaaDoorW.PrintMore
attribute [local go_sem] max2_int min2_int max_two min_two max_three min_three max_four min_four   -- for this text's walks alone
set_option linter.unusedVariables false
set_option linter.unusedSimpArgs false
attribute [local go_sem high] eqA29
def code_Fit.j0 : Nat → Int → Bool → Int → Int → ByteArray → Bool → Int → Int → ByteArray → Bool → Option (Bool)
 | 0, _, _, _, _, _, _, _, _, _, _ => none
 | k + 1, x8, x9, x114000, x114001, x114002, x114003, x115000, x115001, x115002, x115003 => if x9 = true then (if x114001 < 0 then (some false) else (if x114000 = 3 then (if x114001 > 4294967295 then (some false) else (some (x115000 == x114000 && (x115002.toList == x114002.toList && (x115003 == x114003))))) else (some (x115000 == x114000 && (x115002.toList == x114002.toList && (x115003 == x114003)))))) else (if x8 = 2 then (some (x115000 == x114000 && (x115002.toList == x114002.toList && (x115003 == x114003)))) else (if x8 = 4 then (some (x115000 == x114000 && (x115001 == x114001 && (x115003 == x114003)))) else (if x8 = 5 then (some (x115000 == x114000 && (x115001 == x114001 && (x115002.toList == x114002.toList)))) else (some false))))
def code_Fit.f (k : Nat) (a0_0 : Int) (a0_1 : Int) (a0_2 : ByteArray) (a0_3 : Bool) : Option (Bool) := if a0_0 = 1 then (code_Fit.j0 k a0_0 (a0_0 == 1) a0_0 a0_1 a0_2 a0_3 a0_0 0 (⟨#[]⟩ : ByteArray) false) else (code_Fit.j0 k a0_0 (a0_0 == 3) a0_0 a0_1 a0_2 a0_3 a0_0 0 (⟨#[]⟩ : ByteArray) false)
theorem code_Fit.mono_l : ∀ k, (∀ y0 y1 y2 y3 y4 y5 y6 y7 y8 y9, LeO (code_Fit.j0 k y0 y1 y2 y3 y4 y5 y6 y7 y8 y9) (code_Fit.j0 (k + 1) y0 y1 y2 y3 y4 y5 y6 y7 y8 y9))
 | 0 => fun _ _ _ _ _ _ _ _ _ _ r h => by simp [code_Fit.j0] at h
 | k + 1 => by
  have ih0 := code_Fit.mono_l k
  ·intro y0 y1 y2 y3 y4 y5 y6 y7 y8 y9
   unfold code_Fit.j0
   repeat' first
   | (with_reducible exact ih0 _ _ _ _ _ _ _ _ _ _)
   | (with_reducible exact LeO.refl _)
   | (with_reducible exact LeO.none _)
   | (with_reducible refine LeO.ite ?_ ?_)
   | (with_reducible refine LeO.bind ?_ (fun _ => ?_))
   | exact ih0 _ _ _ _ _ _ _ _ _ _
   | exact LeO.none _
   | refine LeO.ite ?_ ?_
   | refine LeO.bind ?_ (fun _ => ?_)
theorem code_Fit.mono : ∀ a0 a1 a2 a3 k, LeO (code_Fit.f k a0 a1 a2 a3) (code_Fit.f (k + 1) a0 a1 a2 a3) := by
 intro a0 a1 a2 a3 k
 have ih0 := code_Fit.mono_l k
 unfold code_Fit.f
 repeat' first
   | (with_reducible exact ih0 _ _ _ _ _ _ _ _ _ _)
   | (with_reducible exact LeO.refl _)
   | (with_reducible exact LeO.none _)
   | (with_reducible refine LeO.ite ?_ ?_)
   | (with_reducible refine LeO.bind ?_ (fun _ => ?_))
   | exact ih0 _ _ _ _ _ _ _ _ _ _
   | exact LeO.none _
   | refine LeO.ite ?_ ?_
   | refine LeO.bind ?_ (fun _ => ?_)
set_option maxHeartbeats 8000000 in
set_option maxRecDepth 100000 in
theorem code_Fit.calls (k : Nat) (a0_0 : Int) (a0_1 : Int) (a0_2 : ByteArray) (a0_3 : Bool) (r : Bool) (w : World) (h : code_Fit.f k a0_0 a0_1 a0_2 a0_3 = some r) :
  Calls Tryd.prog 11 #[.agg #[.int .i64 a0_0, .int .i64 a0_1, .string a0_2, .bool a0_3]] w fun e w' => e = .returned (.bool r) ∧ Below w.heap.size w w' := by
 have hu29 := Tryd.underlying29
 have HB := Aside0.mk (Below.refl w.heap.size w)
 have H : (if a0_0 = 1 then (code_Fit.j0 k a0_0 (a0_0 == 1) a0_0 a0_1 a0_2 a0_3 a0_0 0 (⟨#[]⟩ : ByteArray) false) else (code_Fit.j0 k a0_0 (a0_0 == 3) a0_0 a0_1 a0_2 a0_3 a0_0 0 (⟨#[]⟩ : ByteArray) false)) = some r := h
 clear h
 have HC2 := Aside0.mk H
 clear H
 go_enter Tryd.func11, Tryd.ntmps11
 go_upto_if 9 with (first | ((with_reducible refine gate_dst (N := 1) rfl ?_); refine box_event ?hg (N := 1) ?hd (cs := #[.int .i64 a0_0, .int .i64 a0_1, .string a0_2, .bool a0_3]) (t := 29) ?hr ?_; (case hd => rfl); (case hg => rfl); (case hr => first | (go_simp; done) | (go_simp; rfl)); intro gb113 hg w3 hbox hb; have n0_ := Aside0.mk (below_step (by repeat (first | (with_reducible first | exact HB.out | apply below_alloc | apply pw_below_drewN | apply below_drew1) | exact HB.out)) hb); have n1_ := Aside0.mk (hbox); have n2_ := Aside0.mk ((by rw [hg]; exact (below_size (by repeat (first | (with_reducible first | exact HB.out | apply below_alloc | apply pw_below_drewN | apply below_drew1) | exact HB.out))) : w.heap.size ≤ gb113)); have n3_ := n2_; clear HB; have HB := n0_; have BK113 := n1_; have GW113 := n2_; have GE113 := n3_; clear n0_ n1_ n2_ n3_; clear hb hbox hg; obtain ⟨hcz4_0, hcz4_1, hcz4_2, hcz4_3⟩ := blkC4 w3 gb113 (.int .i64 a0_0) (.int .i64 a0_1) (.string a0_2) (.bool a0_3) BK113.out; obtain ⟨hfz4_0, hfz4_1, hfz4_2, hfz4_3⟩ := blkF4 BK113.out) | ((with_reducible refine gate_dst (N := 3) rfl ?_); refine box_event ?hg (N := 3) ?hd (cs := #[.int .i64 0, .int .i64 0, .string (⟨#[]⟩ : ByteArray), .bool false]) (t := 29) ?hr ?_; (case hd => rfl); (case hg => rfl); (case hr => first | (go_simp; done) | (go_simp; rfl)); intro gb114 hg w5 hbox hb; have n0_ := Aside0.mk (blk_below (g := gb113) (o := .cells #[.int .i64 a0_0, .int .i64 a0_1, .string a0_2, .bool a0_3] 29 (0, 0)) (by (with_reducible repeat (first | apply bN | apply bD | apply bA)); exact BK113.out) hb); have n1_ := Aside0.mk (below_step (by repeat (first | (with_reducible first | exact HB.out | apply below_alloc | apply pw_below_drewN | apply below_drew1 | refine below_set ?_ GE113.out) | exact HB.out)) hb); have n2_ := Aside0.mk (hbox); have n3_ := Aside0.mk ((by rw [hg]; exact (below_size (by repeat (first | (with_reducible first | exact HB.out | apply below_alloc | apply pw_below_drewN | apply below_drew1 | refine below_set ?_ GE113.out) | exact HB.out))) : w.heap.size ≤ gb114)); have n4_ := n3_; have n5_ := Aside0.mk ((by rw [hg]; exact Nat.ne_of_lt (blk_lt (g := gb113) (o := .cells #[.int .i64 a0_0, .int .i64 a0_1, .string a0_2, .bool a0_3] 29 (0, 0)) (by (with_reducible repeat (first | apply bN | apply bD | apply bA)); exact BK113.out)) : gb113 ≠ gb114)); have n6_ := Aside0.mk ((by rw [hg]; exact Nat.ne_of_gt (blk_lt (g := gb113) (o := .cells #[.int .i64 a0_0, .int .i64 a0_1, .string a0_2, .bool a0_3] 29 (0, 0)) (by (with_reducible repeat (first | apply bN | apply bD | apply bA)); exact BK113.out)) : gb114 ≠ gb113)); clear BK113; clear HB; have BK113 := n0_; have HB := n1_; have BK114 := n2_; have GW114 := n3_; have GE114 := n4_; have NB113_114 := n5_; have NB114_113 := n6_; clear n0_ n1_ n2_ n3_ n4_ n5_ n6_; clear hb hbox hg; have hnb6 := NB114_113.out; have hnc6 := NB113_114.out; obtain ⟨hcz7_0, hcz7_1, hcz7_2, hcz7_3⟩ := blkC4 w5 gb114 (.int .i64 0) (.int .i64 0) (.string (⟨#[]⟩ : ByteArray)) (.bool false) BK114.out; obtain ⟨hfz7_0, hfz7_1, hfz7_2, hfz7_3⟩ := blkF4 BK114.out; obtain ⟨hcz8_0, hcz8_1, hcz8_2, hcz8_3⟩ := blkC4 w5 gb113 (.int .i64 a0_0) (.int .i64 a0_1) (.string a0_2) (.bool a0_3) BK113.out; obtain ⟨hfz8_0, hfz8_1, hfz8_2, hfz8_3⟩ := blkF4 BK113.out))
 (try simp only [Act.put, List.setIfInBounds_toArray, List.set_cons_zero, List.set_cons_succ])
 go_cut [9] (fun v9 wc => ∃ (kq : Nat) (x9_1 : Bool), v9 = .bool x9_1 ∧ Aside0 (code_Fit.j0 kq a0_0 x9_1 a0_0 a0_1 a0_2 a0_3 a0_0 0 (⟨#[]⟩ : ByteArray) false = some r) ∧ Aside0 (kq ≤ k) ∧ Aside0 (wc.heap[gb113]? = some (.cells #[.int .i64 a0_0, .int .i64 a0_1, .string a0_2, .bool a0_3] 29 (0, 0))) ∧ Aside0 (wc.heap[gb114]? = some (.cells #[.int .i64 a0_0, .int .i64 0, .string (⟨#[]⟩ : ByteArray), .bool false] 29 (0, 0))) ∧ Aside0 (Below w.heap.size w wc))
 case first =>
  have H := HC2.out
  clear HC2
  by_cases c9 : a0_0 = 1
  ·rw [if_pos c9] at H
   have c9b0 : (a0_0 == 1) = true := beq_iff_eq.mpr c9
   have c9b1 : (a0_0 != 1) = false := bne_eq_false_iff_eq.mpr c9
   clear c9
   (first | rw [c9b0] | (simp only [i64_w, i32_w]; rw [c9b0]) | skip)
   have H' := Aside0.mk H
   clear H
   go_wp2
   go_meet
   case rel => exact ⟨_, ((a0_0 == 1)), (by first | rfl | (simp; done) | (simp [*]; done)), H', ⟨by first | omega | exact Nat.le_refl _⟩, ⟨by (with_reducible repeat (first | apply bN | apply bD | apply bA)); refine blk_far ?_ NB113_114.out _; (with_reducible repeat (first | apply bN | apply bD | apply bA)); refine blk_far ?_ NB113_114.out _; (with_reducible repeat (first | apply bN | apply bD | apply bA)); refine blk_far ?_ NB113_114.out _; (with_reducible repeat (first | apply bN | apply bD | apply bA)); refine blk_far ?_ NB113_114.out _; (with_reducible repeat (first | apply bN | apply bD | apply bA)); exact BK113.out⟩, ⟨by (with_reducible repeat (first | apply bN | apply bD | apply bA)); refine blk_put (cs := #[.int .i64 a0_0, .int .i64 0, .string (⟨#[]⟩ : ByteArray), .bool false]) ?_ 3 _ rfl; (with_reducible repeat (first | apply bN | apply bD | apply bA)); refine blk_put (cs := #[.int .i64 a0_0, .int .i64 0, .string (⟨#[]⟩ : ByteArray), .bool false]) ?_ 2 _ rfl; (with_reducible repeat (first | apply bN | apply bD | apply bA)); refine blk_put (cs := #[.int .i64 a0_0, .int .i64 0, .string (⟨#[]⟩ : ByteArray), .bool false]) ?_ 1 _ rfl; (with_reducible repeat (first | apply bN | apply bD | apply bA)); refine blk_put (cs := #[.int .i64 0, .int .i64 0, .string (⟨#[]⟩ : ByteArray), .bool false]) ?_ 0 _ rfl; (with_reducible repeat (first | apply bN | apply bD | apply bA)); exact BK114.out⟩, ⟨by repeat (first | (with_reducible first | exact HB.out | apply below_alloc | apply pw_below_drewN | apply below_drew1 | refine below_set ?_ (Aside0.out ‹_›)) | exact HB.out)⟩⟩
  ·rw [if_neg c9] at H
   have c9b0 : (a0_0 == 1) = false := beq_eq_false_iff_ne.mpr c9
   have c9b1 : (a0_0 != 1) = true := bne_iff_ne.mpr c9
   (first | rw [c9b0] | (simp only [i64_w, i32_w]; rw [c9b0]) | skip)
   have H' := Aside0.mk H
   clear H
   go_wp2
   go_meet
   case rel => exact ⟨_, ((a0_0 == 3)), (by first | rfl | (simp; done) | (simp [*]; done)), H', ⟨by first | omega | exact Nat.le_refl _⟩, ⟨by (with_reducible repeat (first | apply bN | apply bD | apply bA)); refine blk_far ?_ NB113_114.out _; (with_reducible repeat (first | apply bN | apply bD | apply bA)); refine blk_far ?_ NB113_114.out _; (with_reducible repeat (first | apply bN | apply bD | apply bA)); refine blk_far ?_ NB113_114.out _; (with_reducible repeat (first | apply bN | apply bD | apply bA)); refine blk_far ?_ NB113_114.out _; (with_reducible repeat (first | apply bN | apply bD | apply bA)); exact BK113.out⟩, ⟨by (with_reducible repeat (first | apply bN | apply bD | apply bA)); refine blk_put (cs := #[.int .i64 a0_0, .int .i64 0, .string (⟨#[]⟩ : ByteArray), .bool false]) ?_ 3 _ rfl; (with_reducible repeat (first | apply bN | apply bD | apply bA)); refine blk_put (cs := #[.int .i64 a0_0, .int .i64 0, .string (⟨#[]⟩ : ByteArray), .bool false]) ?_ 2 _ rfl; (with_reducible repeat (first | apply bN | apply bD | apply bA)); refine blk_put (cs := #[.int .i64 a0_0, .int .i64 0, .string (⟨#[]⟩ : ByteArray), .bool false]) ?_ 1 _ rfl; (with_reducible repeat (first | apply bN | apply bD | apply bA)); refine blk_put (cs := #[.int .i64 0, .int .i64 0, .string (⟨#[]⟩ : ByteArray), .bool false]) ?_ 0 _ rfl; (with_reducible repeat (first | apply bN | apply bD | apply bA)); exact BK114.out⟩, ⟨by repeat (first | (with_reducible first | exact HB.out | apply below_alloc | apply pw_below_drewN | apply below_drew1 | refine below_set ?_ (Aside0.out ‹_›)) | exact HB.out)⟩⟩
 case rest =>
  clear HC2
  try clear c1
  try clear p2
  try clear c6
  try clear c9
  try clear c9b0
  try clear c9b1
  try clear hcz4_0 hcz4_1 hcz4_2 hcz4_3
  try clear hcz7_0 hcz7_1 hcz7_2 hcz7_3
  try clear hcz8_0 hcz8_1 hcz8_2 hcz8_3
  try clear hfz4_0 hfz4_1 hfz4_2 hfz4_3
  try clear hfz7_0 hfz7_1 hfz7_2 hfz7_3
  try clear hfz8_0 hfz8_1 hfz8_2 hfz8_3
  obtain ⟨kq, x9_1, rfl, HA, HJ1, BK113, BK114, HB⟩ := hcut
  cases kq with
  | zero => exact absurd HA.out (by simp [code_Fit.j0])
  | succ kj1 =>
   have H := HA.out
   clear HA
   simp only [code_Fit.j0] at H
   by_cases c10 : x9_1 = true
   ·subst c10
    have H1 : (if a0_1 < 0 then (some false) else (if a0_0 = 3 then (if a0_1 > 4294967295 then (some false) else (some (a0_0 == a0_0 && ((⟨#[]⟩ : ByteArray).toList == a0_2.toList && (false == a0_3))))) else (some (a0_0 == a0_0 && ((⟨#[]⟩ : ByteArray).toList == a0_2.toList && (false == a0_3)))))) = some r := by rw [if_pos rfl] at H; exact H
    clear H
    have H := H1
    clear H1
    by_cases c11 : a0_1 < 0
    ·rw [if_pos c11] at H
     have c11b0 : decide (a0_1 < 0) = true := decide_eq_true c11
     clear c11
     obtain rfl := Option.some.inj H
     have hnb12 := NB113_114.out
     have hnc12 := NB114_113.out
     obtain ⟨hcz13_0, hcz13_1, hcz13_2, hcz13_3⟩ := blkC4 wc gb113 (.int .i64 a0_0) (.int .i64 a0_1) (.string a0_2) (.bool a0_3) BK113.out
     obtain ⟨hfz13_0, hfz13_1, hfz13_2, hfz13_3⟩ := blkF4 BK113.out
     go_wp2
     go_ret
     exact ⟨by first | rfl | (simp [errW_none, errW_some] <;> rfl) | (simp [*, errW_none, errW_some] <;> rfl), by repeat (first | (with_reducible first | exact HB.out | apply below_alloc | apply pw_below_drewN | apply below_drew1 | refine below_set ?_ (Aside0.out ‹_›)) | exact HB.out)⟩
    ·rw [if_neg c11] at H
     have c11b0 : decide (a0_1 < 0) = false := decide_eq_false c11
     clear c11
     by_cases c14 : a0_0 = 3
     ·rw [if_pos c14] at H
      have c14b0 : (a0_0 == 3) = true := beq_iff_eq.mpr c14
      have c14b1 : (a0_0 != 3) = false := bne_eq_false_iff_eq.mpr c14
      clear c14
      by_cases c15 : a0_1 > 4294967295
      ·rw [if_pos c15] at H
       have c15b0 : decide (4294967295 < a0_1) = true := decide_eq_true c15
       clear c15
       obtain rfl := Option.some.inj H
       have hnb16 := NB113_114.out
       have hnc16 := NB114_113.out
       obtain ⟨hcz17_0, hcz17_1, hcz17_2, hcz17_3⟩ := blkC4 wc gb113 (.int .i64 a0_0) (.int .i64 a0_1) (.string a0_2) (.bool a0_3) BK113.out
       obtain ⟨hfz17_0, hfz17_1, hfz17_2, hfz17_3⟩ := blkF4 BK113.out
       go_wp2
       go_ret
       exact ⟨by first | rfl | (simp [errW_none, errW_some] <;> rfl) | (simp [*, errW_none, errW_some] <;> rfl), by repeat (first | (with_reducible first | exact HB.out | apply below_alloc | apply pw_below_drewN | apply below_drew1 | refine below_set ?_ (Aside0.out ‹_›)) | exact HB.out)⟩
      ·rw [if_neg c15] at H
       have c15b0 : decide (4294967295 < a0_1) = false := decide_eq_false c15
       clear c15
       obtain rfl := Option.some.inj H
       have hnb18 := NB113_114.out
       have hnc18 := NB114_113.out
       obtain ⟨hcz19_0, hcz19_1, hcz19_2, hcz19_3⟩ := blkC4 wc gb113 (.int .i64 a0_0) (.int .i64 a0_1) (.string a0_2) (.bool a0_3) BK113.out
       obtain ⟨hfz19_0, hfz19_1, hfz19_2, hfz19_3⟩ := blkF4 BK113.out
       obtain ⟨hcz20_0, hcz20_1, hcz20_2, hcz20_3⟩ := blkC4 wc gb114 (.int .i64 a0_0) (.int .i64 0) (.string (⟨#[]⟩ : ByteArray)) (.bool false) BK114.out
       obtain ⟨hfz20_0, hfz20_1, hfz20_2, hfz20_3⟩ := blkF4 BK114.out
       go_wp2
       go_ret
       exact ⟨by first | rfl | (simp [errW_none, errW_some] <;> rfl) | (simp [*, errW_none, errW_some] <;> rfl), by repeat (first | (with_reducible first | exact HB.out | apply below_alloc | apply pw_below_drewN | apply below_drew1 | refine below_set ?_ (Aside0.out ‹_›)) | exact HB.out)⟩
     ·rw [if_neg c14] at H
      have c14b0 : (a0_0 == 3) = false := beq_eq_false_iff_ne.mpr c14
      have c14b1 : (a0_0 != 3) = true := bne_iff_ne.mpr c14
      obtain rfl := Option.some.inj H
      have hnb21 := NB113_114.out
      have hnc21 := NB114_113.out
      obtain ⟨hcz22_0, hcz22_1, hcz22_2, hcz22_3⟩ := blkC4 wc gb113 (.int .i64 a0_0) (.int .i64 a0_1) (.string a0_2) (.bool a0_3) BK113.out
      obtain ⟨hfz22_0, hfz22_1, hfz22_2, hfz22_3⟩ := blkF4 BK113.out
      obtain ⟨hcz23_0, hcz23_1, hcz23_2, hcz23_3⟩ := blkC4 wc gb114 (.int .i64 a0_0) (.int .i64 0) (.string (⟨#[]⟩ : ByteArray)) (.bool false) BK114.out
      obtain ⟨hfz23_0, hfz23_1, hfz23_2, hfz23_3⟩ := blkF4 BK114.out
      go_wp2
      go_ret
      exact ⟨by first | rfl | (simp [errW_none, errW_some] <;> rfl) | (simp [*, errW_none, errW_some] <;> rfl), by repeat (first | (with_reducible first | exact HB.out | apply below_alloc | apply pw_below_drewN | apply below_drew1 | refine below_set ?_ (Aside0.out ‹_›)) | exact HB.out)⟩
   ·replace c10 := Bool.eq_false_iff.mpr c10
    subst c10
    have H1 : (if a0_0 = 2 then (some (a0_0 == a0_0 && ((⟨#[]⟩ : ByteArray).toList == a0_2.toList && (false == a0_3)))) else (if a0_0 = 4 then (some (a0_0 == a0_0 && (0 == a0_1 && (false == a0_3)))) else (if a0_0 = 5 then (some (a0_0 == a0_0 && (0 == a0_1 && ((⟨#[]⟩ : ByteArray).toList == a0_2.toList)))) else (some false)))) = some r := by rw [if_neg (show ¬ (false = true) by decide)] at H; exact H
    clear H
    have H := H1
    clear H1
    by_cases c24 : a0_0 = 2
    ·rw [if_pos c24] at H
     have c24b0 : (a0_0 == 2) = true := beq_iff_eq.mpr c24
     have c24b1 : (a0_0 != 2) = false := bne_eq_false_iff_eq.mpr c24
     clear c24
     obtain rfl := Option.some.inj H
     have hnb25 := NB113_114.out
     have hnc25 := NB114_113.out
     obtain ⟨hcz26_0, hcz26_1, hcz26_2, hcz26_3⟩ := blkC4 wc gb113 (.int .i64 a0_0) (.int .i64 a0_1) (.string a0_2) (.bool a0_3) BK113.out
     obtain ⟨hfz26_0, hfz26_1, hfz26_2, hfz26_3⟩ := blkF4 BK113.out
     obtain ⟨hcz27_0, hcz27_1, hcz27_2, hcz27_3⟩ := blkC4 wc gb114 (.int .i64 a0_0) (.int .i64 0) (.string (⟨#[]⟩ : ByteArray)) (.bool false) BK114.out
     obtain ⟨hfz27_0, hfz27_1, hfz27_2, hfz27_3⟩ := blkF4 BK114.out
     go_wp2
     go_ret
     exact ⟨by first | rfl | (simp [errW_none, errW_some] <;> rfl) | (simp [*, errW_none, errW_some] <;> rfl), by repeat (first | (with_reducible first | exact HB.out | apply below_alloc | apply pw_below_drewN | apply below_drew1 | refine below_set ?_ (Aside0.out ‹_›)) | exact HB.out)⟩
    ·rw [if_neg c24] at H
     have c24b0 : (a0_0 == 2) = false := beq_eq_false_iff_ne.mpr c24
     have c24b1 : (a0_0 != 2) = true := bne_iff_ne.mpr c24
     by_cases c28 : a0_0 = 4
     ·rw [if_pos c28] at H
      have c28b0 : (a0_0 == 4) = true := beq_iff_eq.mpr c28
      have c28b1 : (a0_0 != 4) = false := bne_eq_false_iff_eq.mpr c28
      clear c28
      obtain rfl := Option.some.inj H
      have hnb29 := NB113_114.out
      have hnc29 := NB114_113.out
      obtain ⟨hcz30_0, hcz30_1, hcz30_2, hcz30_3⟩ := blkC4 wc gb113 (.int .i64 a0_0) (.int .i64 a0_1) (.string a0_2) (.bool a0_3) BK113.out
      obtain ⟨hfz30_0, hfz30_1, hfz30_2, hfz30_3⟩ := blkF4 BK113.out
      obtain ⟨hcz31_0, hcz31_1, hcz31_2, hcz31_3⟩ := blkC4 wc gb114 (.int .i64 a0_0) (.int .i64 0) (.string (⟨#[]⟩ : ByteArray)) (.bool false) BK114.out
      obtain ⟨hfz31_0, hfz31_1, hfz31_2, hfz31_3⟩ := blkF4 BK114.out
      go_wp2
      go_ret
      exact ⟨by first | rfl | (simp [errW_none, errW_some] <;> rfl) | (simp [*, errW_none, errW_some] <;> rfl), by repeat (first | (with_reducible first | exact HB.out | apply below_alloc | apply pw_below_drewN | apply below_drew1 | refine below_set ?_ (Aside0.out ‹_›)) | exact HB.out)⟩
     ·rw [if_neg c28] at H
      have c28b0 : (a0_0 == 4) = false := beq_eq_false_iff_ne.mpr c28
      have c28b1 : (a0_0 != 4) = true := bne_iff_ne.mpr c28
      by_cases c32 : a0_0 = 5
      ·rw [if_pos c32] at H
       have c32b0 : (a0_0 == 5) = true := beq_iff_eq.mpr c32
       have c32b1 : (a0_0 != 5) = false := bne_eq_false_iff_eq.mpr c32
       clear c32
       obtain rfl := Option.some.inj H
       have hnb33 := NB113_114.out
       have hnc33 := NB114_113.out
       obtain ⟨hcz34_0, hcz34_1, hcz34_2, hcz34_3⟩ := blkC4 wc gb113 (.int .i64 a0_0) (.int .i64 a0_1) (.string a0_2) (.bool a0_3) BK113.out
       obtain ⟨hfz34_0, hfz34_1, hfz34_2, hfz34_3⟩ := blkF4 BK113.out
       obtain ⟨hcz35_0, hcz35_1, hcz35_2, hcz35_3⟩ := blkC4 wc gb114 (.int .i64 a0_0) (.int .i64 0) (.string (⟨#[]⟩ : ByteArray)) (.bool false) BK114.out
       obtain ⟨hfz35_0, hfz35_1, hfz35_2, hfz35_3⟩ := blkF4 BK114.out
       go_wp2
       go_ret
       exact ⟨by first | rfl | (simp [errW_none, errW_some] <;> rfl) | (simp [*, errW_none, errW_some] <;> rfl), by repeat (first | (with_reducible first | exact HB.out | apply below_alloc | apply pw_below_drewN | apply below_drew1 | refine below_set ?_ (Aside0.out ‹_›)) | exact HB.out)⟩
      ·rw [if_neg c32] at H
       have c32b0 : (a0_0 == 5) = false := beq_eq_false_iff_ne.mpr c32
       have c32b1 : (a0_0 != 5) = true := bne_iff_ne.mpr c32
       obtain rfl := Option.some.inj H
       go_wp2
       go_ret
       exact ⟨by first | rfl | (simp [errW_none, errW_some] <;> rfl) | (simp [*, errW_none, errW_some] <;> rfl), by repeat (first | (with_reducible first | exact HB.out | apply below_alloc | apply pw_below_drewN | apply below_drew1 | refine below_set ?_ (Aside0.out ‹_›)) | exact HB.out)⟩
end Go.Proofs.YtcheinjlgojepaaDoor.P
