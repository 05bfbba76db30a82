-- left of the seat's texts by prune.py, a program of this session
import Derived.Test.YtcheinjlgojepaaDoorP0
import Derived.Test.YtcheinjlgojepaaDoorP1
import Derived.Test.YtcheinjlgojepaaDoorP4
import Derived.Test.YtcheinjlgojepaaDoorP6
namespace Go.Proofs.YtcheinjlgojepaaDoor.P
open Go.RowKit Go.Proofs.YtcheinjlgojepaaDoorW.PrintWords Go.Proofs.YtcheinjlgojepaaDoorW.PrintLast Go.Proofs.YtcheinjlgojepaaDoorW.PrintMore
attribute [local go_sem] max2_int min2_int max_two min_two max_three min_three max_four min_four   -- for this text's walks alone
set_option linter.unusedVariables false
set_option linter.unusedSimpArgs false
attribute [local go_sem high] eqA29
def reefref02_Fit.f (a0_0 : Int) (a0_1 : Int) (a0_2 : ByteArray) (a0_3 : Bool) : Option (Bool) := if a0_0 = 1 then (some (a0_1 == (mx a0_1 0) && (a0_2.toList == ([] : List UInt8) && (!a0_3)))) else (if a0_0 = 2 then (some (a0_2.toList == ([] : List UInt8) && (!a0_3))) else (if a0_0 = 3 then (some (a0_1 == (mn (mx a0_1 0) 4294967295) && (a0_2.toList == ([] : List UInt8) && (!a0_3)))) else (if a0_0 = 4 then (some (a0_1 == 0 && (!a0_3))) else (if a0_0 = 5 then (some (a0_1 == 0 && (a0_2.toList == ([] : List UInt8)))) else (some false)))))
set_option maxHeartbeats 8000000 in
set_option maxRecDepth 100000 in
theorem reefref02_Fit.calls (a0_0 : Int) (a0_1 : Int) (a0_2 : ByteArray) (a0_3 : Bool) (r : Bool) (w : World) (h : reefref02_Fit.f a0_0 a0_1 a0_2 a0_3 = some r) :
  Calls Tryd.prog 12 #[.agg #[.int .i64 a0_0, .int .i64 a0_1, .string a0_2, .bool a0_3]] w fun e w' => e = .returned (.bool r) ∧ Below w.heap.size w w' := by
 have hu29 := Tryd.underlying29
 have HB := Aside0.mk (Below.refl w.heap.size w)
 have HC2 := Aside0.mk (show (if a0_0 = 1 then (some (a0_1 == (mx a0_1 0) && (a0_2.toList == ([] : List UInt8) && (!a0_3)))) else (if a0_0 = 2 then (some (a0_2.toList == ([] : List UInt8) && (!a0_3))) else (if a0_0 = 3 then (some (a0_1 == (mn (mx a0_1 0) 4294967295) && (a0_2.toList == ([] : List UInt8) && (!a0_3)))) else (if a0_0 = 4 then (some (a0_1 == 0 && (!a0_3))) else (if a0_0 = 5 then (some (a0_1 == 0 && (a0_2.toList == ([] : List UInt8)))) else (some false)))))) = some r from h)
 clear h
 go_enter Tryd.func12, Tryd.ntmps12
 go_upto_region 2 with (first | ((with_reducible refine gate_dst (N := 1) rfl ?_); refine box_event ?hg (N := 1) ?hd (cs := #[.int .i64 a0_0, .int .i64 a0_1, .string a0_2, .bool a0_3]) (t := 29) ?hr ?_; (case hd => rfl); (case hg => rfl); (case hr => first | (go_simp; done) | (go_simp; rfl)); intro gb227 hg w4 hbox hb; have n0_ := Aside0.mk (below_step (by repeat (first | (with_reducible first | exact HB.out | apply below_alloc | apply pw_below_drewN | apply below_drew1) | exact HB.out)) hb); have n1_ := Aside0.mk (hbox); have n2_ := Aside0.mk ((by rw [hg]; exact (below_size (by repeat (first | (with_reducible first | exact HB.out | apply below_alloc | apply pw_below_drewN | apply below_drew1) | exact HB.out))) : w.heap.size ≤ gb227)); have n3_ := n2_; clear HB; have HB := n0_; have BK227 := n1_; have GW227 := n2_; have GE227 := n3_; clear n0_ n1_ n2_ n3_; clear hb hbox hg; obtain ⟨hcz5_0, hcz5_1, hcz5_2, hcz5_3⟩ := blkC4 w4 gb227 (.int .i64 a0_0) (.int .i64 a0_1) (.string a0_2) (.bool a0_3) BK227.out; obtain ⟨hfz5_0, hfz5_1, hfz5_2, hfz5_3⟩ := blkF4 BK227.out) | ((with_reducible refine gate_dst (N := 3) rfl ?_); refine box_event ?hg (N := 3) ?hd (cs := #[.int .i64 0, .int .i64 0, .string (⟨#[]⟩ : ByteArray), .bool false]) (t := 29) ?hr ?_; (case hd => rfl); (case hg => rfl); (case hr => first | (go_simp; done) | (go_simp; rfl)); intro gb228 hg w6 hbox hb; have n0_ := Aside0.mk (blk_below (g := gb227) (o := .cells #[.int .i64 a0_0, .int .i64 a0_1, .string a0_2, .bool a0_3] 29 (0, 0)) (by (with_reducible repeat (first | apply bN | apply bD | apply bA)); exact BK227.out) hb); have n1_ := Aside0.mk (below_step (by repeat (first | (with_reducible first | exact HB.out | apply below_alloc | apply pw_below_drewN | apply below_drew1 | refine below_set ?_ GE227.out) | exact HB.out)) hb); have n2_ := Aside0.mk (hbox); have n3_ := Aside0.mk ((by rw [hg]; exact (below_size (by repeat (first | (with_reducible first | exact HB.out | apply below_alloc | apply pw_below_drewN | apply below_drew1 | refine below_set ?_ GE227.out) | exact HB.out))) : w.heap.size ≤ gb228)); have n4_ := n3_; have n5_ := Aside0.mk ((by rw [hg]; exact Nat.ne_of_lt (blk_lt (g := gb227) (o := .cells #[.int .i64 a0_0, .int .i64 a0_1, .string a0_2, .bool a0_3] 29 (0, 0)) (by (with_reducible repeat (first | apply bN | apply bD | apply bA)); exact BK227.out)) : gb227 ≠ gb228)); have n6_ := Aside0.mk ((by rw [hg]; exact Nat.ne_of_gt (blk_lt (g := gb227) (o := .cells #[.int .i64 a0_0, .int .i64 a0_1, .string a0_2, .bool a0_3] 29 (0, 0)) (by (with_reducible repeat (first | apply bN | apply bD | apply bA)); exact BK227.out)) : gb228 ≠ gb227)); clear BK227; clear HB; have BK227 := n0_; have HB := n1_; have BK228 := n2_; have GW228 := n3_; have GE228 := n4_; have NB227_228 := n5_; have NB228_227 := n6_; clear n0_ n1_ n2_ n3_ n4_ n5_ n6_; clear hb hbox hg; have hnb7 := NB228_227.out; have hnc7 := NB227_228.out; obtain ⟨hcz8_0, hcz8_1, hcz8_2, hcz8_3⟩ := blkC4 w6 gb228 (.int .i64 0) (.int .i64 0) (.string (⟨#[]⟩ : ByteArray)) (.bool false) BK228.out; obtain ⟨hfz8_0, hfz8_1, hfz8_2, hfz8_3⟩ := blkF4 BK228.out; obtain ⟨hcz9_0, hcz9_1, hcz9_2, hcz9_3⟩ := blkC4 w6 gb227 (.int .i64 a0_0) (.int .i64 a0_1) (.string a0_2) (.bool a0_3) BK227.out; obtain ⟨hfz9_0, hfz9_1, hfz9_2, hfz9_3⟩ := blkF4 BK227.out))
 (try simp only [Act.put, List.setIfInBounds_toArray, List.set_cons_zero, List.set_cons_succ])
 go_cut [8] (fun v8 wc => v8 = .int .i64 a0_0 ∧ Aside0 (wc.heap[gb227]? = some (.cells #[.int .i64 a0_0, .int .i64 a0_1, .string a0_2, .bool a0_3] 29 (0, 0))) ∧ Aside0 (wc.heap[gb228]? = some (.cells #[.int .i64 a0_0, .int .i64 0, .string (⟨#[]⟩ : ByteArray), .bool false] 29 (0, 0))) ∧ Aside0 (Below w.heap.size w wc))
 case first =>
  go_wp2
  go_meet
  case rel => exact ⟨by first | rfl | (simp; done) | (simp [*]; done), ⟨by (with_reducible repeat (first | apply bN | apply bD | apply bA)); refine blk_far ?_ NB227_228.out _; (with_reducible repeat (first | apply bN | apply bD | apply bA)); refine blk_far ?_ NB227_228.out _; (with_reducible repeat (first | apply bN | apply bD | apply bA)); refine blk_far ?_ NB227_228.out _; (with_reducible repeat (first | apply bN | apply bD | apply bA)); refine blk_far ?_ NB227_228.out _; (with_reducible repeat (first | apply bN | apply bD | apply bA));  exact BK227.out⟩, ⟨by (with_reducible repeat (first | apply bN | apply bD | apply bA)); refine blk_put (cs := #[.int .i64 a0_0, .int .i64 0, .string (⟨#[]⟩ : ByteArray), .bool false]) ?_ 3 _ rfl; (with_reducible repeat (first | apply bN | apply bD | apply bA)); refine blk_put (cs := #[.int .i64 a0_0, .int .i64 0, .string (⟨#[]⟩ : ByteArray), .bool false]) ?_ 2 _ rfl; (with_reducible repeat (first | apply bN | apply bD | apply bA)); refine blk_put (cs := #[.int .i64 a0_0, .int .i64 0, .string (⟨#[]⟩ : ByteArray), .bool false]) ?_ 1 _ rfl; (with_reducible repeat (first | apply bN | apply bD | apply bA)); refine blk_put (cs := #[.int .i64 0, .int .i64 0, .string (⟨#[]⟩ : ByteArray), .bool false]) ?_ 0 _ rfl; (with_reducible repeat (first | apply bN | apply bD | apply bA));  exact BK228.out⟩, ⟨(by repeat (first | (with_reducible first | exact HB.out | apply below_alloc | apply pw_below_drewN | apply below_drew1 | refine below_set ?_ (Aside0.out ‹_›)) | exact HB.out))⟩⟩
 case rest =>
  try clear hcz5_0 hcz5_1 hcz5_2 hcz5_3
  try clear hcz8_0 hcz8_1 hcz8_2 hcz8_3
  try clear hcz9_0 hcz9_1 hcz9_2 hcz9_3
  try clear hfz5_0 hfz5_1 hfz5_2 hfz5_3
  try clear hfz8_0 hfz8_1 hfz8_2 hfz8_3
  try clear hfz9_0 hfz9_1 hfz9_2 hfz9_3
  try clear hnb7
  try clear hnc7
  obtain ⟨rfl, BK227, BK228, HB⟩ := hcut
  have H := HC2.out
  clear HC2
  by_cases c2 : a0_0 = 1
  ·rw [if_pos c2] at H
   have c2b0 : (a0_0 == 1) = true := beq_iff_eq.mpr c2
   have c2b1 : (a0_0 != 1) = false := bne_eq_false_iff_eq.mpr c2
   clear c2
   obtain ⟨ji3, hji3⟩ : ∃ j_ : Int, (mx a0_1 0) = j_ := ⟨_, rfl⟩
   replace H : (some (a0_1 == (ji3) && (a0_2.toList == ([] : List UInt8) && (!a0_3)))) = some r := by first | (rw [hji3] at H; exact H) | (simp only [hji3] at H ⊢; exact H)
   (try (have hji3l : 0 ≤ ji3 := by (rw [← hji3]; unfold mx; (repeat' split) <;> omega)))
   (try (have hji3m : 0 ≤ ji3 := by omega))
   have hji3_ : (if a0_1 < 0 then 0 else a0_1) = ji3 := hji3
   obtain rfl := Option.some.inj H
   have hnb9 := NB227_228.out
   have hnc9 := NB228_227.out
   obtain ⟨hcz8_0, hcz8_1, hcz8_2, hcz8_3⟩ := blkC4 _ gb227 (.int .i64 a0_0) (.int .i64 a0_1) (.string a0_2) (.bool a0_3) BK227.out
   obtain ⟨hfz8_0, hfz8_1, hfz8_2, hfz8_3⟩ := blkF4 BK227.out
   obtain ⟨hcz9_0, hcz9_1, hcz9_2, hcz9_3⟩ := blkC4 _ gb228 (.int .i64 a0_0) (.int .i64 0) (.string (⟨#[]⟩ : ByteArray)) (.bool false) BK228.out
   obtain ⟨hfz9_0, hfz9_1, hfz9_2, hfz9_3⟩ := blkF4 BK228.out
   go_wp2
   go_ret
   exact ⟨by first | rfl | (simp [errW_none, errW_some] <;> rfl) | (simp only [← hji3]; first | rfl | (simp [errW_none, errW_some] <;> rfl)) | (simp [*, errW_none, errW_some] <;> rfl), by repeat (first | (with_reducible first | exact HB.out | apply below_alloc | apply pw_below_drewN | apply below_drew1 | refine below_set ?_ (Aside0.out ‹_›)) | exact HB.out)⟩
  ·rw [if_neg c2] at H
   have c2b0 : (a0_0 == 1) = false := beq_eq_false_iff_ne.mpr c2
   have c2b1 : (a0_0 != 1) = true := bne_iff_ne.mpr c2
   by_cases c10 : a0_0 = 2
   ·rw [if_pos c10] at H
    have c10b0 : (a0_0 == 2) = true := beq_iff_eq.mpr c10
    have c10b1 : (a0_0 != 2) = false := bne_eq_false_iff_eq.mpr c10
    clear c10
    obtain rfl := Option.some.inj H
    have hnb9 := NB227_228.out
    have hnc9 := NB228_227.out
    obtain ⟨hcz8_0, hcz8_1, hcz8_2, hcz8_3⟩ := blkC4 _ gb227 (.int .i64 a0_0) (.int .i64 a0_1) (.string a0_2) (.bool a0_3) BK227.out
    obtain ⟨hfz8_0, hfz8_1, hfz8_2, hfz8_3⟩ := blkF4 BK227.out
    obtain ⟨hcz9_0, hcz9_1, hcz9_2, hcz9_3⟩ := blkC4 _ gb228 (.int .i64 a0_0) (.int .i64 0) (.string (⟨#[]⟩ : ByteArray)) (.bool false) BK228.out
    obtain ⟨hfz9_0, hfz9_1, hfz9_2, hfz9_3⟩ := blkF4 BK228.out
    go_wp2
    go_ret
    exact ⟨by first | rfl | (simp [errW_none, errW_some] <;> rfl) | (simp [*, errW_none, errW_some] <;> rfl), by repeat (first | (with_reducible first | exact HB.out | apply below_alloc | apply pw_below_drewN | apply below_drew1 | refine below_set ?_ (Aside0.out ‹_›)) | exact HB.out)⟩
   ·rw [if_neg c10] at H
    have c10b0 : (a0_0 == 2) = false := beq_eq_false_iff_ne.mpr c10
    have c10b1 : (a0_0 != 2) = true := bne_iff_ne.mpr c10
    by_cases c17 : a0_0 = 3
    ·rw [if_pos c17] at H
     have c17b0 : (a0_0 == 3) = true := beq_iff_eq.mpr c17
     have c17b1 : (a0_0 != 3) = false := bne_eq_false_iff_eq.mpr c17
     clear c17
     obtain ⟨ji18, hji18⟩ : ∃ j_ : Int, (mx a0_1 0) = j_ := ⟨_, rfl⟩
     replace H : (some (a0_1 == (mn (ji18) 4294967295) && (a0_2.toList == ([] : List UInt8) && (!a0_3)))) = some r := by first | (rw [hji18] at H; exact H) | (simp only [hji18] at H ⊢; exact H)
     (try (have hji18l : 0 ≤ ji18 := by (rw [← hji18]; unfold mx; (repeat' split) <;> omega)))
     (try (have hji18m : 0 ≤ ji18 := by omega))
     have hji18_ : (if a0_1 < 0 then 0 else a0_1) = ji18 := hji18
     obtain ⟨ji19, hji19⟩ : ∃ j_ : Int, (mn (ji18) 4294967295) = j_ := ⟨_, rfl⟩
     replace H : (some (a0_1 == (ji19) && (a0_2.toList == ([] : List UInt8) && (!a0_3)))) = some r := by first | (rw [hji19] at H; exact H) | (simp only [hji19] at H ⊢; exact H)
     have hji19_ : (if 4294967295 < (ji18) then 4294967295 else (ji18)) = ji19 := hji19
     obtain rfl := Option.some.inj H
     have hnb9 := NB227_228.out
     have hnc9 := NB228_227.out
     obtain ⟨hcz8_0, hcz8_1, hcz8_2, hcz8_3⟩ := blkC4 _ gb227 (.int .i64 a0_0) (.int .i64 a0_1) (.string a0_2) (.bool a0_3) BK227.out
     obtain ⟨hfz8_0, hfz8_1, hfz8_2, hfz8_3⟩ := blkF4 BK227.out
     obtain ⟨hcz9_0, hcz9_1, hcz9_2, hcz9_3⟩ := blkC4 _ gb228 (.int .i64 a0_0) (.int .i64 0) (.string (⟨#[]⟩ : ByteArray)) (.bool false) BK228.out
     obtain ⟨hfz9_0, hfz9_1, hfz9_2, hfz9_3⟩ := blkF4 BK228.out
     go_wp2
     go_ret
     exact ⟨by first | rfl | (simp [errW_none, errW_some] <;> rfl) | (simp only [← hji18, ← hji19]; first | rfl | (simp [errW_none, errW_some] <;> rfl)) | (simp [*, errW_none, errW_some] <;> rfl), by repeat (first | (with_reducible first | exact HB.out | apply below_alloc | apply pw_below_drewN | apply below_drew1 | refine below_set ?_ (Aside0.out ‹_›)) | exact HB.out)⟩
    ·rw [if_neg c17] at H
     have c17b0 : (a0_0 == 3) = false := beq_eq_false_iff_ne.mpr c17
     have c17b1 : (a0_0 != 3) = true := bne_iff_ne.mpr c17
     by_cases c26 : a0_0 = 4
     ·rw [if_pos c26] at H
      have c26b0 : (a0_0 == 4) = true := beq_iff_eq.mpr c26
      have c26b1 : (a0_0 != 4) = false := bne_eq_false_iff_eq.mpr c26
      clear c26
      obtain rfl := Option.some.inj H
      have hnb9 := NB227_228.out
      have hnc9 := NB228_227.out
      obtain ⟨hcz8_0, hcz8_1, hcz8_2, hcz8_3⟩ := blkC4 _ gb227 (.int .i64 a0_0) (.int .i64 a0_1) (.string a0_2) (.bool a0_3) BK227.out
      obtain ⟨hfz8_0, hfz8_1, hfz8_2, hfz8_3⟩ := blkF4 BK227.out
      obtain ⟨hcz9_0, hcz9_1, hcz9_2, hcz9_3⟩ := blkC4 _ gb228 (.int .i64 a0_0) (.int .i64 0) (.string (⟨#[]⟩ : ByteArray)) (.bool false) BK228.out
      obtain ⟨hfz9_0, hfz9_1, hfz9_2, hfz9_3⟩ := blkF4 BK228.out
      go_wp2
      go_ret
      exact ⟨by first | rfl | (simp [errW_none, errW_some] <;> rfl) | (simp [*, errW_none, errW_some] <;> rfl), by repeat (first | (with_reducible first | exact HB.out | apply below_alloc | apply pw_below_drewN | apply below_drew1 | refine below_set ?_ (Aside0.out ‹_›)) | exact HB.out)⟩
     ·rw [if_neg c26] at H
      have c26b0 : (a0_0 == 4) = false := beq_eq_false_iff_ne.mpr c26
      have c26b1 : (a0_0 != 4) = true := bne_iff_ne.mpr c26
      by_cases c33 : a0_0 = 5
      ·rw [if_pos c33] at H
       have c33b0 : (a0_0 == 5) = true := beq_iff_eq.mpr c33
       have c33b1 : (a0_0 != 5) = false := bne_eq_false_iff_eq.mpr c33
       clear c33
       obtain rfl := Option.some.inj H
       have hnb9 := NB227_228.out
       have hnc9 := NB228_227.out
       obtain ⟨hcz8_0, hcz8_1, hcz8_2, hcz8_3⟩ := blkC4 _ gb227 (.int .i64 a0_0) (.int .i64 a0_1) (.string a0_2) (.bool a0_3) BK227.out
       obtain ⟨hfz8_0, hfz8_1, hfz8_2, hfz8_3⟩ := blkF4 BK227.out
       obtain ⟨hcz9_0, hcz9_1, hcz9_2, hcz9_3⟩ := blkC4 _ gb228 (.int .i64 a0_0) (.int .i64 0) (.string (⟨#[]⟩ : ByteArray)) (.bool false) BK228.out
       obtain ⟨hfz9_0, hfz9_1, hfz9_2, hfz9_3⟩ := blkF4 BK228.out
       go_wp2
       go_ret
       exact ⟨by first | rfl | (simp [errW_none, errW_some] <;> rfl) | (simp [*, errW_none, errW_some] <;> rfl), by repeat (first | (with_reducible first | exact HB.out | apply below_alloc | apply pw_below_drewN | apply below_drew1 | refine below_set ?_ (Aside0.out ‹_›)) | exact HB.out)⟩
      ·rw [if_neg c33] at H
       have c33b0 : (a0_0 == 5) = false := beq_eq_false_iff_ne.mpr c33
       have c33b1 : (a0_0 != 5) = true := bne_iff_ne.mpr c33
       obtain rfl := Option.some.inj H
       have hnb9 := NB227_228.out
       have hnc9 := NB228_227.out
       obtain ⟨hcz8_0, hcz8_1, hcz8_2, hcz8_3⟩ := blkC4 _ gb227 (.int .i64 a0_0) (.int .i64 a0_1) (.string a0_2) (.bool a0_3) BK227.out
       obtain ⟨hfz8_0, hfz8_1, hfz8_2, hfz8_3⟩ := blkF4 BK227.out
       obtain ⟨hcz9_0, hcz9_1, hcz9_2, hcz9_3⟩ := blkC4 _ gb228 (.int .i64 a0_0) (.int .i64 0) (.string (⟨#[]⟩ : ByteArray)) (.bool false) BK228.out
       obtain ⟨hfz9_0, hfz9_1, hfz9_2, hfz9_3⟩ := blkF4 BK228.out
       go_wp2
       go_ret
       exact ⟨by first | rfl | (simp [errW_none, errW_some] <;> rfl) | (simp [*, errW_none, errW_some] <;> rfl), by repeat (first | (with_reducible first | exact HB.out | apply below_alloc | apply pw_below_drewN | apply below_drew1 | refine below_set ?_ (Aside0.out ‹_›)) | exact HB.out)⟩
def code_Size.f (k : Nat) (a0_0 : Int) (a0_1 : Int) (a0_2 : ByteArray) (a0_3 : Bool) : Option (Int) := (code_Fit.f k a0_0 a0_1 a0_2 a0_3).bind fun t230 => (if t230 = true then ((code_write.f k ([] : List Int) a0_0 a0_1 a0_2 a0_3).bind fun t231 => (some (t231.length : Int))) else (some 0))
theorem code_Size.mono : ∀ a0 a1 a2 a3 k, LeO (code_Size.f k a0 a1 a2 a3) (code_Size.f (k + 1) a0 a1 a2 a3) := by
 intro a0 a1 a2 a3 k
 unfold code_Size.f
 repeat' first
   | (with_reducible exact code_Fit.mono _ _ _ _ _)
   | (with_reducible exact code_write.mono _ _ _ _ _ _)
   | (with_reducible exact LeO.refl _)
   | (with_reducible exact LeO.none _)
   | (with_reducible refine LeO.ite ?_ ?_)
   | (with_reducible refine LeO.bind ?_ (fun _ => ?_))
   | exact code_Fit.mono _ _ _ _ _
   | exact code_write.mono _ _ _ _ _ _
   | exact LeO.none _
   | refine LeO.ite ?_ ?_
   | refine LeO.bind ?_ (fun _ => ?_)
set_option maxHeartbeats 8000000 in
set_option maxRecDepth 100000 in
theorem code_Size.calls (k : Nat) (a0_0 : Int) (a0_1 : Int) (a0_2 : ByteArray) (a0_3 : Bool) (r : Int) (w : World) (h : code_Size.f k a0_0 a0_1 a0_2 a0_3 = some r) :
  Calls Tryd.prog 13 #[.agg #[.int .i64 a0_0, .int .i64 a0_1, .string a0_2, .bool a0_3]] w fun e w' => e = .returned (.int .i64 r) ∧ Below w.heap.size w w' := by
 have hu29 := Tryd.underlying29
 have HB := Aside0.mk (Below.refl w.heap.size w)
 have H : ((code_Fit.f k a0_0 a0_1 a0_2 a0_3).bind fun t230 => (if t230 = true then ((code_write.f k ([] : List Int) a0_0 a0_1 a0_2 a0_3).bind fun t231 => (some (t231.length : Int))) else (some 0))) = some r := h
 clear h
 replace H := Option.bind_eq_some_iff.mp H
 obtain ⟨t230, A20, H⟩ := H
 replace H : (if t230 = true then ((code_write.f k ([] : List Int) a0_0 a0_1 a0_2 a0_3).bind fun t231 => (some (t231.length : Int))) else (some 0)) = some r := H
 have A2 := Aside0.mk A20
 clear A20
 by_cases c3 : t230 = true
 ·subst c3
  have H1 : ((code_write.f k ([] : List Int) a0_0 a0_1 a0_2 a0_3).bind fun t231 => (some (t231.length : Int))) = some r := by rw [if_pos rfl] at H; exact H
  clear H
  have H := H1
  clear H1
  replace H := Option.bind_eq_some_iff.mp H
  obtain ⟨t231, A40, H⟩ := H
  replace H : (some (t231.length : Int)) = some r := H
  have A4 := Aside0.mk A40
  clear A40
  obtain rfl := Option.some.inj H
  go_enter Tryd.func13, Tryd.ntmps13
  go_wp2_with (first | ((with_reducible refine gate_dst (N := 1) rfl ?_); refine box_event ?hg (N := 1) ?hd (cs := #[.int .i64 a0_0, .int .i64 a0_1, .string a0_2, .bool a0_3]) (t := 29) ?hr ?_; (case hd => rfl); (case hg => rfl); (case hr => first | (go_simp; done) | (go_simp; rfl)); intro gb229 hg w5 hbox hb; have n0_ := Aside0.mk (below_step (by repeat (first | (with_reducible first | exact HB.out | apply below_alloc | apply pw_below_drewN | apply below_drew1) | exact HB.out)) hb); have n1_ := Aside0.mk (hbox); have n2_ := Aside0.mk ((by rw [hg]; exact (below_size (by repeat (first | (with_reducible first | exact HB.out | apply below_alloc | apply pw_below_drewN | apply below_drew1) | exact HB.out))) : w.heap.size ≤ gb229)); have n3_ := n2_; clear HB; have HB := n0_; have BK229 := n1_; have GW229 := n2_; have GE229 := n3_; clear n0_ n1_ n2_ n3_; clear hb hbox hg; obtain ⟨hcz6_0, hcz6_1, hcz6_2, hcz6_3⟩ := blkC4 w5 gb229 (.int .i64 a0_0) (.int .i64 a0_1) (.string a0_2) (.bool a0_3) BK229.out; obtain ⟨hfz6_0, hfz6_1, hfz6_2, hfz6_3⟩ := blkF4 BK229.out) | ((with_reducible refine gate_callee (f := 11) rfl ?_); refine goesL_ (some 4) rfl rfl Tryd.func11 (by kernel_rfl) rfl #[.agg #[.int .i64 a0_0, .int .i64 a0_1, .string a0_2, .bool a0_3]] rfl (by (try simp only [List.map_toArray, List.map_cons, List.map_nil]); first | done | rfl | (simp only [List.length_drop, List.length_take]; rfl)) ?_; (with_reducible refine (code_Fit.calls k a0_0 a0_1 a0_2 a0_3 true _ A2.out).mono ?_); rintro e w7 ⟨rfl, hb⟩; refine ⟨_, rfl, ?_⟩; have n0_ := Aside0.mk (blk_below (g := gb229) (o := .cells #[.int .i64 a0_0, .int .i64 a0_1, .string a0_2, .bool a0_3] 29 (0, 0)) (by (with_reducible repeat (first | apply bN | apply bD | apply bA)); exact BK229.out) hb); have n1_ := Aside0.mk (below_step (by repeat (first | (with_reducible first | exact HB.out | apply below_alloc | apply pw_below_drewN | apply below_drew1 | refine below_set ?_ GE229.out) | exact HB.out)) hb); clear BK229; clear HB; have BK229 := n0_; have HB := n1_; clear n0_ n1_; (try clear hb); (try clear hb2); (try clear hk); (try clear hi); obtain ⟨hcz8_0, hcz8_1, hcz8_2, hcz8_3⟩ := blkC4 w7 gb229 (.int .i64 a0_0) (.int .i64 a0_1) (.string a0_2) (.bool a0_3) BK229.out; obtain ⟨hfz8_0, hfz8_1, hfz8_2, hfz8_3⟩ := blkF4 BK229.out) | ((with_reducible refine gate_callee (f := 26) rfl ?_); refine goesL_ (some 7) rfl rfl Tryd.func26 (by kernel_rfl) rfl #[.slice none 0 0, .agg #[.int .i64 a0_0, .int .i64 a0_1, .string a0_2, .bool a0_3]] rfl (by (try simp only [List.map_toArray, List.map_cons, List.map_nil]); first | done | rfl | (simp only [List.length_drop, List.length_take]; rfl)) ?_; (refine (code_write.calls k (fun k_ => some k_ = (.slice none 0 0 : Value).ownBlock) (.slice none 0 0) ([] : List Int) a0_0 a0_1 a0_2 a0_3 t231 w _ ?side1 ?side2 A4.out).mono ?_); (case side1 => repeat (first | (with_reducible first | exact HB.out | apply below_alloc | apply pw_below_drewN | apply below_drew1 | refine below_set ?_ GE229.out) | exact HB.out)); (case side2 => exact Kd.R_nil _ _ _ _ _); rintro e w9 ⟨v232, rfl, ho0, hb, hkp⟩; refine ⟨_, rfl, ?_⟩; have n0_ := Aside0.mk (blk_kept (by (with_reducible repeat (first | apply bN | apply bD | apply bA)); exact BK229.out) hkp (fun hs_ => (fun e_ => by simp [Value.ownBlock] at e_) hs_)); have n1_ := Aside0.mk (Kd.R_mono (ok' := fun k_ => True) ho0 (fun k_ hk_ => trivial)); have n2_ := Aside0.mk (hb); clear BK229; clear HB; have BK229 := n0_; have HO233 := n1_; have HB := n2_; clear n0_ n1_ n2_; (try clear hb); (try clear hkp); (try clear ho0); obtain ⟨Ao10, co10, eo10⟩ := Kd.R_slice HO233.out; subst eo10))
  go_ret
  exact ⟨by first | rfl | (simp [errW_none, errW_some] <;> rfl) | (simp [*, errW_none, errW_some] <;> rfl), by repeat (first | (with_reducible first | exact HB.out | apply below_alloc | apply pw_below_drewN | apply below_drew1 | refine below_set ?_ GE229.out) | exact HB.out)⟩
 ·replace c3 := Bool.eq_false_iff.mpr c3
  subst c3
  have H1 : (some 0) = some r := by rw [if_neg (show ¬ (false = true) by decide)] at H; exact H
  clear H
  have H := H1
  clear H1
  obtain rfl := Option.some.inj H
  go_enter Tryd.func13, Tryd.ntmps13
  go_wp2_with (first | ((with_reducible refine gate_dst (N := 1) rfl ?_); refine box_event ?hg (N := 1) ?hd (cs := #[.int .i64 a0_0, .int .i64 a0_1, .string a0_2, .bool a0_3]) (t := 29) ?hr ?_; (case hd => rfl); (case hg => rfl); (case hr => first | (go_simp; done) | (go_simp; rfl)); intro gb229 hg w11 hbox hb; have n0_ := Aside0.mk (below_step (by repeat (first | (with_reducible first | exact HB.out | apply below_alloc | apply pw_below_drewN | apply below_drew1) | exact HB.out)) hb); have n1_ := Aside0.mk (hbox); have n2_ := Aside0.mk ((by rw [hg]; exact (below_size (by repeat (first | (with_reducible first | exact HB.out | apply below_alloc | apply pw_below_drewN | apply below_drew1) | exact HB.out))) : w.heap.size ≤ gb229)); have n3_ := n2_; clear HB; have HB := n0_; have BK229 := n1_; have GW229 := n2_; have GE229 := n3_; clear n0_ n1_ n2_ n3_; clear hb hbox hg; obtain ⟨hcz12_0, hcz12_1, hcz12_2, hcz12_3⟩ := blkC4 w11 gb229 (.int .i64 a0_0) (.int .i64 a0_1) (.string a0_2) (.bool a0_3) BK229.out; obtain ⟨hfz12_0, hfz12_1, hfz12_2, hfz12_3⟩ := blkF4 BK229.out) | ((with_reducible refine gate_callee (f := 11) rfl ?_); refine goesL_ (some 4) rfl rfl Tryd.func11 (by kernel_rfl) rfl #[.agg #[.int .i64 a0_0, .int .i64 a0_1, .string a0_2, .bool a0_3]] rfl (by (try simp only [List.map_toArray, List.map_cons, List.map_nil]); first | done | rfl | (simp only [List.length_drop, List.length_take]; rfl)) ?_; (with_reducible refine (code_Fit.calls k a0_0 a0_1 a0_2 a0_3 false _ A2.out).mono ?_); rintro e w13 ⟨rfl, hb⟩; refine ⟨_, rfl, ?_⟩; have n0_ := Aside0.mk (blk_below (g := gb229) (o := .cells #[.int .i64 a0_0, .int .i64 a0_1, .string a0_2, .bool a0_3] 29 (0, 0)) (by (with_reducible repeat (first | apply bN | apply bD | apply bA)); exact BK229.out) hb); have n1_ := Aside0.mk (below_step (by repeat (first | (with_reducible first | exact HB.out | apply below_alloc | apply pw_below_drewN | apply below_drew1 | refine below_set ?_ GE229.out) | exact HB.out)) hb); clear BK229; clear HB; have BK229 := n0_; have HB := n1_; clear n0_ n1_; (try clear hb); (try clear hb2); (try clear hk); (try clear hi)))
  go_ret
  exact ⟨by first | rfl | (simp [errW_none, errW_some] <;> rfl) | (simp [*, errW_none, errW_some] <;> rfl), by repeat (first | (with_reducible first | exact HB.out | apply below_alloc | apply pw_below_drewN | apply below_drew1 | refine below_set ?_ GE229.out) | exact HB.out)⟩
end Go.Proofs.YtcheinjlgojepaaDoor.P
