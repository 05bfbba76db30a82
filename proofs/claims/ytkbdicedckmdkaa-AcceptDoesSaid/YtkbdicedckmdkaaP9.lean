-- left of the seat's texts by prune.py, a program of this session
import Derived.Test.YtkbdicedckmdkaaP0
import Derived.Test.YtkbdicedckmdkaaP8
namespace Go.Proofs.Ytkbdicedckmdkaa.P
open Go.RowKit Go.Proofs.YtkbdicedckmdkaaW.PrintWords Go.Proofs.YtkbdicedckmdkaaW.PrintLast Go.Proofs.YtkbdicedckmdkaaW.PrintMore
attribute [local go_sem] max2_int min2_int max_two min_two max_three min_three max_four min_four   -- for this text's walks alone
set_option linter.unusedVariables false
set_option linter.unusedSimpArgs false
def reefref15_Promise.f (k : Nat) (a0_0 : Int) (a0_1 : Int) (a0_2 : Bool) (a0_3 : Int) (a0_4 : Int) (a0_5 : ByteArray) (l0_6 : List ByteArray) (a1 : Int) (a2 : Int) : Option (Int × Int × Bool × Int × Int × ByteArray × List ByteArray) := (reefref15_Values.f k a0_0 a0_1 a0_2 a0_3 a0_4 a0_5 l0_6 a2 4096).bind fun t313 => (some (a1, (l0_6.length : Int), a0_2, a0_3, a0_4, a0_5, t313))
theorem reefref15_Promise.mono : ∀ a0 a1 a2 a3 a4 a5 a6 a7 a8 k, LeO (reefref15_Promise.f k a0 a1 a2 a3 a4 a5 a6 a7 a8) (reefref15_Promise.f (k + 1) a0 a1 a2 a3 a4 a5 a6 a7 a8) := by
 intro a0 a1 a2 a3 a4 a5 a6 a7 a8 k
 unfold reefref15_Promise.f
 repeat' first
   | (with_reducible exact reefref15_Values.mono _ _ _ _ _ _ _ _ _ _)
   | (with_reducible exact LeO.refl _)
   | (with_reducible exact LeO.none _)
   | (with_reducible refine LeO.ite ?_ ?_)
   | (with_reducible refine LeO.bind ?_ (fun _ => ?_))
   | exact reefref15_Values.mono _ _ _ _ _ _ _ _ _ _
   | exact LeO.none _
   | refine LeO.ite ?_ ?_
   | refine LeO.bind ?_ (fun _ => ?_)
set_option maxHeartbeats 8000000 in
set_option maxRecDepth 100000 in
theorem reefref15_Promise.calls (k : Nat) (a0_0 : Int) (a0_1 : Int) (a0_2 : Bool) (a0_3 : Int) (a0_4 : Int) (a0_5 : ByteArray) (A0_6 : Option Addr) (c0_6 : Nat) (l0_6 : List ByteArray) (a1 : Int) (a2 : Int) (r1 : Int) (r2 : Int) (r3 : Bool) (r4 : Int) (r5 : Int) (r6 : ByteArray) (r7 : List ByteArray) (w : World) (hr0_6 : Kd.C Kd.string w A0_6 l0_6.length l0_6) (hc0_6 : l0_6.length ≤ c0_6) (h : reefref15_Promise.f k a0_0 a0_1 a0_2 a0_3 a0_4 a0_5 l0_6 a1 a2 = some (r1, r2, r3, r4, r5, r6, r7)) :
  Calls Try.prog 20 #[.agg #[.int .i64 a0_0, .int .i64 a0_1, .bool a0_2, .int .i64 a0_3, .int .i64 a0_4, .string a0_5, .slice A0_6 l0_6.length c0_6], .int .i64 a1, .int .i64 a2] w fun e w' => ∃ v6_ : Value, e = .returned (.tuple #[.agg #[.int .i64 r1, .int .i64 r2, .bool r3, .int .i64 r4, .int .i64 r5, .string r6], v6_]) ∧ Kd.R Kd.string 9 w' w.heap.size (fun _ => True) v6_ r7 ∧ Below w.heap.size w w' := by
 have hu27 := Try.underlying27
 have hu42 := Try.underlying42
 have hu24 := Try.underlying24
 have HR0_6 := Aside0.mk hr0_6
 have HC0_6 := Aside0.mk hc0_6
 clear hr0_6 hc0_6
 have HB := Aside0.mk (Below.refl w.heap.size w)
 have H : ((reefref15_Values.f k a0_0 a0_1 a0_2 a0_3 a0_4 a0_5 l0_6 a2 4096).bind fun t313 => (some (a1, (l0_6.length : Int), a0_2, a0_3, a0_4, a0_5, t313))) = some (r1, r2, r3, r4, r5, r6, r7) := h
 clear h
 replace H := Option.bind_eq_some_iff.mp H
 obtain ⟨t313, A40, H⟩ := H
 replace H : (some (a1, (l0_6.length : Int), a0_2, a0_3, a0_4, a0_5, t313)) = some (r1, r2, r3, r4, r5, r6, r7) := H
 have A4 := Aside0.mk A40
 clear A40
 simp only [Option.some.injEq, Prod.mk.injEq] at H
 obtain ⟨rfl, rfl, rfl, rfl, rfl, rfl, rfl⟩ := H
 go_enter Try.func20, Try.ntmps20
 try go_wp2_with (first | ((with_reducible refine gate_dst (N := 3) rfl ?_); refine box_event ?hg (N := 3) ?hd (cs := #[.int .i64 a0_0, .int .i64 a0_1, .bool a0_2, .int .i64 a0_3, .int .i64 a0_4, .string a0_5, .slice A0_6 l0_6.length c0_6]) (t := 27) ?hr ?_; (case hd => rfl); (case hg => rfl); (case hr => first | (go_simp; done) | (go_simp; rfl)); intro gb310 hg w5 hbox hb; have n0_ := Aside0.mk (below_step (by repeat (first | (with_reducible first | exact HB.out | apply below_alloc | apply pw_below_drewN | apply below_drew1) | exact HB.out)) hb); have n1_ := Aside0.mk (hbox); have n2_ := Aside0.mk ((by rw [hg]; exact (below_size (by repeat (first | (with_reducible first | exact HB.out | apply below_alloc | apply pw_below_drewN | apply below_drew1) | exact HB.out))) : w.heap.size ≤ gb310)); have n3_ := n2_; clear HB; have HB := n0_; have BK310 := n1_; have GW310 := n2_; have GE310 := n3_; clear n0_ n1_ n2_ n3_; clear hb hbox hg) | ((with_reducible refine gate_dst (N := 6) rfl ?_); refine box_event ?hg (N := 6) ?hd (cs := #[.int .i64 0, .int .i64 0, .bool false, .int .i64 0, .int .i64 0, .string (⟨#[]⟩ : ByteArray)]) (t := 42) ?hr ?_; (case hd => rfl); (case hg => rfl); (case hr => first | (go_simp; done) | (go_simp; rfl)); intro gb311 hg w6 hbox hb; have n0_ := Aside0.mk (blk_below (g := gb310) (o := .cells #[.int .i64 a0_0, .int .i64 a0_1, .bool a0_2, .int .i64 a0_3, .int .i64 a0_4, .string a0_5, .slice A0_6 l0_6.length c0_6] 27 (0, 0)) (by (with_reducible repeat (first | apply bN | apply bD | apply bA)); exact BK310.out) hb); have n1_ := Aside0.mk (below_step (by repeat (first | (with_reducible first | exact HB.out | apply below_alloc | apply pw_below_drewN | apply below_drew1 | refine below_set ?_ GE310.out) | exact HB.out)) hb); have n2_ := Aside0.mk (hbox); have n3_ := Aside0.mk ((by rw [hg]; exact (below_size (by repeat (first | (with_reducible first | exact HB.out | apply below_alloc | apply pw_below_drewN | apply below_drew1 | refine below_set ?_ GE310.out) | exact HB.out))) : w.heap.size ≤ gb311)); have n4_ := n3_; have n5_ := Aside0.mk ((by rw [hg]; exact Nat.ne_of_lt (blk_lt (g := gb310) (o := .cells #[.int .i64 a0_0, .int .i64 a0_1, .bool a0_2, .int .i64 a0_3, .int .i64 a0_4, .string a0_5, .slice A0_6 l0_6.length c0_6] 27 (0, 0)) (by (with_reducible repeat (first | apply bN | apply bD | apply bA)); exact BK310.out)) : gb310 ≠ gb311)); have n6_ := Aside0.mk ((by rw [hg]; exact Nat.ne_of_gt (blk_lt (g := gb310) (o := .cells #[.int .i64 a0_0, .int .i64 a0_1, .bool a0_2, .int .i64 a0_3, .int .i64 a0_4, .string a0_5, .slice A0_6 l0_6.length c0_6] 27 (0, 0)) (by (with_reducible repeat (first | apply bN | apply bD | apply bA)); exact BK310.out)) : gb311 ≠ gb310)); clear BK310; clear HB; have BK310 := n0_; have HB := n1_; have BK311 := n2_; have GW311 := n3_; have GE311 := n4_; have NB310_311 := n5_; have NB311_310 := n6_; clear n0_ n1_ n2_ n3_ n4_ n5_ n6_; clear hb hbox hg; have hnb7 := NB310_311.out; have hnc7 := NB311_310.out; obtain ⟨hcz8_0, hcz8_1, hcz8_2, hcz8_3, hcz8_4, hcz8_5, hcz8_6⟩ := blkC7 w6 gb310 (.int .i64 a0_0) (.int .i64 a0_1) (.bool a0_2) (.int .i64 a0_3) (.int .i64 a0_4) (.string a0_5) (.slice A0_6 l0_6.length c0_6) BK310.out; obtain ⟨hfz8_0, hfz8_1, hfz8_2, hfz8_3, hfz8_4, hfz8_5, hfz8_6⟩ := blkF7 BK310.out) | ((with_reducible refine gate_dst (N := 8) rfl ?_); refine box_event ?hg (N := 8) ?hd (cs := #[.int .i64 0, .int .i64 0, .bool false, .int .i64 0, .int .i64 0, .string (⟨#[]⟩ : ByteArray)]) (t := 42) ?hr ?_; (case hd => rfl); (case hg => rfl); (case hr => first | (go_simp; done) | (go_simp; rfl)); intro gb312 hg w9 hbox hb; have n0_ := Aside0.mk (blk_below (g := gb310) (o := .cells #[.int .i64 a0_0, .int .i64 a0_1, .bool a0_2, .int .i64 a0_3, .int .i64 a0_4, .string a0_5, .slice A0_6 l0_6.length c0_6] 27 (0, 0)) (by (with_reducible repeat (first | apply bN | apply bD | apply bA)); exact BK310.out) hb); have n1_ := Aside0.mk (blk_below (g := gb311) (o := .cells #[.int .i64 0, .int .i64 0, .bool false, .int .i64 0, .int .i64 0, .string (⟨#[]⟩ : ByteArray)] 42 (0, 0)) (by (with_reducible repeat (first | apply bN | apply bD | apply bA)); exact BK311.out) hb); have n2_ := Aside0.mk (below_step (by repeat (first | (with_reducible first | exact HB.out | apply below_alloc | apply pw_below_drewN | apply below_drew1 | refine below_set ?_ (Aside0.out ‹_›)) | exact HB.out)) hb); have n3_ := Aside0.mk (hbox); have n4_ := Aside0.mk ((by rw [hg]; exact (below_size (by repeat (first | (with_reducible first | exact HB.out | apply below_alloc | apply pw_below_drewN | apply below_drew1 | refine below_set ?_ (Aside0.out ‹_›)) | exact HB.out))) : w.heap.size ≤ gb312)); have n5_ := n4_; have n6_ := Aside0.mk ((by rw [hg]; exact Nat.ne_of_lt (blk_lt (g := gb310) (o := .cells #[.int .i64 a0_0, .int .i64 a0_1, .bool a0_2, .int .i64 a0_3, .int .i64 a0_4, .string a0_5, .slice A0_6 l0_6.length c0_6] 27 (0, 0)) (by (with_reducible repeat (first | apply bN | apply bD | apply bA)); exact BK310.out)) : gb310 ≠ gb312)); have n7_ := Aside0.mk ((by rw [hg]; exact Nat.ne_of_gt (blk_lt (g := gb310) (o := .cells #[.int .i64 a0_0, .int .i64 a0_1, .bool a0_2, .int .i64 a0_3, .int .i64 a0_4, .string a0_5, .slice A0_6 l0_6.length c0_6] 27 (0, 0)) (by (with_reducible repeat (first | apply bN | apply bD | apply bA)); exact BK310.out)) : gb312 ≠ gb310)); have n8_ := Aside0.mk ((by rw [hg]; exact Nat.ne_of_lt (blk_lt (g := gb311) (o := .cells #[.int .i64 0, .int .i64 0, .bool false, .int .i64 0, .int .i64 0, .string (⟨#[]⟩ : ByteArray)] 42 (0, 0)) (by (with_reducible repeat (first | apply bN | apply bD | apply bA)); exact BK311.out)) : gb311 ≠ gb312)); have n9_ := Aside0.mk ((by rw [hg]; exact Nat.ne_of_gt (blk_lt (g := gb311) (o := .cells #[.int .i64 0, .int .i64 0, .bool false, .int .i64 0, .int .i64 0, .string (⟨#[]⟩ : ByteArray)] 42 (0, 0)) (by (with_reducible repeat (first | apply bN | apply bD | apply bA)); exact BK311.out)) : gb312 ≠ gb311)); clear BK310; clear BK311; clear HB; have BK310 := n0_; have BK311 := n1_; have HB := n2_; have BK312 := n3_; have GW312 := n4_; have GE312 := n5_; have NB310_312 := n6_; have NB312_310 := n7_; have NB311_312 := n8_; have NB312_311 := n9_; clear n0_ n1_ n2_ n3_ n4_ n5_ n6_ n7_ n8_ n9_; clear hb hbox hg; have hnb10 := NB312_310.out; have hnc10 := NB310_312.out; have hnb11 := NB312_311.out; have hnc11 := NB311_312.out; obtain ⟨hcz12_0, hcz12_1, hcz12_2, hcz12_3, hcz12_4, hcz12_5⟩ := blkC6 w9 gb312 (.int .i64 0) (.int .i64 0) (.bool false) (.int .i64 0) (.int .i64 0) (.string (⟨#[]⟩ : ByteArray)) BK312.out; obtain ⟨hfz12_0, hfz12_1, hfz12_2, hfz12_3, hfz12_4, hfz12_5⟩ := blkF6 BK312.out))
 have n0_ : Aside0 (((((((w9.setCell ⟨gb312, 0, none⟩ (.int .i64 a1)).setCell ⟨gb312, 1, none⟩ (.int .i64 (l0_6.length : Int))).setCell ⟨gb312, 2, none⟩ (.bool a0_2)).setCell ⟨gb312, 3, none⟩ (.int .i64 a0_3)).setCell ⟨gb312, 4, none⟩ (.int .i64 a0_4)).setCell ⟨gb312, 5, none⟩ (.string a0_5)).heap[gb310]? = some (.cells #[.int .i64 a0_0, .int .i64 a0_1, .bool a0_2, .int .i64 a0_3, .int .i64 a0_4, .string a0_5, .slice A0_6 l0_6.length c0_6] 27 (0, 0))) := ⟨by (with_reducible repeat (first | apply bN | apply bD | apply bA)); refine blk_far ?_ NB310_312.out _; (with_reducible repeat (first | apply bN | apply bD | apply bA)); refine blk_far ?_ NB310_312.out _; (with_reducible repeat (first | apply bN | apply bD | apply bA)); refine blk_far ?_ NB310_312.out _; (with_reducible repeat (first | apply bN | apply bD | apply bA)); refine blk_far ?_ NB310_312.out _; (with_reducible repeat (first | apply bN | apply bD | apply bA)); refine blk_far ?_ NB310_312.out _; (with_reducible repeat (first | apply bN | apply bD | apply bA)); refine blk_far ?_ NB310_312.out _; (with_reducible repeat (first | apply bN | apply bD | apply bA)); exact BK310.out⟩
 have n1_ : Aside0 (((((((w9.setCell ⟨gb312, 0, none⟩ (.int .i64 a1)).setCell ⟨gb312, 1, none⟩ (.int .i64 (l0_6.length : Int))).setCell ⟨gb312, 2, none⟩ (.bool a0_2)).setCell ⟨gb312, 3, none⟩ (.int .i64 a0_3)).setCell ⟨gb312, 4, none⟩ (.int .i64 a0_4)).setCell ⟨gb312, 5, none⟩ (.string a0_5)).heap[gb311]? = some (.cells #[.int .i64 0, .int .i64 0, .bool false, .int .i64 0, .int .i64 0, .string (⟨#[]⟩ : ByteArray)] 42 (0, 0))) := ⟨by (with_reducible repeat (first | apply bN | apply bD | apply bA)); refine blk_far ?_ NB311_312.out _; (with_reducible repeat (first | apply bN | apply bD | apply bA)); refine blk_far ?_ NB311_312.out _; (with_reducible repeat (first | apply bN | apply bD | apply bA)); refine blk_far ?_ NB311_312.out _; (with_reducible repeat (first | apply bN | apply bD | apply bA)); refine blk_far ?_ NB311_312.out _; (with_reducible repeat (first | apply bN | apply bD | apply bA)); refine blk_far ?_ NB311_312.out _; (with_reducible repeat (first | apply bN | apply bD | apply bA)); refine blk_far ?_ NB311_312.out _; (with_reducible repeat (first | apply bN | apply bD | apply bA)); exact BK311.out⟩
 have n2_ : Aside0 (((((((w9.setCell ⟨gb312, 0, none⟩ (.int .i64 a1)).setCell ⟨gb312, 1, none⟩ (.int .i64 (l0_6.length : Int))).setCell ⟨gb312, 2, none⟩ (.bool a0_2)).setCell ⟨gb312, 3, none⟩ (.int .i64 a0_3)).setCell ⟨gb312, 4, none⟩ (.int .i64 a0_4)).setCell ⟨gb312, 5, none⟩ (.string a0_5)).heap[gb312]? = some (.cells #[.int .i64 a1, .int .i64 (l0_6.length : Int), .bool a0_2, .int .i64 a0_3, .int .i64 a0_4, .string a0_5] 42 (0, 0))) := ⟨by (with_reducible repeat (first | apply bN | apply bD | apply bA)); refine blk_put (cs := #[.int .i64 a1, .int .i64 (l0_6.length : Int), .bool a0_2, .int .i64 a0_3, .int .i64 a0_4, .string (⟨#[]⟩ : ByteArray)]) ?_ 5 _ rfl; (with_reducible repeat (first | apply bN | apply bD | apply bA)); refine blk_put (cs := #[.int .i64 a1, .int .i64 (l0_6.length : Int), .bool a0_2, .int .i64 a0_3, .int .i64 0, .string (⟨#[]⟩ : ByteArray)]) ?_ 4 _ rfl; (with_reducible repeat (first | apply bN | apply bD | apply bA)); refine blk_put (cs := #[.int .i64 a1, .int .i64 (l0_6.length : Int), .bool a0_2, .int .i64 0, .int .i64 0, .string (⟨#[]⟩ : ByteArray)]) ?_ 3 _ rfl; (with_reducible repeat (first | apply bN | apply bD | apply bA)); refine blk_put (cs := #[.int .i64 a1, .int .i64 (l0_6.length : Int), .bool false, .int .i64 0, .int .i64 0, .string (⟨#[]⟩ : ByteArray)]) ?_ 2 _ rfl; (with_reducible repeat (first | apply bN | apply bD | apply bA)); refine blk_put (cs := #[.int .i64 a1, .int .i64 0, .bool false, .int .i64 0, .int .i64 0, .string (⟨#[]⟩ : ByteArray)]) ?_ 1 _ rfl; (with_reducible repeat (first | apply bN | apply bD | apply bA)); refine blk_put (cs := #[.int .i64 0, .int .i64 0, .bool false, .int .i64 0, .int .i64 0, .string (⟨#[]⟩ : ByteArray)]) ?_ 0 _ rfl; (with_reducible repeat (first | apply bN | apply bD | apply bA)); exact BK312.out⟩
 have n3_ : Aside0 (Below w.heap.size w ((((((w9.setCell ⟨gb312, 0, none⟩ (.int .i64 a1)).setCell ⟨gb312, 1, none⟩ (.int .i64 (l0_6.length : Int))).setCell ⟨gb312, 2, none⟩ (.bool a0_2)).setCell ⟨gb312, 3, none⟩ (.int .i64 a0_3)).setCell ⟨gb312, 4, none⟩ (.int .i64 a0_4)).setCell ⟨gb312, 5, none⟩ (.string a0_5))) := ⟨by repeat (first | (with_reducible first | exact HB.out | apply below_alloc | apply pw_below_drewN | apply below_drew1 | refine below_set ?_ (Aside0.out ‹_›)) | exact HB.out)⟩
 (try clear BK310)
 (try clear BK311)
 (try clear BK312)
 (try clear HB)
 generalize ((((((w9.setCell ⟨gb312, 0, none⟩ (.int .i64 a1)).setCell ⟨gb312, 1, none⟩ (.int .i64 (l0_6.length : Int))).setCell ⟨gb312, 2, none⟩ (.bool a0_2)).setCell ⟨gb312, 3, none⟩ (.int .i64 a0_3)).setCell ⟨gb312, 4, none⟩ (.int .i64 a0_4)).setCell ⟨gb312, 5, none⟩ (.string a0_5)) = w13 at n0_ n1_ n2_ n3_ ⊢
 have BK310 := n0_
 have BK311 := n1_
 have BK312 := n2_
 have HB := n3_
 clear n0_ n1_ n2_ n3_
 have n0_ := Aside0.mk (blk_drew BK310.out)
 have n1_ := Aside0.mk (blk_drew BK311.out)
 have n2_ := Aside0.mk (blk_drew BK312.out)
 have n3_ := Aside0.mk (below_drew1 HB.out)
 clear BK310
 clear BK311
 clear BK312
 clear HB
 have BK310 := n0_
 have BK311 := n1_
 have BK312 := n2_
 have HB := n3_
 clear n0_ n1_ n2_ n3_
 refine start_ (n := 6) (S := fun w' => w'.cell? ⟨gb312, 0, none⟩ = some (.int .i64 a1) ∧ w'.cell? ⟨gb312, 1, none⟩ = some (.int .i64 (l0_6.length : Int)) ∧ w'.cell? ⟨gb312, 2, none⟩ = some (.bool a0_2) ∧ w'.cell? ⟨gb312, 3, none⟩ = some (.int .i64 a0_3) ∧ w'.cell? ⟨gb312, 4, none⟩ = some (.int .i64 a0_4) ∧ w'.cell? ⟨gb312, 5, none⟩ = some (.string a0_5) ∧ w'.cell? ⟨gb310, 0, none⟩ = some (.int .i64 a0_0) ∧ w'.cell? ⟨gb310, 1, none⟩ = some (.int .i64 a0_1) ∧ w'.cell? ⟨gb310, 2, none⟩ = some (.bool a0_2) ∧ w'.cell? ⟨gb310, 3, none⟩ = some (.int .i64 a0_3) ∧ w'.cell? ⟨gb310, 4, none⟩ = some (.int .i64 a0_4) ∧ w'.cell? ⟨gb310, 5, none⟩ = some (.string a0_5) ∧ w'.cell? ⟨gb310, 6, none⟩ = some (.slice A0_6 l0_6.length c0_6)) (ds := []) #[false, false, false, false, false, false] (by kernel_rfl) rfl rfl ⟨(blk_cell BK312.out 0).trans rfl, (blk_cell BK312.out 1).trans rfl, (blk_cell BK312.out 2).trans rfl, (blk_cell BK312.out 3).trans rfl, (blk_cell BK312.out 4).trans rfl, (blk_cell BK312.out 5).trans rfl, (blk_cell BK310.out 0).trans rfl, (blk_cell BK310.out 1).trans rfl, (blk_cell BK310.out 2).trans rfl, (blk_cell BK310.out 3).trans rfl, (blk_cell BK310.out 4).trans rfl, (blk_cell BK310.out 5).trans rfl, (blk_cell BK310.out 6).trans rfl⟩ (fun hHeld => ?_)
 generalize w13.drew = w14 at BK310 BK311 BK312 HB hHeld ⊢
 refine pure_ (i := 2) (N := some 22) (v := ?_) (a' := ?_) #[false, false, true, false, false, false] rfl rfl (by kernel_rfl) (fun _ _ _ h => h) (Or.inl ⟨by rfl, ?_⟩) ?_ ?_
 rotate_left
 ·intro w'
  go_simp
  with_reducible rfl
 rotate_left
 ·simp only [Act.put, List.setIfInBounds_toArray, List.set_cons_zero, List.set_cons_succ, i64_w, i32_w]
  rfl
 refine take_ (i := 0) (N := some 20) (v := ?_) (a' := ?_) #[true, false, true, false, false, false] rfl rfl (by kernel_rfl) (fun _ _ _ h => h) (Or.inl ⟨by rfl, ?_⟩) hHeld ?_ ?_
 rotate_left
 ·rintro w' ⟨s0, s1, s2, s3, s4, s5, s6, s7, s8, s9, s10, s11, s12⟩
  go_simp
  with_reducible rfl
 rotate_left
 ·simp only [Act.put, List.setIfInBounds_toArray, List.set_cons_zero, List.set_cons_succ, i64_w, i32_w]
  rfl
 refine take_ (i := 1) (N := some 21) (v := ?_) (a' := ?_) #[true, true, true, false, false, false] rfl rfl (by kernel_rfl) (fun _ _ _ h => h) (Or.inl ⟨by rfl, ?_⟩) hHeld ?_ ?_
 rotate_left
 ·rintro w' ⟨s0, s1, s2, s3, s4, s5, s6, s7, s8, s9, s10, s11, s12⟩
  go_simp
  with_reducible rfl
 rotate_left
 ·simp only [Act.put, List.setIfInBounds_toArray, List.set_cons_zero, List.set_cons_succ, i64_w, i32_w]
  rfl
 refine one_ (i := 3) (N := some 23) #[true, true, true, true, false, false] rfl rfl (by kernel_rfl) (by decide) (fun K hK => ?_)
 refine goes_ Try.func23 (by kernel_rfl) rfl #[.agg #[.int .i64 a0_0, .int .i64 a0_1, .bool a0_2, .int .i64 a0_3, .int .i64 a0_4, .string a0_5, .slice A0_6 l0_6.length c0_6], .int .i64 a2, .int .i64 4096] (by rfl) rfl rfl (by (try simp only [List.map_toArray, List.map_cons, List.map_nil]); first | done | rfl | (simp only [List.length_drop, List.length_take]; rfl)) ?_
 with_reducible refine (reefref15_Values.calls k a0_0 a0_1 a0_2 a0_3 a0_4 a0_5 _ _ l0_6 a2 4096 t313 _ ?side1 ?side2 A4.out).mono ?_
 (case side1 => repeat (first | exact (Kd.C_below HR0_6.out HB.out) | (with_reducible refine Kd.C_alloc ?_ _) | (with_reducible refine Kd.C_drewN ?_ _) | (with_reducible refine Kd.C_drew ?_)))
 (case side2 => exact HC0_6.out)
 rintro e w15 ⟨v314, rfl, ho0, hb⟩
 refine ⟨_, rfl, ?_⟩
 have n0_ := Aside0.mk (Kd.R_lower ho0 (below_size (by repeat (first | (with_reducible first | exact HB.out | apply below_alloc | apply pw_below_drewN | apply below_drew1 | refine below_set ?_ (Aside0.out ‹_›)) | exact HB.out))))
 have n1_ := Aside0.mk (blk_below (g := gb310) (o := .cells #[.int .i64 a0_0, .int .i64 a0_1, .bool a0_2, .int .i64 a0_3, .int .i64 a0_4, .string a0_5, .slice A0_6 l0_6.length c0_6] 27 (0, 0)) (by (with_reducible repeat (first | apply bN | apply bD | apply bA)); exact BK310.out) hb)
 have n2_ := Aside0.mk (blk_below (g := gb311) (o := .cells #[.int .i64 0, .int .i64 0, .bool false, .int .i64 0, .int .i64 0, .string (⟨#[]⟩ : ByteArray)] 42 (0, 0)) (by (with_reducible repeat (first | apply bN | apply bD | apply bA)); exact BK311.out) hb)
 have n3_ := Aside0.mk (blk_below (g := gb312) (o := .cells #[.int .i64 a1, .int .i64 (l0_6.length : Int), .bool a0_2, .int .i64 a0_3, .int .i64 a0_4, .string a0_5] 42 (0, 0)) (by (with_reducible repeat (first | apply bN | apply bD | apply bA)); exact BK312.out) hb)
 have n4_ := Aside0.mk (below_step (by repeat (first | (with_reducible first | exact HB.out | apply below_alloc | apply pw_below_drewN | apply below_drew1 | refine below_set ?_ (Aside0.out ‹_›)) | exact HB.out)) hb)
 clear BK310
 clear BK311
 clear BK312
 clear HB
 have HO315 := n0_
 have BK310 := n1_
 have BK311 := n2_
 have BK312 := n3_
 have HB := n4_
 clear n0_ n1_ n2_ n3_ n4_
 (try clear hb)
 (try clear hb2)
 (try clear hk)
 (try clear hi)
 (try clear ho0)
 refine hK.out _ _ ⟨(blk_cell BK312.out 0).trans rfl, (blk_cell BK312.out 1).trans rfl, (blk_cell BK312.out 2).trans rfl, (blk_cell BK312.out 3).trans rfl, (blk_cell BK312.out 4).trans rfl, (blk_cell BK312.out 5).trans rfl, (blk_cell BK310.out 0).trans rfl, (blk_cell BK310.out 1).trans rfl, (blk_cell BK310.out 2).trans rfl, (blk_cell BK310.out 3).trans rfl, (blk_cell BK310.out 4).trans rfl, (blk_cell BK310.out 5).trans rfl, (blk_cell BK310.out 6).trans rfl⟩ (fun hHeld => ?_)
 clear hK K
 refine norm_ (a' := ?_) ?_ ?_
 rotate_left
 ·show Act.put _ (some 23) _ = _
  simp only [Act.put, List.setIfInBounds_toArray, List.set_cons_zero, List.set_cons_succ, i64_w, i32_w]
  rfl
 refine one_ (i := 4) (N := none) #[true, true, true, true, true, false] rfl rfl (by kernel_rfl) (by decide) (fun K hK => ?_)
 have hs16 : w15.cell? ⟨gb311, 0, none⟩ = some (.int .i64 0) := (blk_cell BK311.out 0).trans rfl
 have hfs16 := blk_frozen BK311.out 0
 have hns16_0 := NB310_311.out
 have hns16_2 := NB312_311.out
 have hms16_0 := NB311_310.out
 have hms16_2 := NB311_312.out
 have hs17 : w15.cell? ⟨gb311, 1, none⟩ = some (.int .i64 0) := (blk_cell BK311.out 1).trans rfl
 have hfs17 := blk_frozen BK311.out 1
 have hns17_0 := NB310_311.out
 have hns17_2 := NB312_311.out
 have hms17_0 := NB311_310.out
 have hms17_2 := NB311_312.out
 have hs18 : w15.cell? ⟨gb311, 2, none⟩ = some (.bool false) := (blk_cell BK311.out 2).trans rfl
 have hfs18 := blk_frozen BK311.out 2
 have hns18_0 := NB310_311.out
 have hns18_2 := NB312_311.out
 have hms18_0 := NB311_310.out
 have hms18_2 := NB311_312.out
 have hs19 : w15.cell? ⟨gb311, 3, none⟩ = some (.int .i64 0) := (blk_cell BK311.out 3).trans rfl
 have hfs19 := blk_frozen BK311.out 3
 have hns19_0 := NB310_311.out
 have hns19_2 := NB312_311.out
 have hms19_0 := NB311_310.out
 have hms19_2 := NB311_312.out
 have hs20 : w15.cell? ⟨gb311, 4, none⟩ = some (.int .i64 0) := (blk_cell BK311.out 4).trans rfl
 have hfs20 := blk_frozen BK311.out 4
 have hns20_0 := NB310_311.out
 have hns20_2 := NB312_311.out
 have hms20_0 := NB311_310.out
 have hms20_2 := NB311_312.out
 have hs21 : w15.cell? ⟨gb311, 5, none⟩ = some (.string (⟨#[]⟩ : ByteArray)) := (blk_cell BK311.out 5).trans rfl
 have hfs21 := blk_frozen BK311.out 5
 have hns21_0 := NB310_311.out
 have hns21_2 := NB312_311.out
 have hms21_0 := NB311_310.out
 have hms21_2 := NB311_312.out
 refine skip_ (w1 := ?_) (by rfl) rfl ?_ ?_
 rotate_left
 ·go_simp
  rfl
 refine hK.out _ _ ⟨((cell_far (p := ⟨gb311, _, none⟩) NB312_311.out _).trans (((cell_far (p := ⟨gb311, _, none⟩) NB312_311.out _).trans (((cell_far (p := ⟨gb311, _, none⟩) NB312_311.out _).trans (((cell_far (p := ⟨gb311, _, none⟩) NB312_311.out _).trans (((cell_far (p := ⟨gb311, _, none⟩) NB312_311.out _).trans (((cell_far (p := ⟨gb311, _, none⟩) NB312_311.out _).trans (hHeld.1)))))))))))), ((cell_far (p := ⟨gb311, _, none⟩) NB312_311.out _).trans (((cell_far (p := ⟨gb311, _, none⟩) NB312_311.out _).trans (((cell_far (p := ⟨gb311, _, none⟩) NB312_311.out _).trans (((cell_far (p := ⟨gb311, _, none⟩) NB312_311.out _).trans (((cell_far (p := ⟨gb311, _, none⟩) NB312_311.out _).trans (((cell_far (p := ⟨gb311, _, none⟩) NB312_311.out _).trans (hHeld.2.1)))))))))))), ((cell_far (p := ⟨gb311, _, none⟩) NB312_311.out _).trans (((cell_far (p := ⟨gb311, _, none⟩) NB312_311.out _).trans (((cell_far (p := ⟨gb311, _, none⟩) NB312_311.out _).trans (((cell_far (p := ⟨gb311, _, none⟩) NB312_311.out _).trans (((cell_far (p := ⟨gb311, _, none⟩) NB312_311.out _).trans (((cell_far (p := ⟨gb311, _, none⟩) NB312_311.out _).trans (hHeld.2.2.1)))))))))))), ((cell_far (p := ⟨gb311, _, none⟩) NB312_311.out _).trans (((cell_far (p := ⟨gb311, _, none⟩) NB312_311.out _).trans (((cell_far (p := ⟨gb311, _, none⟩) NB312_311.out _).trans (((cell_far (p := ⟨gb311, _, none⟩) NB312_311.out _).trans (((cell_far (p := ⟨gb311, _, none⟩) NB312_311.out _).trans (((cell_far (p := ⟨gb311, _, none⟩) NB312_311.out _).trans (hHeld.2.2.2.1)))))))))))), ((cell_far (p := ⟨gb311, _, none⟩) NB312_311.out _).trans (((cell_far (p := ⟨gb311, _, none⟩) NB312_311.out _).trans (((cell_far (p := ⟨gb311, _, none⟩) NB312_311.out _).trans (((cell_far (p := ⟨gb311, _, none⟩) NB312_311.out _).trans (((cell_far (p := ⟨gb311, _, none⟩) NB312_311.out _).trans (((cell_far (p := ⟨gb311, _, none⟩) NB312_311.out _).trans (hHeld.2.2.2.2.1)))))))))))), ((cell_far (p := ⟨gb311, _, none⟩) NB312_311.out _).trans (((cell_far (p := ⟨gb311, _, none⟩) NB312_311.out _).trans (((cell_far (p := ⟨gb311, _, none⟩) NB312_311.out _).trans (((cell_far (p := ⟨gb311, _, none⟩) NB312_311.out _).trans (((cell_far (p := ⟨gb311, _, none⟩) NB312_311.out _).trans (((cell_far (p := ⟨gb311, _, none⟩) NB312_311.out _).trans (hHeld.2.2.2.2.2.1)))))))))))), ((cell_far (p := ⟨gb311, _, none⟩) NB310_311.out _).trans (((cell_far (p := ⟨gb311, _, none⟩) NB310_311.out _).trans (((cell_far (p := ⟨gb311, _, none⟩) NB310_311.out _).trans (((cell_far (p := ⟨gb311, _, none⟩) NB310_311.out _).trans (((cell_far (p := ⟨gb311, _, none⟩) NB310_311.out _).trans (((cell_far (p := ⟨gb311, _, none⟩) NB310_311.out _).trans (hHeld.2.2.2.2.2.2.1)))))))))))), ((cell_far (p := ⟨gb311, _, none⟩) NB310_311.out _).trans (((cell_far (p := ⟨gb311, _, none⟩) NB310_311.out _).trans (((cell_far (p := ⟨gb311, _, none⟩) NB310_311.out _).trans (((cell_far (p := ⟨gb311, _, none⟩) NB310_311.out _).trans (((cell_far (p := ⟨gb311, _, none⟩) NB310_311.out _).trans (((cell_far (p := ⟨gb311, _, none⟩) NB310_311.out _).trans (hHeld.2.2.2.2.2.2.2.1)))))))))))), ((cell_far (p := ⟨gb311, _, none⟩) NB310_311.out _).trans (((cell_far (p := ⟨gb311, _, none⟩) NB310_311.out _).trans (((cell_far (p := ⟨gb311, _, none⟩) NB310_311.out _).trans (((cell_far (p := ⟨gb311, _, none⟩) NB310_311.out _).trans (((cell_far (p := ⟨gb311, _, none⟩) NB310_311.out _).trans (((cell_far (p := ⟨gb311, _, none⟩) NB310_311.out _).trans (hHeld.2.2.2.2.2.2.2.2.1)))))))))))), ((cell_far (p := ⟨gb311, _, none⟩) NB310_311.out _).trans (((cell_far (p := ⟨gb311, _, none⟩) NB310_311.out _).trans (((cell_far (p := ⟨gb311, _, none⟩) NB310_311.out _).trans (((cell_far (p := ⟨gb311, _, none⟩) NB310_311.out _).trans (((cell_far (p := ⟨gb311, _, none⟩) NB310_311.out _).trans (((cell_far (p := ⟨gb311, _, none⟩) NB310_311.out _).trans (hHeld.2.2.2.2.2.2.2.2.2.1)))))))))))), ((cell_far (p := ⟨gb311, _, none⟩) NB310_311.out _).trans (((cell_far (p := ⟨gb311, _, none⟩) NB310_311.out _).trans (((cell_far (p := ⟨gb311, _, none⟩) NB310_311.out _).trans (((cell_far (p := ⟨gb311, _, none⟩) NB310_311.out _).trans (((cell_far (p := ⟨gb311, _, none⟩) NB310_311.out _).trans (((cell_far (p := ⟨gb311, _, none⟩) NB310_311.out _).trans (hHeld.2.2.2.2.2.2.2.2.2.2.1)))))))))))), ((cell_far (p := ⟨gb311, _, none⟩) NB310_311.out _).trans (((cell_far (p := ⟨gb311, _, none⟩) NB310_311.out _).trans (((cell_far (p := ⟨gb311, _, none⟩) NB310_311.out _).trans (((cell_far (p := ⟨gb311, _, none⟩) NB310_311.out _).trans (((cell_far (p := ⟨gb311, _, none⟩) NB310_311.out _).trans (((cell_far (p := ⟨gb311, _, none⟩) NB310_311.out _).trans (hHeld.2.2.2.2.2.2.2.2.2.2.2.1)))))))))))), ((cell_far (p := ⟨gb311, _, none⟩) NB310_311.out _).trans (((cell_far (p := ⟨gb311, _, none⟩) NB310_311.out _).trans (((cell_far (p := ⟨gb311, _, none⟩) NB310_311.out _).trans (((cell_far (p := ⟨gb311, _, none⟩) NB310_311.out _).trans (((cell_far (p := ⟨gb311, _, none⟩) NB310_311.out _).trans (((cell_far (p := ⟨gb311, _, none⟩) NB310_311.out _).trans (hHeld.2.2.2.2.2.2.2.2.2.2.2.2))))))))))))⟩ (fun hHeld => ?_)
 clear hK K
 refine pure_ (i := 5) (N := some 7) (v := ?_) (a' := ?_) #[true, true, true, true, true, true] rfl rfl (by kernel_rfl) (fun _ _ _ h => h) (Or.inl ⟨by rfl, ?_⟩) ?_ ?_
 rotate_left
 ·intro w'
  go_simp
  with_reducible rfl
 rotate_left
 ·simp only [Act.put, List.setIfInBounds_toArray, List.set_cons_zero, List.set_cons_succ, i64_w, i32_w]
  rfl
 refine done_ (by kernel_rfl) ?_
 try go_wp2
 refine bodyPost_ret (results_ct rfl _ _ gb311 42 #[.int .i64 a1, .int .i64 (l0_6.length : Int), .bool a0_2, .int .i64 a0_3, .int .i64 a0_4, .string a0_5] (0, 0) _ rfl (by (with_reducible repeat (first | apply bN | apply bD | apply bA)); refine blk_put (cs := #[.int .i64 a1, .int .i64 (l0_6.length : Int), .bool a0_2, .int .i64 a0_3, .int .i64 a0_4, .string (⟨#[]⟩ : ByteArray)]) ?_ 5 _ rfl; (with_reducible repeat (first | apply bN | apply bD | apply bA)); refine blk_put (cs := #[.int .i64 a1, .int .i64 (l0_6.length : Int), .bool a0_2, .int .i64 a0_3, .int .i64 0, .string (⟨#[]⟩ : ByteArray)]) ?_ 4 _ rfl; (with_reducible repeat (first | apply bN | apply bD | apply bA)); refine blk_put (cs := #[.int .i64 a1, .int .i64 (l0_6.length : Int), .bool a0_2, .int .i64 0, .int .i64 0, .string (⟨#[]⟩ : ByteArray)]) ?_ 3 _ rfl; (with_reducible repeat (first | apply bN | apply bD | apply bA)); refine blk_put (cs := #[.int .i64 a1, .int .i64 (l0_6.length : Int), .bool false, .int .i64 0, .int .i64 0, .string (⟨#[]⟩ : ByteArray)]) ?_ 2 _ rfl; (with_reducible repeat (first | apply bN | apply bD | apply bA)); refine blk_put (cs := #[.int .i64 a1, .int .i64 0, .bool false, .int .i64 0, .int .i64 0, .string (⟨#[]⟩ : ByteArray)]) ?_ 1 _ rfl; (with_reducible repeat (first | apply bN | apply bD | apply bA)); refine blk_put (cs := #[.int .i64 0, .int .i64 0, .bool false, .int .i64 0, .int .i64 0, .string (⟨#[]⟩ : ByteArray)]) ?_ 0 _ rfl; (with_reducible repeat (first | apply bN | apply bD | apply bA)); exact BK311.out) Try.underlying42 rfl (by kernel_rfl)) rfl ?_
 exact ⟨_, by first | rfl | (simp [errW_none, errW_some] <;> rfl) | (simp [*, errW_none, errW_some] <;> rfl), by (with_reducible repeat (first | apply Kd.R_alloc | apply Kd.R_drewN | apply Kd.R_drew)); exact Kd.R_mono (Kd.R_far (p := ⟨gb311, 5, none⟩) (Kd.R_far (p := ⟨gb311, 4, none⟩) (Kd.R_far (p := ⟨gb311, 3, none⟩) (Kd.R_far (p := ⟨gb311, 2, none⟩) (Kd.R_far (p := ⟨gb311, 1, none⟩) (Kd.R_far (p := ⟨gb311, 0, none⟩) (Kd.R_types HO315.out BK311.out (by decide)) (fun _ hk => hk.2) (.int .i64 a1)) (fun _ hk => hk.2) (.int .i64 (l0_6.length : Int))) (fun _ hk => hk.2) (.bool a0_2)) (fun _ hk => hk.2) (.int .i64 a0_3)) (fun _ hk => hk.2) (.int .i64 a0_4)) (fun _ hk => hk.2) (.string a0_5)) (fun _ hk => trivial), by repeat (first | (with_reducible first | exact HB.out | apply below_alloc | apply pw_below_drewN | apply below_drew1 | refine below_set ?_ (Aside0.out ‹_›)) | exact HB.out)⟩
end Go.Proofs.Ytkbdicedckmdkaa.P
