-- Printed by gprint.py, a program of this session, over the kit's print.py
import Derived.Test.YtkbdicedckmdkaaP0
import Derived.Test.YtkbdicedckmdkaaP3
import Derived.Test.YtkbdicedckmdkaaP10
namespace Go.Proofs.Ytkbdicedckmdkaa.P
open Go.RowKit Go.Proofs.YtkbdicedckmdkaaW.PrintWords Go.Proofs.YtkbdicedckmdkaaW.PrintLast Go.Proofs.YtkbdicedckmdkaaW.PrintMore
attribute [local go_sem] max2_int min2_int max_two min_two max_three min_three max_four min_four   -- for this text's walks alone
set_option linter.unusedVariables false
set_option linter.unusedSimpArgs false

/-! ### accept_Accept: function 9 -/
def accept_Accept.j0 : Nat → Int → ByteArray → Bool → Int → Int → Bool → Int → Int → ByteArray → List ByteArray → Int → Int → Int → Int → Bool → Int → Int → ByteArray → List ByteArray → Option (Int × Int × Bool × Int × Int × ByteArray × List ByteArray × Int)
 | 0, _, _, _, _, _, _, _, _, _, _, _, _, _, _, _, _, _, _, _ => none
 | k + 1, x2, x3, x27, x130000, x130001, x130002, x130003, x130004, x130005, x130006, x131000, x131001, x142000, x142001, x142002, x142003, x142004, x142005, x142006 => if x27 = true then (some (x142000, x142001, x142002, x142003, x142004, x142005, x142006, 0)) else (if x2 < (wrap64 ((x130006.length : Int) + 1)) then (some (x131000, x131001, x142002, x142003, x142004, x142005, x142006, 2)) else (if x2 > (wrap64 ((x130006.length : Int) + 1)) then (some (x131000, x131001, x142002, x142003, x142004, x142005, x142006, 3)) else (if (wrap64 ((x130006.length : Int) + 1)) > 4096 then (some (x131000, x131001, x142002, x142003, x142004, x142005, x142006, 3)) else (some (x131000, x131001, true, x131000, x131001, x3, x142006, 1)))))
def accept_Accept.f (k : Nat) (a0_0 : Int) (a0_1 : Int) (a0_2 : Bool) (a0_3 : Int) (a0_4 : Int) (a0_5 : ByteArray) (l0_6 : List ByteArray) (a1_0 : Int) (a1_1 : Int) (a2 : Int) (a3 : ByteArray) : Option (Int × Int × Bool × Int × Int × ByteArray × List ByteArray × Int) := (accept_own.f a0_0 a0_1 a0_2 a0_3 a0_4 a0_5 l0_6).bind fun bt132 => ((accept_ballot.f a1_0 a1_1).bind fun t142 => (if t142 = true then ((accept_Later.f a0_0 a0_1 a1_0 a1_1).bind fun t143 => (if t143 = true then (accept_Accept.j0 k a2 a3 true a0_0 a0_1 a0_2 a0_3 a0_4 a0_5 l0_6 a1_0 a1_1 bt132.1 bt132.2.1 bt132.2.2.1 bt132.2.2.2.1 bt132.2.2.2.2.1 bt132.2.2.2.2.2.1 bt132.2.2.2.2.2.2) else ((accept_value.f a3).bind fun t144 => (accept_Accept.j0 k a2 a3 (!t144) a0_0 a0_1 a0_2 a0_3 a0_4 a0_5 l0_6 a1_0 a1_1 bt132.1 bt132.2.1 bt132.2.2.1 bt132.2.2.2.1 bt132.2.2.2.2.1 bt132.2.2.2.2.2.1 bt132.2.2.2.2.2.2)))) else (accept_Accept.j0 k a2 a3 true a0_0 a0_1 a0_2 a0_3 a0_4 a0_5 l0_6 a1_0 a1_1 bt132.1 bt132.2.1 bt132.2.2.1 bt132.2.2.2.1 bt132.2.2.2.2.1 bt132.2.2.2.2.2.1 bt132.2.2.2.2.2.2)))
theorem accept_Accept.mono_l : ∀ k, (∀ y0 y1 y2 y3 y4 y5 y6 y7 y8 y9 y10 y11 y12 y13 y14 y15 y16 y17 y18, LeO (accept_Accept.j0 k y0 y1 y2 y3 y4 y5 y6 y7 y8 y9 y10 y11 y12 y13 y14 y15 y16 y17 y18) (accept_Accept.j0 (k + 1) y0 y1 y2 y3 y4 y5 y6 y7 y8 y9 y10 y11 y12 y13 y14 y15 y16 y17 y18))
 | 0 => fun _ _ _ _ _ _ _ _ _ _ _ _ _ _ _ _ _ _ _ r h => by simp [accept_Accept.j0] at h
 | k + 1 => by
  have ih0 := accept_Accept.mono_l k
  ·intro y0 y1 y2 y3 y4 y5 y6 y7 y8 y9 y10 y11 y12 y13 y14 y15 y16 y17 y18
   unfold accept_Accept.j0
   repeat' first
   | (with_reducible exact ih0 _ _ _ _ _ _ _ _ _ _ _ _ _ _ _ _ _ _ _)
   | (with_reducible exact LeO.refl _)
   | (with_reducible exact LeO.none _)
   | (with_reducible refine LeO.ite ?_ ?_)
   | (with_reducible refine LeO.bind ?_ (fun _ => ?_))
   | exact ih0 _ _ _ _ _ _ _ _ _ _ _ _ _ _ _ _ _ _ _
   | exact LeO.none _
   | refine LeO.ite ?_ ?_
   | refine LeO.bind ?_ (fun _ => ?_)
theorem accept_Accept.mono : ∀ a0 a1 a2 a3 a4 a5 a6 a7 a8 a9 a10 k, LeO (accept_Accept.f k a0 a1 a2 a3 a4 a5 a6 a7 a8 a9 a10) (accept_Accept.f (k + 1) a0 a1 a2 a3 a4 a5 a6 a7 a8 a9 a10) := by
 intro a0 a1 a2 a3 a4 a5 a6 a7 a8 a9 a10 k
 have ih0 := accept_Accept.mono_l k
 unfold accept_Accept.f
 repeat' first
   | (with_reducible exact ih0 _ _ _ _ _ _ _ _ _ _ _ _ _ _ _ _ _ _ _)
   | (with_reducible exact LeO.refl _)
   | (with_reducible exact LeO.none _)
   | (with_reducible refine LeO.ite ?_ ?_)
   | (with_reducible refine LeO.bind ?_ (fun _ => ?_))
   | exact ih0 _ _ _ _ _ _ _ _ _ _ _ _ _ _ _ _ _ _ _
   | exact LeO.none _
   | refine LeO.ite ?_ ?_
   | refine LeO.bind ?_ (fun _ => ?_)
def accept_Accept.T10 : Bool × List (List Nat × List Nat) := (true, [([], []), ([], []), ([], []), ([2], [2]), ([0, 2, 3], []), ([4, 0, 3, 0, 2, 3], [0, 4]), ([0, 1, 2, 3, 4, 5], []), ([6, 1, 5, 0, 1, 2, 3, 4, 5], [1, 6])])
def accept_Accept.B10 : List Nat := [0, 0, 0, 4, 13, 29, 63, 127]
theorem accept_Accept.tab10 : rtab .any (opsOf Try.f9 10) = accept_Accept.T10 := by kernel_rfl
theorem accept_Accept.bits10 : waitsOk accept_Accept.T10.2 accept_Accept.B10 = true := by kernel_rfl
set_option maxHeartbeats 8000000 in
set_option maxRecDepth 100000 in
theorem accept_Accept.calls (k : Nat) (a0_0 : Int) (a0_1 : Int) (a0_2 : Bool) (a0_3 : Int) (a0_4 : Int) (a0_5 : ByteArray) (A0_6 : Option Addr) (c0_6 : Nat) (l0_6 : List ByteArray) (a1_0 : Int) (a1_1 : Int) (a2 : Int) (a3 : ByteArray) (r1 : Int) (r2 : Int) (r3 : Bool) (r4 : Int) (r5 : Int) (r6 : ByteArray) (r7 : List ByteArray) (r8 : Int) (w : World) (hr0_6 : Kd.C Kd.string w A0_6 l0_6.length l0_6) (hc0_6 : l0_6.length ≤ c0_6) (h : accept_Accept.f k a0_0 a0_1 a0_2 a0_3 a0_4 a0_5 l0_6 a1_0 a1_1 a2 a3 = some (r1, r2, r3, r4, r5, r6, r7, r8)) :
  Calls Try.prog 9 #[.agg #[.int .i64 a0_0, .int .i64 a0_1, .bool a0_2, .int .i64 a0_3, .int .i64 a0_4, .string a0_5, .slice A0_6 l0_6.length c0_6], .agg #[.int .i64 a1_0, .int .i64 a1_1], .int .i64 a2, .string a3] w fun e w' => ∃ v6_ : Value, e = .returned (.tuple #[.agg #[.int .i64 r1, .int .i64 r2, .bool r3, .int .i64 r4, .int .i64 r5, .string r6, v6_], .int .i64 r8]) ∧ Kd.R Kd.string 9 w' w.heap.size (fun _ => True) v6_ r7 ∧ Below w.heap.size w w' := by
 have hu27 := Try.underlying27
 have hu24 := Try.underlying24
 have HR0_6 := Aside0.mk hr0_6
 have HC0_6 := Aside0.mk hc0_6
 clear hr0_6 hc0_6
 have HB := Aside0.mk (Below.refl w.heap.size w)
 have H : ((accept_own.f a0_0 a0_1 a0_2 a0_3 a0_4 a0_5 l0_6).bind fun bt132 => ((accept_ballot.f a1_0 a1_1).bind fun t142 => (if t142 = true then ((accept_Later.f a0_0 a0_1 a1_0 a1_1).bind fun t143 => (if t143 = true then (accept_Accept.j0 k a2 a3 true a0_0 a0_1 a0_2 a0_3 a0_4 a0_5 l0_6 a1_0 a1_1 bt132.1 bt132.2.1 bt132.2.2.1 bt132.2.2.2.1 bt132.2.2.2.2.1 bt132.2.2.2.2.2.1 bt132.2.2.2.2.2.2) else ((accept_value.f a3).bind fun t144 => (accept_Accept.j0 k a2 a3 (!t144) a0_0 a0_1 a0_2 a0_3 a0_4 a0_5 l0_6 a1_0 a1_1 bt132.1 bt132.2.1 bt132.2.2.1 bt132.2.2.2.1 bt132.2.2.2.2.1 bt132.2.2.2.2.2.1 bt132.2.2.2.2.2.2)))) else (accept_Accept.j0 k a2 a3 true a0_0 a0_1 a0_2 a0_3 a0_4 a0_5 l0_6 a1_0 a1_1 bt132.1 bt132.2.1 bt132.2.2.1 bt132.2.2.2.1 bt132.2.2.2.2.1 bt132.2.2.2.2.2.1 bt132.2.2.2.2.2.2)))) = some (r1, r2, r3, r4, r5, r6, r7, r8) := h
 clear h
 replace H := Option.bind_eq_some_iff.mp H
 obtain ⟨⟨t132, t133, t134, t135, t136, t137, t138⟩, A50, H⟩ := H
 replace H : ((accept_ballot.f a1_0 a1_1).bind fun t142 => (if t142 = true then ((accept_Later.f a0_0 a0_1 a1_0 a1_1).bind fun t143 => (if t143 = true then (accept_Accept.j0 k a2 a3 true a0_0 a0_1 a0_2 a0_3 a0_4 a0_5 l0_6 a1_0 a1_1 t132 t133 t134 t135 t136 t137 t138) else ((accept_value.f a3).bind fun t144 => (accept_Accept.j0 k a2 a3 (!t144) a0_0 a0_1 a0_2 a0_3 a0_4 a0_5 l0_6 a1_0 a1_1 t132 t133 t134 t135 t136 t137 t138)))) else (accept_Accept.j0 k a2 a3 true a0_0 a0_1 a0_2 a0_3 a0_4 a0_5 l0_6 a1_0 a1_1 t132 t133 t134 t135 t136 t137 t138))) = some (r1, r2, r3, r4, r5, r6, r7, r8) := H
 have A5 := Aside0.mk A50
 clear A50
 have HC6 := Aside0.mk H
 clear H
 go_enter Try.func9, Try.ntmps9
 go_upto_region 2 with (first | ((with_reducible refine gate_dst (N := 4) rfl ?_); refine box_event ?hg (N := 4) ?hd (cs := #[.int .i64 a0_0, .int .i64 a0_1, .bool a0_2, .int .i64 a0_3, .int .i64 a0_4, .string a0_5, .slice A0_6 l0_6.length c0_6]) (t := 27) ?hr ?_; (case hd => rfl); (case hg => rfl); (case hr => first | (go_simp; done) | (go_simp; rfl)); intro gb129 hg w7 hbox hb; have n0_ := Aside0.mk (below_step (by repeat (first | (with_reducible first | exact HB.out | apply below_alloc | apply pw_below_drewN | apply below_drew1) | exact HB.out)) hb); have n1_ := Aside0.mk (hbox); have n2_ := Aside0.mk ((by rw [hg]; exact (below_size (by repeat (first | (with_reducible first | exact HB.out | apply below_alloc | apply pw_below_drewN | apply below_drew1) | exact HB.out))) : w.heap.size ≤ gb129)); have n3_ := n2_; clear HB; have HB := n0_; have BK129 := n1_; have GW129 := n2_; have GE129 := n3_; clear n0_ n1_ n2_ n3_; clear hb hbox hg) | ((with_reducible refine gate_dst (N := 5) rfl ?_); refine box_event ?hg (N := 5) ?hd (cs := #[.int .i64 a1_0, .int .i64 a1_1]) (t := 24) ?hr ?_; (case hd => rfl); (case hg => rfl); (case hr => first | (go_simp; done) | (go_simp; rfl)); intro gb130 hg w8 hbox hb; have n0_ := Aside0.mk (blk_below (g := gb129) (o := .cells #[.int .i64 a0_0, .int .i64 a0_1, .bool a0_2, .int .i64 a0_3, .int .i64 a0_4, .string a0_5, .slice A0_6 l0_6.length c0_6] 27 (0, 0)) (by (with_reducible repeat (first | apply bN | apply bD | apply bA)); exact BK129.out) hb); have n1_ := Aside0.mk (below_step (by repeat (first | (with_reducible first | exact HB.out | apply below_alloc | apply pw_below_drewN | apply below_drew1 | refine below_set ?_ GE129.out) | exact HB.out)) hb); have n2_ := Aside0.mk (hbox); have n3_ := Aside0.mk ((by rw [hg]; exact (below_size (by repeat (first | (with_reducible first | exact HB.out | apply below_alloc | apply pw_below_drewN | apply below_drew1 | refine below_set ?_ GE129.out) | exact HB.out))) : w.heap.size ≤ gb130)); have n4_ := n3_; have n5_ := Aside0.mk ((by rw [hg]; exact Nat.ne_of_lt (blk_lt (g := gb129) (o := .cells #[.int .i64 a0_0, .int .i64 a0_1, .bool a0_2, .int .i64 a0_3, .int .i64 a0_4, .string a0_5, .slice A0_6 l0_6.length c0_6] 27 (0, 0)) (by (with_reducible repeat (first | apply bN | apply bD | apply bA)); exact BK129.out)) : gb129 ≠ gb130)); have n6_ := Aside0.mk ((by rw [hg]; exact Nat.ne_of_gt (blk_lt (g := gb129) (o := .cells #[.int .i64 a0_0, .int .i64 a0_1, .bool a0_2, .int .i64 a0_3, .int .i64 a0_4, .string a0_5, .slice A0_6 l0_6.length c0_6] 27 (0, 0)) (by (with_reducible repeat (first | apply bN | apply bD | apply bA)); exact BK129.out)) : gb130 ≠ gb129)); clear BK129; clear HB; have BK129 := n0_; have HB := n1_; have BK130 := n2_; have GW130 := n3_; have GE130 := n4_; have NB129_130 := n5_; have NB130_129 := n6_; clear n0_ n1_ n2_ n3_ n4_ n5_ n6_; clear hb hbox hg) | ((with_reducible refine gate_dst (N := 8) rfl ?_); refine box_event ?hg (N := 8) ?hd (cs := #[.int .i64 0, .int .i64 0, .bool false, .int .i64 0, .int .i64 0, .string (⟨#[]⟩ : ByteArray), .slice none 0 0]) (t := 27) ?hr ?_; (case hd => rfl); (case hg => rfl); (case hr => first | (go_simp; done) | (go_simp; rfl)); intro gb131 hg w9 hbox hb; have n0_ := Aside0.mk (blk_below (g := gb129) (o := .cells #[.int .i64 a0_0, .int .i64 a0_1, .bool a0_2, .int .i64 a0_3, .int .i64 a0_4, .string a0_5, .slice A0_6 l0_6.length c0_6] 27 (0, 0)) (by (with_reducible repeat (first | apply bN | apply bD | apply bA)); exact BK129.out) hb); have n1_ := Aside0.mk (blk_below (g := gb130) (o := .cells #[.int .i64 a1_0, .int .i64 a1_1] 24 (0, 0)) (by (with_reducible repeat (first | apply bN | apply bD | apply bA)); exact BK130.out) hb); have n2_ := Aside0.mk (below_step (by repeat (first | (with_reducible first | exact HB.out | apply below_alloc | apply pw_below_drewN | apply below_drew1 | refine below_set ?_ (Aside0.out ‹_›)) | exact HB.out)) hb); have n3_ := Aside0.mk (hbox); have n4_ := Aside0.mk ((by rw [hg]; exact (below_size (by repeat (first | (with_reducible first | exact HB.out | apply below_alloc | apply pw_below_drewN | apply below_drew1 | refine below_set ?_ (Aside0.out ‹_›)) | exact HB.out))) : w.heap.size ≤ gb131)); have n5_ := n4_; have n6_ := Aside0.mk ((by rw [hg]; exact Nat.ne_of_lt (blk_lt (g := gb129) (o := .cells #[.int .i64 a0_0, .int .i64 a0_1, .bool a0_2, .int .i64 a0_3, .int .i64 a0_4, .string a0_5, .slice A0_6 l0_6.length c0_6] 27 (0, 0)) (by (with_reducible repeat (first | apply bN | apply bD | apply bA)); exact BK129.out)) : gb129 ≠ gb131)); have n7_ := Aside0.mk ((by rw [hg]; exact Nat.ne_of_gt (blk_lt (g := gb129) (o := .cells #[.int .i64 a0_0, .int .i64 a0_1, .bool a0_2, .int .i64 a0_3, .int .i64 a0_4, .string a0_5, .slice A0_6 l0_6.length c0_6] 27 (0, 0)) (by (with_reducible repeat (first | apply bN | apply bD | apply bA)); exact BK129.out)) : gb131 ≠ gb129)); have n8_ := Aside0.mk ((by rw [hg]; exact Nat.ne_of_lt (blk_lt (g := gb130) (o := .cells #[.int .i64 a1_0, .int .i64 a1_1] 24 (0, 0)) (by (with_reducible repeat (first | apply bN | apply bD | apply bA)); exact BK130.out)) : gb130 ≠ gb131)); have n9_ := Aside0.mk ((by rw [hg]; exact Nat.ne_of_gt (blk_lt (g := gb130) (o := .cells #[.int .i64 a1_0, .int .i64 a1_1] 24 (0, 0)) (by (with_reducible repeat (first | apply bN | apply bD | apply bA)); exact BK130.out)) : gb131 ≠ gb130)); clear BK129; clear BK130; clear HB; have BK129 := n0_; have BK130 := n1_; have HB := n2_; have BK131 := n3_; have GW131 := n4_; have GE131 := n5_; have NB129_131 := n6_; have NB131_129 := n7_; have NB130_131 := n8_; have NB131_130 := n9_; clear n0_ n1_ n2_ n3_ n4_ n5_ n6_ n7_ n8_ n9_; clear hb hbox hg; have hnb10 := NB129_130.out; have hnc10 := NB130_129.out; have hnb11 := NB129_131.out; have hnc11 := NB131_129.out; obtain ⟨hcz12_0, hcz12_1, hcz12_2, hcz12_3, hcz12_4, hcz12_5, hcz12_6⟩ := blkC7 w9 gb129 (.int .i64 a0_0) (.int .i64 a0_1) (.bool a0_2) (.int .i64 a0_3) (.int .i64 a0_4) (.string a0_5) (.slice A0_6 l0_6.length c0_6) BK129.out; obtain ⟨hfz12_0, hfz12_1, hfz12_2, hfz12_3, hfz12_4, hfz12_5, hfz12_6⟩ := blkF7 BK129.out) | ((with_reducible refine gate_callee (f := 26) rfl ?_); refine goesL_ (some 13) rfl rfl Try.func26 (by kernel_rfl) rfl #[.agg #[.int .i64 a0_0, .int .i64 a0_1, .bool a0_2, .int .i64 a0_3, .int .i64 a0_4, .string a0_5, .slice A0_6 l0_6.length c0_6]] rfl (by (try simp only [List.map_toArray, List.map_cons, List.map_nil]); first | done | rfl | (simp only [List.length_drop, List.length_take]; rfl)) ?_; (with_reducible refine (accept_own.calls a0_0 a0_1 a0_2 a0_3 a0_4 a0_5 _ _ l0_6 t132 t133 t134 t135 t136 t137 t138 _ ?side1 ?side2 A5.out).mono ?_); (case side1 => repeat (first | exact (Kd.C_below HR0_6.out HB.out) | (with_reducible refine Kd.C_alloc ?_ _) | (with_reducible refine Kd.C_drewN ?_ _) | (with_reducible refine Kd.C_drew ?_))); (case side2 => exact HC0_6.out); rintro e w13 ⟨v139, rfl, ho0, hb⟩; refine ⟨_, rfl, ?_⟩; have n0_ := Aside0.mk (Kd.R_lower ho0 (below_size (by repeat (first | (with_reducible first | exact HB.out | apply below_alloc | apply pw_below_drewN | apply below_drew1 | refine below_set ?_ (Aside0.out ‹_›)) | exact HB.out)))); have n1_ := Aside0.mk (blk_below (g := gb129) (o := .cells #[.int .i64 a0_0, .int .i64 a0_1, .bool a0_2, .int .i64 a0_3, .int .i64 a0_4, .string a0_5, .slice A0_6 l0_6.length c0_6] 27 (0, 0)) (by (with_reducible repeat (first | apply bN | apply bD | apply bA)); exact BK129.out) hb); have n2_ := Aside0.mk (blk_below (g := gb130) (o := .cells #[.int .i64 a1_0, .int .i64 a1_1] 24 (0, 0)) (by (with_reducible repeat (first | apply bN | apply bD | apply bA)); exact BK130.out) hb); have n3_ := Aside0.mk (blk_below (g := gb131) (o := .cells #[.int .i64 0, .int .i64 0, .bool false, .int .i64 0, .int .i64 0, .string (⟨#[]⟩ : ByteArray), .slice none 0 0] 27 (0, 0)) (by (with_reducible repeat (first | apply bN | apply bD | apply bA)); exact BK131.out) hb); have n4_ := Aside0.mk (below_step (by repeat (first | (with_reducible first | exact HB.out | apply below_alloc | apply pw_below_drewN | apply below_drew1 | refine below_set ?_ (Aside0.out ‹_›)) | exact HB.out)) hb); clear BK129; clear BK130; clear BK131; clear HB; have HO140 := n0_; have BK129 := n1_; have BK130 := n2_; have BK131 := n3_; have HB := n4_; clear n0_ n1_ n2_ n3_ n4_; (try clear hb); (try clear hb2); (try clear hk); (try clear hi); (try clear ho0)) | ((with_reducible refine gate_dst (N := 10) rfl ?_); refine box_event ?hg (N := 10) ?hd (cs := #[.int .i64 0, .int .i64 0, .bool false, .int .i64 0, .int .i64 0, .string (⟨#[]⟩ : ByteArray), .slice none 0 0]) (t := 27) ?hr ?_; (case hd => rfl); (case hg => rfl); (case hr => first | (go_simp; done) | (go_simp; rfl)); intro gb141 hg w14 hbox hb; have n0_ := Aside0.mk (Kd.R_below (by (with_reducible repeat (first | apply Kd.R_alloc | apply Kd.R_drewN | apply Kd.R_drew)); exact HO140.out) hb); have n1_ := Aside0.mk (blk_below (g := gb129) (o := .cells #[.int .i64 a0_0, .int .i64 a0_1, .bool a0_2, .int .i64 a0_3, .int .i64 a0_4, .string a0_5, .slice A0_6 l0_6.length c0_6] 27 (0, 0)) (by (with_reducible repeat (first | apply bN | apply bD | apply bA)); exact BK129.out) hb); have n2_ := Aside0.mk (blk_below (g := gb130) (o := .cells #[.int .i64 a1_0, .int .i64 a1_1] 24 (0, 0)) (by (with_reducible repeat (first | apply bN | apply bD | apply bA)); exact BK130.out) hb); have n3_ := Aside0.mk (blk_below (g := gb131) (o := .cells #[.int .i64 0, .int .i64 0, .bool false, .int .i64 0, .int .i64 0, .string (⟨#[]⟩ : ByteArray), .slice none 0 0] 27 (0, 0)) (by (with_reducible repeat (first | apply bN | apply bD | apply bA)); exact BK131.out) hb); have n4_ := Aside0.mk (below_step (by repeat (first | (with_reducible first | exact HB.out | apply below_alloc | apply pw_below_drewN | apply below_drew1 | refine below_set ?_ (Aside0.out ‹_›)) | exact HB.out)) hb); have n5_ := Aside0.mk (hbox); have n6_ := Aside0.mk ((by rw [hg]; exact (below_size (by repeat (first | (with_reducible first | exact HB.out | apply below_alloc | apply pw_below_drewN | apply below_drew1 | refine below_set ?_ (Aside0.out ‹_›)) | exact HB.out))) : w.heap.size ≤ gb141)); have n7_ := n6_; have n8_ := Aside0.mk ((by rw [hg]; exact Nat.ne_of_lt (blk_lt (g := gb129) (o := .cells #[.int .i64 a0_0, .int .i64 a0_1, .bool a0_2, .int .i64 a0_3, .int .i64 a0_4, .string a0_5, .slice A0_6 l0_6.length c0_6] 27 (0, 0)) (by (with_reducible repeat (first | apply bN | apply bD | apply bA)); exact BK129.out)) : gb129 ≠ gb141)); have n9_ := Aside0.mk ((by rw [hg]; exact Nat.ne_of_gt (blk_lt (g := gb129) (o := .cells #[.int .i64 a0_0, .int .i64 a0_1, .bool a0_2, .int .i64 a0_3, .int .i64 a0_4, .string a0_5, .slice A0_6 l0_6.length c0_6] 27 (0, 0)) (by (with_reducible repeat (first | apply bN | apply bD | apply bA)); exact BK129.out)) : gb141 ≠ gb129)); have n10_ := Aside0.mk ((by rw [hg]; exact Nat.ne_of_lt (blk_lt (g := gb130) (o := .cells #[.int .i64 a1_0, .int .i64 a1_1] 24 (0, 0)) (by (with_reducible repeat (first | apply bN | apply bD | apply bA)); exact BK130.out)) : gb130 ≠ gb141)); have n11_ := Aside0.mk ((by rw [hg]; exact Nat.ne_of_gt (blk_lt (g := gb130) (o := .cells #[.int .i64 a1_0, .int .i64 a1_1] 24 (0, 0)) (by (with_reducible repeat (first | apply bN | apply bD | apply bA)); exact BK130.out)) : gb141 ≠ gb130)); have n12_ := Aside0.mk ((by rw [hg]; exact Nat.ne_of_lt (blk_lt (g := gb131) (o := .cells #[.int .i64 0, .int .i64 0, .bool false, .int .i64 0, .int .i64 0, .string (⟨#[]⟩ : ByteArray), .slice none 0 0] 27 (0, 0)) (by (with_reducible repeat (first | apply bN | apply bD | apply bA)); exact BK131.out)) : gb131 ≠ gb141)); have n13_ := Aside0.mk ((by rw [hg]; exact Nat.ne_of_gt (blk_lt (g := gb131) (o := .cells #[.int .i64 0, .int .i64 0, .bool false, .int .i64 0, .int .i64 0, .string (⟨#[]⟩ : ByteArray), .slice none 0 0] 27 (0, 0)) (by (with_reducible repeat (first | apply bN | apply bD | apply bA)); exact BK131.out)) : gb141 ≠ gb131)); clear HO140; clear BK129; clear BK130; clear BK131; clear HB; have HO140 := n0_; have BK129 := n1_; have BK130 := n2_; have BK131 := n3_; have HB := n4_; have BK141 := n5_; have GW141 := n6_; have GE141 := n7_; have NB129_141 := n8_; have NB141_129 := n9_; have NB130_141 := n10_; have NB141_130 := n11_; have NB131_141 := n12_; have NB141_131 := n13_; clear n0_ n1_ n2_ n3_ n4_ n5_ n6_ n7_ n8_ n9_ n10_ n11_ n12_ n13_; clear hb hbox hg; have hnb15 := NB141_129.out; have hnc15 := NB129_141.out; have hnb16 := NB141_130.out; have hnc16 := NB130_141.out; have hnb17 := NB141_131.out; have hnc17 := NB131_141.out; obtain ⟨hcz18_0, hcz18_1, hcz18_2, hcz18_3, hcz18_4, hcz18_5, hcz18_6⟩ := blkC7 w14 gb141 (.int .i64 0) (.int .i64 0) (.bool false) (.int .i64 0) (.int .i64 0) (.string (⟨#[]⟩ : ByteArray)) (.slice none 0 0) BK141.out; obtain ⟨hfz18_0, hfz18_1, hfz18_2, hfz18_3, hfz18_4, hfz18_5, hfz18_6⟩ := blkF7 BK141.out; obtain ⟨Ao19, co19, eo19⟩ := Kd.R_slice HO140.out; subst eo19))
 (try simp only [Act.put, List.setIfInBounds_toArray, List.set_cons_zero, List.set_cons_succ])
 go_cut [27] (fun v27 wc => ∃ (kq : Nat) (x27_5 : Bool), v27 = .bool x27_5 ∧ Aside0 (accept_Accept.j0 kq a2 a3 x27_5 a0_0 a0_1 a0_2 a0_3 a0_4 a0_5 l0_6 a1_0 a1_1 t132 t133 t134 t135 t136 t137 t138 = some (r1, r2, r3, r4, r5, r6, r7, r8)) ∧ Aside0 (kq ≤ k) ∧ Aside0 (Kd.R Kd.string 9 wc w.heap.size (fun _ => True) (.slice Ao19 t138.length co19) t138) ∧ Aside0 (wc.heap[gb129]? = some (.cells #[.int .i64 a0_0, .int .i64 a0_1, .bool a0_2, .int .i64 a0_3, .int .i64 a0_4, .string a0_5, (.slice A0_6 l0_6.length c0_6)] 27 (0, 0))) ∧ Aside0 (wc.heap[gb130]? = some (.cells #[.int .i64 a1_0, .int .i64 a1_1] 24 (0, 0))) ∧ Aside0 (wc.heap[gb131]? = some (.cells #[.int .i64 0, .int .i64 0, .bool false, .int .i64 0, .int .i64 0, .string (⟨#[]⟩ : ByteArray), (.slice none 0 0)] 27 (0, 0))) ∧ Aside0 (wc.heap[gb141]? = some (.cells #[.int .i64 t132, .int .i64 t133, .bool t134, .int .i64 t135, .int .i64 t136, .string t137, (.slice Ao19 t138.length co19)] 27 (0, 0))) ∧ Aside0 (Below w.heap.size w wc))
 case first =>
  have H := HC6.out
  clear HC6
  replace H := Option.bind_eq_some_iff.mp H
  obtain ⟨t142, A200, H⟩ := H
  replace H : (if t142 = true then ((accept_Later.f a0_0 a0_1 a1_0 a1_1).bind fun t143 => (if t143 = true then (accept_Accept.j0 k a2 a3 true a0_0 a0_1 a0_2 a0_3 a0_4 a0_5 l0_6 a1_0 a1_1 t132 t133 t134 t135 t136 t137 t138) else ((accept_value.f a3).bind fun t144 => (accept_Accept.j0 k a2 a3 (!t144) a0_0 a0_1 a0_2 a0_3 a0_4 a0_5 l0_6 a1_0 a1_1 t132 t133 t134 t135 t136 t137 t138)))) else (accept_Accept.j0 k a2 a3 true a0_0 a0_1 a0_2 a0_3 a0_4 a0_5 l0_6 a1_0 a1_1 t132 t133 t134 t135 t136 t137 t138)) = some (r1, r2, r3, r4, r5, r6, r7, r8) := H
  have A20 := Aside0.mk A200
  clear A200
  by_cases c21 : t142 = true
  ·subst c21
   have H1 : ((accept_Later.f a0_0 a0_1 a1_0 a1_1).bind fun t143 => (if t143 = true then (accept_Accept.j0 k a2 a3 true a0_0 a0_1 a0_2 a0_3 a0_4 a0_5 l0_6 a1_0 a1_1 t132 t133 t134 t135 t136 t137 t138) else ((accept_value.f a3).bind fun t144 => (accept_Accept.j0 k a2 a3 (!t144) a0_0 a0_1 a0_2 a0_3 a0_4 a0_5 l0_6 a1_0 a1_1 t132 t133 t134 t135 t136 t137 t138)))) = some (r1, r2, r3, r4, r5, r6, r7, r8) := by rw [if_pos rfl] at H; exact H
   clear H
   have H := H1
   clear H1
   replace H := Option.bind_eq_some_iff.mp H
   obtain ⟨t143, A220, H⟩ := H
   replace H : (if t143 = true then (accept_Accept.j0 k a2 a3 true a0_0 a0_1 a0_2 a0_3 a0_4 a0_5 l0_6 a1_0 a1_1 t132 t133 t134 t135 t136 t137 t138) else ((accept_value.f a3).bind fun t144 => (accept_Accept.j0 k a2 a3 (!t144) a0_0 a0_1 a0_2 a0_3 a0_4 a0_5 l0_6 a1_0 a1_1 t132 t133 t134 t135 t136 t137 t138))) = some (r1, r2, r3, r4, r5, r6, r7, r8) := H
   have A22 := Aside0.mk A220
   clear A220
   by_cases c23 : t143 = true
   ·subst c23
    have H1 : (accept_Accept.j0 k a2 a3 true a0_0 a0_1 a0_2 a0_3 a0_4 a0_5 l0_6 a1_0 a1_1 t132 t133 t134 t135 t136 t137 t138) = some (r1, r2, r3, r4, r5, r6, r7, r8) := by rw [if_pos rfl] at H; exact H
    clear H
    have H := H1
    clear H1
    have H' := Aside0.mk H
    clear H
    have hnb24 := NB130_129.out
    have hnc24 := NB129_130.out
    have hnb25 := NB130_131.out
    have hnc25 := NB131_130.out
    have hnb26 := NB130_141.out
    have hnc26 := NB141_130.out
    obtain ⟨hcz27_0, hcz27_1⟩ := blkC2 w14 gb130 (.int .i64 a1_0) (.int .i64 a1_1) BK130.out
    obtain ⟨hfz27_0, hfz27_1⟩ := blkF2 BK130.out
    go_wp2_with (first | ((with_reducible refine gate_callee (f := 27) rfl ?_); refine goesL_ (some 15) rfl rfl Try.func27 (by kernel_rfl) rfl #[.agg #[.int .i64 a1_0, .int .i64 a1_1]] rfl (by (try simp only [List.map_toArray, List.map_cons, List.map_nil]); first | done | rfl | (simp only [List.length_drop, List.length_take]; rfl)) ?_; (with_reducible refine (accept_ballot.calls a1_0 a1_1 true _ A20.out).mono ?_); rintro e w28 ⟨rfl, hb⟩; refine ⟨_, rfl, ?_⟩; have n0_ := Aside0.mk (Kd.R_below (by (with_reducible repeat (first | apply Kd.R_alloc | apply Kd.R_drewN | apply Kd.R_drew)); exact (Kd.R_mono (Kd.R_far (p := ⟨gb141, 6, none⟩) (Kd.R_far (p := ⟨gb141, 5, none⟩) (Kd.R_far (p := ⟨gb141, 4, none⟩) (Kd.R_far (p := ⟨gb141, 3, none⟩) (Kd.R_far (p := ⟨gb141, 2, none⟩) (Kd.R_far (p := ⟨gb141, 1, none⟩) (Kd.R_far (p := ⟨gb141, 0, none⟩) (Kd.R_types HO140.out BK141.out (by decide)) (fun _ hk => hk.2) (.int .i64 t132)) (fun _ hk => hk.2) (.int .i64 t133)) (fun _ hk => hk.2) (.bool t134)) (fun _ hk => hk.2) (.int .i64 t135)) (fun _ hk => hk.2) (.int .i64 t136)) (fun _ hk => hk.2) (.string t137)) (fun _ hk => hk.2) (.slice Ao19 t138.length co19)) (fun _ h_ => h_.1))) hb); have n1_ := Aside0.mk (blk_below (g := gb129) (o := .cells #[.int .i64 a0_0, .int .i64 a0_1, .bool a0_2, .int .i64 a0_3, .int .i64 a0_4, .string a0_5, .slice A0_6 l0_6.length c0_6] 27 (0, 0)) (by (with_reducible repeat (first | apply bN | apply bD | apply bA)); refine blk_far ?_ NB129_141.out _; (with_reducible repeat (first | apply bN | apply bD | apply bA)); refine blk_far ?_ NB129_141.out _; (with_reducible repeat (first | apply bN | apply bD | apply bA)); refine blk_far ?_ NB129_141.out _; (with_reducible repeat (first | apply bN | apply bD | apply bA)); refine blk_far ?_ NB129_141.out _; (with_reducible repeat (first | apply bN | apply bD | apply bA)); refine blk_far ?_ NB129_141.out _; (with_reducible repeat (first | apply bN | apply bD | apply bA)); refine blk_far ?_ NB129_141.out _; (with_reducible repeat (first | apply bN | apply bD | apply bA)); refine blk_far ?_ NB129_141.out _; (with_reducible repeat (first | apply bN | apply bD | apply bA)); exact BK129.out) hb); have n2_ := Aside0.mk (blk_below (g := gb130) (o := .cells #[.int .i64 a1_0, .int .i64 a1_1] 24 (0, 0)) (by (with_reducible repeat (first | apply bN | apply bD | apply bA)); refine blk_far ?_ NB130_141.out _; (with_reducible repeat (first | apply bN | apply bD | apply bA)); refine blk_far ?_ NB130_141.out _; (with_reducible repeat (first | apply bN | apply bD | apply bA)); refine blk_far ?_ NB130_141.out _; (with_reducible repeat (first | apply bN | apply bD | apply bA)); refine blk_far ?_ NB130_141.out _; (with_reducible repeat (first | apply bN | apply bD | apply bA)); refine blk_far ?_ NB130_141.out _; (with_reducible repeat (first | apply bN | apply bD | apply bA)); refine blk_far ?_ NB130_141.out _; (with_reducible repeat (first | apply bN | apply bD | apply bA)); refine blk_far ?_ NB130_141.out _; (with_reducible repeat (first | apply bN | apply bD | apply bA)); exact BK130.out) hb); have n3_ := Aside0.mk (blk_below (g := gb131) (o := .cells #[.int .i64 0, .int .i64 0, .bool false, .int .i64 0, .int .i64 0, .string (⟨#[]⟩ : ByteArray), .slice none 0 0] 27 (0, 0)) (by (with_reducible repeat (first | apply bN | apply bD | apply bA)); refine blk_far ?_ NB131_141.out _; (with_reducible repeat (first | apply bN | apply bD | apply bA)); refine blk_far ?_ NB131_141.out _; (with_reducible repeat (first | apply bN | apply bD | apply bA)); refine blk_far ?_ NB131_141.out _; (with_reducible repeat (first | apply bN | apply bD | apply bA)); refine blk_far ?_ NB131_141.out _; (with_reducible repeat (first | apply bN | apply bD | apply bA)); refine blk_far ?_ NB131_141.out _; (with_reducible repeat (first | apply bN | apply bD | apply bA)); refine blk_far ?_ NB131_141.out _; (with_reducible repeat (first | apply bN | apply bD | apply bA)); refine blk_far ?_ NB131_141.out _; (with_reducible repeat (first | apply bN | apply bD | apply bA)); exact BK131.out) hb); have n4_ := Aside0.mk (blk_below (g := gb141) (o := .cells #[.int .i64 t132, .int .i64 t133, .bool t134, .int .i64 t135, .int .i64 t136, .string t137, .slice Ao19 t138.length co19] 27 (0, 0)) (by (with_reducible repeat (first | apply bN | apply bD | apply bA)); refine blk_put (cs := #[.int .i64 t132, .int .i64 t133, .bool t134, .int .i64 t135, .int .i64 t136, .string t137, .slice none 0 0]) ?_ 6 _ rfl; (with_reducible repeat (first | apply bN | apply bD | apply bA)); refine blk_put (cs := #[.int .i64 t132, .int .i64 t133, .bool t134, .int .i64 t135, .int .i64 t136, .string (⟨#[]⟩ : ByteArray), .slice none 0 0]) ?_ 5 _ rfl; (with_reducible repeat (first | apply bN | apply bD | apply bA)); refine blk_put (cs := #[.int .i64 t132, .int .i64 t133, .bool t134, .int .i64 t135, .int .i64 0, .string (⟨#[]⟩ : ByteArray), .slice none 0 0]) ?_ 4 _ rfl; (with_reducible repeat (first | apply bN | apply bD | apply bA)); refine blk_put (cs := #[.int .i64 t132, .int .i64 t133, .bool t134, .int .i64 0, .int .i64 0, .string (⟨#[]⟩ : ByteArray), .slice none 0 0]) ?_ 3 _ rfl; (with_reducible repeat (first | apply bN | apply bD | apply bA)); refine blk_put (cs := #[.int .i64 t132, .int .i64 t133, .bool false, .int .i64 0, .int .i64 0, .string (⟨#[]⟩ : ByteArray), .slice none 0 0]) ?_ 2 _ rfl; (with_reducible repeat (first | apply bN | apply bD | apply bA)); refine blk_put (cs := #[.int .i64 t132, .int .i64 0, .bool false, .int .i64 0, .int .i64 0, .string (⟨#[]⟩ : ByteArray), .slice none 0 0]) ?_ 1 _ rfl; (with_reducible repeat (first | apply bN | apply bD | apply bA)); refine blk_put (cs := #[.int .i64 0, .int .i64 0, .bool false, .int .i64 0, .int .i64 0, .string (⟨#[]⟩ : ByteArray), .slice none 0 0]) ?_ 0 _ rfl; (with_reducible repeat (first | apply bN | apply bD | apply bA)); exact BK141.out) hb); have n5_ := Aside0.mk (below_step (by repeat (first | (with_reducible first | exact HB.out | apply below_alloc | apply pw_below_drewN | apply below_drew1 | refine below_set ?_ (Aside0.out ‹_›)) | exact HB.out)) hb); clear HO140; clear BK129; clear BK130; clear BK131; clear BK141; clear HB; have HO140 := n0_; have BK129 := n1_; have BK130 := n2_; have BK131 := n3_; have BK141 := n4_; have HB := n5_; clear n0_ n1_ n2_ n3_ n4_ n5_; (try clear hb); (try clear hb2); (try clear hk); (try clear hi); have hnb29 := NB129_131.out; have hnc29 := NB131_129.out; have hnb30 := NB129_141.out; have hnc30 := NB141_129.out; obtain ⟨hcz31_0, hcz31_1, hcz31_2, hcz31_3, hcz31_4, hcz31_5, hcz31_6⟩ := blkC7 w28 gb129 (.int .i64 a0_0) (.int .i64 a0_1) (.bool a0_2) (.int .i64 a0_3) (.int .i64 a0_4) (.string a0_5) (.slice A0_6 l0_6.length c0_6) BK129.out; obtain ⟨hfz31_0, hfz31_1, hfz31_2, hfz31_3, hfz31_4, hfz31_5, hfz31_6⟩ := blkF7 BK129.out; obtain ⟨hcz32_0, hcz32_1⟩ := blkC2 w28 gb130 (.int .i64 a1_0) (.int .i64 a1_1) BK130.out; obtain ⟨hfz32_0, hfz32_1⟩ := blkF2 BK130.out) | (go_at_call 25; (with_reducible refine (accept_Later.calls a0_0 a0_1 a1_0 a1_1 true _ A22.out).mono ?_); rintro e w33 ⟨rfl, hb⟩; have n0_ := Aside0.mk (Kd.R_below (by (with_reducible repeat (first | apply Kd.R_alloc | apply Kd.R_drewN | apply Kd.R_drew)); exact HO140.out) hb); have n1_ := Aside0.mk (blk_below (g := gb129) (o := .cells #[.int .i64 a0_0, .int .i64 a0_1, .bool a0_2, .int .i64 a0_3, .int .i64 a0_4, .string a0_5, .slice A0_6 l0_6.length c0_6] 27 (0, 0)) (by (with_reducible repeat (first | apply bN | apply bD | apply bA)); exact BK129.out) hb); have n2_ := Aside0.mk (blk_below (g := gb130) (o := .cells #[.int .i64 a1_0, .int .i64 a1_1] 24 (0, 0)) (by (with_reducible repeat (first | apply bN | apply bD | apply bA)); exact BK130.out) hb); have n3_ := Aside0.mk (blk_below (g := gb131) (o := .cells #[.int .i64 0, .int .i64 0, .bool false, .int .i64 0, .int .i64 0, .string (⟨#[]⟩ : ByteArray), .slice none 0 0] 27 (0, 0)) (by (with_reducible repeat (first | apply bN | apply bD | apply bA)); exact BK131.out) hb); have n4_ := Aside0.mk (blk_below (g := gb141) (o := .cells #[.int .i64 t132, .int .i64 t133, .bool t134, .int .i64 t135, .int .i64 t136, .string t137, .slice Ao19 t138.length co19] 27 (0, 0)) (by (with_reducible repeat (first | apply bN | apply bD | apply bA)); exact BK141.out) hb); have n5_ := Aside0.mk (below_step (by repeat (first | (with_reducible first | exact HB.out | apply below_alloc | apply pw_below_drewN | apply below_drew1 | refine below_set ?_ (Aside0.out ‹_›)) | exact HB.out)) hb); clear HO140; clear BK129; clear BK130; clear BK131; clear BK141; clear HB; have HO140 := n0_; have BK129 := n1_; have BK130 := n2_; have BK131 := n3_; have BK141 := n4_; have HB := n5_; clear n0_ n1_ n2_ n3_ n4_ n5_; (try clear hb); (try clear hb2); (try clear hk); (try clear hi)))
    go_meet
    case rel => exact ⟨_, (true), (by first | rfl | (simp; done) | (simp [*]; done)), H', ⟨by first | omega | exact Nat.le_refl _⟩, ⟨by (with_reducible repeat (first | apply Kd.R_alloc | apply Kd.R_drewN | apply Kd.R_drew)); exact HO140.out⟩, ⟨by (with_reducible repeat (first | apply bN | apply bD | apply bA)); exact BK129.out⟩, ⟨by (with_reducible repeat (first | apply bN | apply bD | apply bA)); exact BK130.out⟩, ⟨by (with_reducible repeat (first | apply bN | apply bD | apply bA)); exact BK131.out⟩, ⟨by (with_reducible repeat (first | apply bN | apply bD | apply bA)); exact BK141.out⟩, ⟨by repeat (first | (with_reducible first | exact HB.out | apply below_alloc | apply pw_below_drewN | apply below_drew1 | refine below_set ?_ (Aside0.out ‹_›)) | exact HB.out)⟩⟩
   ·replace c23 := Bool.eq_false_iff.mpr c23
    subst c23
    have H1 : ((accept_value.f a3).bind fun t144 => (accept_Accept.j0 k a2 a3 (!t144) a0_0 a0_1 a0_2 a0_3 a0_4 a0_5 l0_6 a1_0 a1_1 t132 t133 t134 t135 t136 t137 t138)) = some (r1, r2, r3, r4, r5, r6, r7, r8) := by rw [if_neg (show ¬ (false = true) by decide)] at H; exact H
    clear H
    have H := H1
    clear H1
    replace H := Option.bind_eq_some_iff.mp H
    obtain ⟨t144, A340, H⟩ := H
    replace H : (accept_Accept.j0 k a2 a3 (!t144) a0_0 a0_1 a0_2 a0_3 a0_4 a0_5 l0_6 a1_0 a1_1 t132 t133 t134 t135 t136 t137 t138) = some (r1, r2, r3, r4, r5, r6, r7, r8) := H
    have A34 := Aside0.mk A340
    clear A340
    have H' := Aside0.mk H
    clear H
    have hnb35 := NB130_129.out
    have hnc35 := NB129_130.out
    have hnb36 := NB130_131.out
    have hnc36 := NB131_130.out
    have hnb37 := NB130_141.out
    have hnc37 := NB141_130.out
    obtain ⟨hcz38_0, hcz38_1⟩ := blkC2 w14 gb130 (.int .i64 a1_0) (.int .i64 a1_1) BK130.out
    obtain ⟨hfz38_0, hfz38_1⟩ := blkF2 BK130.out
    go_wp2_with (first | ((with_reducible refine gate_callee (f := 27) rfl ?_); refine goesL_ (some 15) rfl rfl Try.func27 (by kernel_rfl) rfl #[.agg #[.int .i64 a1_0, .int .i64 a1_1]] rfl (by (try simp only [List.map_toArray, List.map_cons, List.map_nil]); first | done | rfl | (simp only [List.length_drop, List.length_take]; rfl)) ?_; (with_reducible refine (accept_ballot.calls a1_0 a1_1 true _ A20.out).mono ?_); rintro e w39 ⟨rfl, hb⟩; refine ⟨_, rfl, ?_⟩; have n0_ := Aside0.mk (Kd.R_below (by (with_reducible repeat (first | apply Kd.R_alloc | apply Kd.R_drewN | apply Kd.R_drew)); exact (Kd.R_mono (Kd.R_far (p := ⟨gb141, 6, none⟩) (Kd.R_far (p := ⟨gb141, 5, none⟩) (Kd.R_far (p := ⟨gb141, 4, none⟩) (Kd.R_far (p := ⟨gb141, 3, none⟩) (Kd.R_far (p := ⟨gb141, 2, none⟩) (Kd.R_far (p := ⟨gb141, 1, none⟩) (Kd.R_far (p := ⟨gb141, 0, none⟩) (Kd.R_types HO140.out BK141.out (by decide)) (fun _ hk => hk.2) (.int .i64 t132)) (fun _ hk => hk.2) (.int .i64 t133)) (fun _ hk => hk.2) (.bool t134)) (fun _ hk => hk.2) (.int .i64 t135)) (fun _ hk => hk.2) (.int .i64 t136)) (fun _ hk => hk.2) (.string t137)) (fun _ hk => hk.2) (.slice Ao19 t138.length co19)) (fun _ h_ => h_.1))) hb); have n1_ := Aside0.mk (blk_below (g := gb129) (o := .cells #[.int .i64 a0_0, .int .i64 a0_1, .bool a0_2, .int .i64 a0_3, .int .i64 a0_4, .string a0_5, .slice A0_6 l0_6.length c0_6] 27 (0, 0)) (by (with_reducible repeat (first | apply bN | apply bD | apply bA)); refine blk_far ?_ NB129_141.out _; (with_reducible repeat (first | apply bN | apply bD | apply bA)); refine blk_far ?_ NB129_141.out _; (with_reducible repeat (first | apply bN | apply bD | apply bA)); refine blk_far ?_ NB129_141.out _; (with_reducible repeat (first | apply bN | apply bD | apply bA)); refine blk_far ?_ NB129_141.out _; (with_reducible repeat (first | apply bN | apply bD | apply bA)); refine blk_far ?_ NB129_141.out _; (with_reducible repeat (first | apply bN | apply bD | apply bA)); refine blk_far ?_ NB129_141.out _; (with_reducible repeat (first | apply bN | apply bD | apply bA)); refine blk_far ?_ NB129_141.out _; (with_reducible repeat (first | apply bN | apply bD | apply bA)); exact BK129.out) hb); have n2_ := Aside0.mk (blk_below (g := gb130) (o := .cells #[.int .i64 a1_0, .int .i64 a1_1] 24 (0, 0)) (by (with_reducible repeat (first | apply bN | apply bD | apply bA)); refine blk_far ?_ NB130_141.out _; (with_reducible repeat (first | apply bN | apply bD | apply bA)); refine blk_far ?_ NB130_141.out _; (with_reducible repeat (first | apply bN | apply bD | apply bA)); refine blk_far ?_ NB130_141.out _; (with_reducible repeat (first | apply bN | apply bD | apply bA)); refine blk_far ?_ NB130_141.out _; (with_reducible repeat (first | apply bN | apply bD | apply bA)); refine blk_far ?_ NB130_141.out _; (with_reducible repeat (first | apply bN | apply bD | apply bA)); refine blk_far ?_ NB130_141.out _; (with_reducible repeat (first | apply bN | apply bD | apply bA)); refine blk_far ?_ NB130_141.out _; (with_reducible repeat (first | apply bN | apply bD | apply bA)); exact BK130.out) hb); have n3_ := Aside0.mk (blk_below (g := gb131) (o := .cells #[.int .i64 0, .int .i64 0, .bool false, .int .i64 0, .int .i64 0, .string (⟨#[]⟩ : ByteArray), .slice none 0 0] 27 (0, 0)) (by (with_reducible repeat (first | apply bN | apply bD | apply bA)); refine blk_far ?_ NB131_141.out _; (with_reducible repeat (first | apply bN | apply bD | apply bA)); refine blk_far ?_ NB131_141.out _; (with_reducible repeat (first | apply bN | apply bD | apply bA)); refine blk_far ?_ NB131_141.out _; (with_reducible repeat (first | apply bN | apply bD | apply bA)); refine blk_far ?_ NB131_141.out _; (with_reducible repeat (first | apply bN | apply bD | apply bA)); refine blk_far ?_ NB131_141.out _; (with_reducible repeat (first | apply bN | apply bD | apply bA)); refine blk_far ?_ NB131_141.out _; (with_reducible repeat (first | apply bN | apply bD | apply bA)); refine blk_far ?_ NB131_141.out _; (with_reducible repeat (first | apply bN | apply bD | apply bA)); exact BK131.out) hb); have n4_ := Aside0.mk (blk_below (g := gb141) (o := .cells #[.int .i64 t132, .int .i64 t133, .bool t134, .int .i64 t135, .int .i64 t136, .string t137, .slice Ao19 t138.length co19] 27 (0, 0)) (by (with_reducible repeat (first | apply bN | apply bD | apply bA)); refine blk_put (cs := #[.int .i64 t132, .int .i64 t133, .bool t134, .int .i64 t135, .int .i64 t136, .string t137, .slice none 0 0]) ?_ 6 _ rfl; (with_reducible repeat (first | apply bN | apply bD | apply bA)); refine blk_put (cs := #[.int .i64 t132, .int .i64 t133, .bool t134, .int .i64 t135, .int .i64 t136, .string (⟨#[]⟩ : ByteArray), .slice none 0 0]) ?_ 5 _ rfl; (with_reducible repeat (first | apply bN | apply bD | apply bA)); refine blk_put (cs := #[.int .i64 t132, .int .i64 t133, .bool t134, .int .i64 t135, .int .i64 0, .string (⟨#[]⟩ : ByteArray), .slice none 0 0]) ?_ 4 _ rfl; (with_reducible repeat (first | apply bN | apply bD | apply bA)); refine blk_put (cs := #[.int .i64 t132, .int .i64 t133, .bool t134, .int .i64 0, .int .i64 0, .string (⟨#[]⟩ : ByteArray), .slice none 0 0]) ?_ 3 _ rfl; (with_reducible repeat (first | apply bN | apply bD | apply bA)); refine blk_put (cs := #[.int .i64 t132, .int .i64 t133, .bool false, .int .i64 0, .int .i64 0, .string (⟨#[]⟩ : ByteArray), .slice none 0 0]) ?_ 2 _ rfl; (with_reducible repeat (first | apply bN | apply bD | apply bA)); refine blk_put (cs := #[.int .i64 t132, .int .i64 0, .bool false, .int .i64 0, .int .i64 0, .string (⟨#[]⟩ : ByteArray), .slice none 0 0]) ?_ 1 _ rfl; (with_reducible repeat (first | apply bN | apply bD | apply bA)); refine blk_put (cs := #[.int .i64 0, .int .i64 0, .bool false, .int .i64 0, .int .i64 0, .string (⟨#[]⟩ : ByteArray), .slice none 0 0]) ?_ 0 _ rfl; (with_reducible repeat (first | apply bN | apply bD | apply bA)); exact BK141.out) hb); have n5_ := Aside0.mk (below_step (by repeat (first | (with_reducible first | exact HB.out | apply below_alloc | apply pw_below_drewN | apply below_drew1 | refine below_set ?_ (Aside0.out ‹_›)) | exact HB.out)) hb); clear HO140; clear BK129; clear BK130; clear BK131; clear BK141; clear HB; have HO140 := n0_; have BK129 := n1_; have BK130 := n2_; have BK131 := n3_; have BK141 := n4_; have HB := n5_; clear n0_ n1_ n2_ n3_ n4_ n5_; (try clear hb); (try clear hb2); (try clear hk); (try clear hi); have hnb40 := NB129_131.out; have hnc40 := NB131_129.out; have hnb41 := NB129_141.out; have hnc41 := NB141_129.out; obtain ⟨hcz42_0, hcz42_1, hcz42_2, hcz42_3, hcz42_4, hcz42_5, hcz42_6⟩ := blkC7 w39 gb129 (.int .i64 a0_0) (.int .i64 a0_1) (.bool a0_2) (.int .i64 a0_3) (.int .i64 a0_4) (.string a0_5) (.slice A0_6 l0_6.length c0_6) BK129.out; obtain ⟨hfz42_0, hfz42_1, hfz42_2, hfz42_3, hfz42_4, hfz42_5, hfz42_6⟩ := blkF7 BK129.out; obtain ⟨hcz43_0, hcz43_1⟩ := blkC2 w39 gb130 (.int .i64 a1_0) (.int .i64 a1_1) BK130.out; obtain ⟨hfz43_0, hfz43_1⟩ := blkF2 BK130.out) | (go_at_call 25; (with_reducible refine (accept_Later.calls a0_0 a0_1 a1_0 a1_1 false _ A22.out).mono ?_); rintro e w44 ⟨rfl, hb⟩; have n0_ := Aside0.mk (Kd.R_below (by (with_reducible repeat (first | apply Kd.R_alloc | apply Kd.R_drewN | apply Kd.R_drew)); exact HO140.out) hb); have n1_ := Aside0.mk (blk_below (g := gb129) (o := .cells #[.int .i64 a0_0, .int .i64 a0_1, .bool a0_2, .int .i64 a0_3, .int .i64 a0_4, .string a0_5, .slice A0_6 l0_6.length c0_6] 27 (0, 0)) (by (with_reducible repeat (first | apply bN | apply bD | apply bA)); exact BK129.out) hb); have n2_ := Aside0.mk (blk_below (g := gb130) (o := .cells #[.int .i64 a1_0, .int .i64 a1_1] 24 (0, 0)) (by (with_reducible repeat (first | apply bN | apply bD | apply bA)); exact BK130.out) hb); have n3_ := Aside0.mk (blk_below (g := gb131) (o := .cells #[.int .i64 0, .int .i64 0, .bool false, .int .i64 0, .int .i64 0, .string (⟨#[]⟩ : ByteArray), .slice none 0 0] 27 (0, 0)) (by (with_reducible repeat (first | apply bN | apply bD | apply bA)); exact BK131.out) hb); have n4_ := Aside0.mk (blk_below (g := gb141) (o := .cells #[.int .i64 t132, .int .i64 t133, .bool t134, .int .i64 t135, .int .i64 t136, .string t137, .slice Ao19 t138.length co19] 27 (0, 0)) (by (with_reducible repeat (first | apply bN | apply bD | apply bA)); exact BK141.out) hb); have n5_ := Aside0.mk (below_step (by repeat (first | (with_reducible first | exact HB.out | apply below_alloc | apply pw_below_drewN | apply below_drew1 | refine below_set ?_ (Aside0.out ‹_›)) | exact HB.out)) hb); clear HO140; clear BK129; clear BK130; clear BK131; clear BK141; clear HB; have HO140 := n0_; have BK129 := n1_; have BK130 := n2_; have BK131 := n3_; have BK141 := n4_; have HB := n5_; clear n0_ n1_ n2_ n3_ n4_ n5_; (try clear hb); (try clear hb2); (try clear hk); (try clear hi)) | (go_at_call 30; (with_reducible refine (accept_value.calls a3 t144 _ A34.out).mono ?_); rintro e w' ⟨rfl, ⟨nd, rfl⟩⟩))
    go_meet
    case rel => exact ⟨_, (!t144), (by first | rfl | (simp; done) | (simp [*]; done)), H', ⟨by first | omega | exact Nat.le_refl _⟩, ⟨by (with_reducible repeat (first | apply Kd.R_alloc | apply Kd.R_drewN | apply Kd.R_drew)); exact HO140.out⟩, ⟨by (with_reducible repeat (first | apply bN | apply bD | apply bA)); exact BK129.out⟩, ⟨by (with_reducible repeat (first | apply bN | apply bD | apply bA)); exact BK130.out⟩, ⟨by (with_reducible repeat (first | apply bN | apply bD | apply bA)); exact BK131.out⟩, ⟨by (with_reducible repeat (first | apply bN | apply bD | apply bA)); exact BK141.out⟩, ⟨by repeat (first | (with_reducible first | exact HB.out | apply below_alloc | apply pw_below_drewN | apply below_drew1 | refine below_set ?_ (Aside0.out ‹_›)) | exact HB.out)⟩⟩
  ·replace c21 := Bool.eq_false_iff.mpr c21
   subst c21
   have H1 : (accept_Accept.j0 k a2 a3 true a0_0 a0_1 a0_2 a0_3 a0_4 a0_5 l0_6 a1_0 a1_1 t132 t133 t134 t135 t136 t137 t138) = some (r1, r2, r3, r4, r5, r6, r7, r8) := by rw [if_neg (show ¬ (false = true) by decide)] at H; exact H
   clear H
   have H := H1
   clear H1
   have H' := Aside0.mk H
   clear H
   have hnb45 := NB130_129.out
   have hnc45 := NB129_130.out
   have hnb46 := NB130_131.out
   have hnc46 := NB131_130.out
   have hnb47 := NB130_141.out
   have hnc47 := NB141_130.out
   obtain ⟨hcz48_0, hcz48_1⟩ := blkC2 w14 gb130 (.int .i64 a1_0) (.int .i64 a1_1) BK130.out
   obtain ⟨hfz48_0, hfz48_1⟩ := blkF2 BK130.out
   go_wp2_with (first | ((with_reducible refine gate_callee (f := 27) rfl ?_); refine goesL_ (some 15) rfl rfl Try.func27 (by kernel_rfl) rfl #[.agg #[.int .i64 a1_0, .int .i64 a1_1]] rfl (by (try simp only [List.map_toArray, List.map_cons, List.map_nil]); first | done | rfl | (simp only [List.length_drop, List.length_take]; rfl)) ?_; (with_reducible refine (accept_ballot.calls a1_0 a1_1 false _ A20.out).mono ?_); rintro e w49 ⟨rfl, hb⟩; refine ⟨_, rfl, ?_⟩; have n0_ := Aside0.mk (Kd.R_below (by (with_reducible repeat (first | apply Kd.R_alloc | apply Kd.R_drewN | apply Kd.R_drew)); exact (Kd.R_mono (Kd.R_far (p := ⟨gb141, 6, none⟩) (Kd.R_far (p := ⟨gb141, 5, none⟩) (Kd.R_far (p := ⟨gb141, 4, none⟩) (Kd.R_far (p := ⟨gb141, 3, none⟩) (Kd.R_far (p := ⟨gb141, 2, none⟩) (Kd.R_far (p := ⟨gb141, 1, none⟩) (Kd.R_far (p := ⟨gb141, 0, none⟩) (Kd.R_types HO140.out BK141.out (by decide)) (fun _ hk => hk.2) (.int .i64 t132)) (fun _ hk => hk.2) (.int .i64 t133)) (fun _ hk => hk.2) (.bool t134)) (fun _ hk => hk.2) (.int .i64 t135)) (fun _ hk => hk.2) (.int .i64 t136)) (fun _ hk => hk.2) (.string t137)) (fun _ hk => hk.2) (.slice Ao19 t138.length co19)) (fun _ h_ => h_.1))) hb); have n1_ := Aside0.mk (blk_below (g := gb129) (o := .cells #[.int .i64 a0_0, .int .i64 a0_1, .bool a0_2, .int .i64 a0_3, .int .i64 a0_4, .string a0_5, .slice A0_6 l0_6.length c0_6] 27 (0, 0)) (by (with_reducible repeat (first | apply bN | apply bD | apply bA)); refine blk_far ?_ NB129_141.out _; (with_reducible repeat (first | apply bN | apply bD | apply bA)); refine blk_far ?_ NB129_141.out _; (with_reducible repeat (first | apply bN | apply bD | apply bA)); refine blk_far ?_ NB129_141.out _; (with_reducible repeat (first | apply bN | apply bD | apply bA)); refine blk_far ?_ NB129_141.out _; (with_reducible repeat (first | apply bN | apply bD | apply bA)); refine blk_far ?_ NB129_141.out _; (with_reducible repeat (first | apply bN | apply bD | apply bA)); refine blk_far ?_ NB129_141.out _; (with_reducible repeat (first | apply bN | apply bD | apply bA)); refine blk_far ?_ NB129_141.out _; (with_reducible repeat (first | apply bN | apply bD | apply bA)); exact BK129.out) hb); have n2_ := Aside0.mk (blk_below (g := gb130) (o := .cells #[.int .i64 a1_0, .int .i64 a1_1] 24 (0, 0)) (by (with_reducible repeat (first | apply bN | apply bD | apply bA)); refine blk_far ?_ NB130_141.out _; (with_reducible repeat (first | apply bN | apply bD | apply bA)); refine blk_far ?_ NB130_141.out _; (with_reducible repeat (first | apply bN | apply bD | apply bA)); refine blk_far ?_ NB130_141.out _; (with_reducible repeat (first | apply bN | apply bD | apply bA)); refine blk_far ?_ NB130_141.out _; (with_reducible repeat (first | apply bN | apply bD | apply bA)); refine blk_far ?_ NB130_141.out _; (with_reducible repeat (first | apply bN | apply bD | apply bA)); refine blk_far ?_ NB130_141.out _; (with_reducible repeat (first | apply bN | apply bD | apply bA)); refine blk_far ?_ NB130_141.out _; (with_reducible repeat (first | apply bN | apply bD | apply bA)); exact BK130.out) hb); have n3_ := Aside0.mk (blk_below (g := gb131) (o := .cells #[.int .i64 0, .int .i64 0, .bool false, .int .i64 0, .int .i64 0, .string (⟨#[]⟩ : ByteArray), .slice none 0 0] 27 (0, 0)) (by (with_reducible repeat (first | apply bN | apply bD | apply bA)); refine blk_far ?_ NB131_141.out _; (with_reducible repeat (first | apply bN | apply bD | apply bA)); refine blk_far ?_ NB131_141.out _; (with_reducible repeat (first | apply bN | apply bD | apply bA)); refine blk_far ?_ NB131_141.out _; (with_reducible repeat (first | apply bN | apply bD | apply bA)); refine blk_far ?_ NB131_141.out _; (with_reducible repeat (first | apply bN | apply bD | apply bA)); refine blk_far ?_ NB131_141.out _; (with_reducible repeat (first | apply bN | apply bD | apply bA)); refine blk_far ?_ NB131_141.out _; (with_reducible repeat (first | apply bN | apply bD | apply bA)); refine blk_far ?_ NB131_141.out _; (with_reducible repeat (first | apply bN | apply bD | apply bA)); exact BK131.out) hb); have n4_ := Aside0.mk (blk_below (g := gb141) (o := .cells #[.int .i64 t132, .int .i64 t133, .bool t134, .int .i64 t135, .int .i64 t136, .string t137, .slice Ao19 t138.length co19] 27 (0, 0)) (by (with_reducible repeat (first | apply bN | apply bD | apply bA)); refine blk_put (cs := #[.int .i64 t132, .int .i64 t133, .bool t134, .int .i64 t135, .int .i64 t136, .string t137, .slice none 0 0]) ?_ 6 _ rfl; (with_reducible repeat (first | apply bN | apply bD | apply bA)); refine blk_put (cs := #[.int .i64 t132, .int .i64 t133, .bool t134, .int .i64 t135, .int .i64 t136, .string (⟨#[]⟩ : ByteArray), .slice none 0 0]) ?_ 5 _ rfl; (with_reducible repeat (first | apply bN | apply bD | apply bA)); refine blk_put (cs := #[.int .i64 t132, .int .i64 t133, .bool t134, .int .i64 t135, .int .i64 0, .string (⟨#[]⟩ : ByteArray), .slice none 0 0]) ?_ 4 _ rfl; (with_reducible repeat (first | apply bN | apply bD | apply bA)); refine blk_put (cs := #[.int .i64 t132, .int .i64 t133, .bool t134, .int .i64 0, .int .i64 0, .string (⟨#[]⟩ : ByteArray), .slice none 0 0]) ?_ 3 _ rfl; (with_reducible repeat (first | apply bN | apply bD | apply bA)); refine blk_put (cs := #[.int .i64 t132, .int .i64 t133, .bool false, .int .i64 0, .int .i64 0, .string (⟨#[]⟩ : ByteArray), .slice none 0 0]) ?_ 2 _ rfl; (with_reducible repeat (first | apply bN | apply bD | apply bA)); refine blk_put (cs := #[.int .i64 t132, .int .i64 0, .bool false, .int .i64 0, .int .i64 0, .string (⟨#[]⟩ : ByteArray), .slice none 0 0]) ?_ 1 _ rfl; (with_reducible repeat (first | apply bN | apply bD | apply bA)); refine blk_put (cs := #[.int .i64 0, .int .i64 0, .bool false, .int .i64 0, .int .i64 0, .string (⟨#[]⟩ : ByteArray), .slice none 0 0]) ?_ 0 _ rfl; (with_reducible repeat (first | apply bN | apply bD | apply bA)); exact BK141.out) hb); have n5_ := Aside0.mk (below_step (by repeat (first | (with_reducible first | exact HB.out | apply below_alloc | apply pw_below_drewN | apply below_drew1 | refine below_set ?_ (Aside0.out ‹_›)) | exact HB.out)) hb); clear HO140; clear BK129; clear BK130; clear BK131; clear BK141; clear HB; have HO140 := n0_; have BK129 := n1_; have BK130 := n2_; have BK131 := n3_; have BK141 := n4_; have HB := n5_; clear n0_ n1_ n2_ n3_ n4_ n5_; (try clear hb); (try clear hb2); (try clear hk); (try clear hi)))
   go_meet
   case rel => exact ⟨_, (true), (by first | rfl | (simp; done) | (simp [*]; done)), H', ⟨by first | omega | exact Nat.le_refl _⟩, ⟨by (with_reducible repeat (first | apply Kd.R_alloc | apply Kd.R_drewN | apply Kd.R_drew)); exact HO140.out⟩, ⟨by (with_reducible repeat (first | apply bN | apply bD | apply bA)); exact BK129.out⟩, ⟨by (with_reducible repeat (first | apply bN | apply bD | apply bA)); exact BK130.out⟩, ⟨by (with_reducible repeat (first | apply bN | apply bD | apply bA)); exact BK131.out⟩, ⟨by (with_reducible repeat (first | apply bN | apply bD | apply bA)); exact BK141.out⟩, ⟨by repeat (first | (with_reducible first | exact HB.out | apply below_alloc | apply pw_below_drewN | apply below_drew1 | refine below_set ?_ (Aside0.out ‹_›)) | exact HB.out)⟩⟩
 case rest =>
  clear HC6
  try clear c1
  try clear c2
  try clear p2
  try clear c3
  try clear c4
  try clear c9
  try clear c10
  try clear c11
  try clear c15
  try clear c16
  try clear c17
  try clear c21
  try clear c23
  try clear c24
  try clear c25
  try clear c26
  try clear c27
  try clear c29
  try clear c30
  try clear c35
  try clear c36
  try clear c37
  try clear c40
  try clear c41
  try clear c45
  try clear c46
  try clear c47
  try clear hcz12_0 hcz12_1 hcz12_2 hcz12_3 hcz12_4 hcz12_5 hcz12_6
  try clear hcz18_0 hcz18_1 hcz18_2 hcz18_3 hcz18_4 hcz18_5 hcz18_6
  try clear hcz27_0 hcz27_1
  try clear hcz31_0 hcz31_1 hcz31_2 hcz31_3 hcz31_4 hcz31_5 hcz31_6
  try clear hcz32_0 hcz32_1
  try clear hcz38_0 hcz38_1
  try clear hcz42_0 hcz42_1 hcz42_2 hcz42_3 hcz42_4 hcz42_5 hcz42_6
  try clear hcz43_0 hcz43_1
  try clear hcz48_0 hcz48_1
  try clear hfz12_0 hfz12_1 hfz12_2 hfz12_3 hfz12_4 hfz12_5 hfz12_6
  try clear hfz18_0 hfz18_1 hfz18_2 hfz18_3 hfz18_4 hfz18_5 hfz18_6
  try clear hfz27_0 hfz27_1
  try clear hfz31_0 hfz31_1 hfz31_2 hfz31_3 hfz31_4 hfz31_5 hfz31_6
  try clear hfz32_0 hfz32_1
  try clear hfz38_0 hfz38_1
  try clear hfz42_0 hfz42_1 hfz42_2 hfz42_3 hfz42_4 hfz42_5 hfz42_6
  try clear hfz43_0 hfz43_1
  try clear hfz48_0 hfz48_1
  obtain ⟨kq, x27_5, rfl, HA, HJ5, HO_142006, BK129, BK130, BK131, BK141, HB⟩ := hcut
  cases kq with
  | zero => exact absurd HA.out (by simp [accept_Accept.j0])
  | succ kj5 =>
   have H := HA.out
   clear HA
   simp only [accept_Accept.j0] at H
   by_cases c50 : x27_5 = true
   ·subst c50
    have H1 : (some (t132, t133, t134, t135, t136, t137, t138, 0)) = some (r1, r2, r3, r4, r5, r6, r7, r8) := by rw [if_pos rfl] at H; exact H
    clear H
    have H := H1
    clear H1
    simp only [Option.some.injEq, Prod.mk.injEq] at H
    obtain ⟨rfl, rfl, rfl, rfl, rfl, rfl, rfl, rfl⟩ := H
    have hnb51 := NB141_129.out
    have hnc51 := NB129_141.out
    have hnb52 := NB141_130.out
    have hnc52 := NB130_141.out
    have hnb53 := NB141_131.out
    have hnc53 := NB131_141.out
    obtain ⟨hcz54_0, hcz54_1, hcz54_2, hcz54_3, hcz54_4, hcz54_5, hcz54_6⟩ := blkC7 wc gb141 (.int .i64 t132) (.int .i64 t133) (.bool t134) (.int .i64 t135) (.int .i64 t136) (.string t137) (.slice Ao19 t138.length co19) BK141.out
    obtain ⟨hfz54_0, hfz54_1, hfz54_2, hfz54_3, hfz54_4, hfz54_5, hfz54_6⟩ := blkF7 BK141.out
    have hnb55 := NB131_129.out
    have hnc55 := NB129_131.out
    have hnb56 := NB131_130.out
    have hnc56 := NB130_131.out
    obtain ⟨hcz57_0, hcz57_1, hcz57_2, hcz57_3, hcz57_4, hcz57_5, hcz57_6⟩ := blkC7 wc gb131 (.int .i64 0) (.int .i64 0) (.bool false) (.int .i64 0) (.int .i64 0) (.string (⟨#[]⟩ : ByteArray)) (.slice none 0 0) BK131.out
    obtain ⟨hfz57_0, hfz57_1, hfz57_2, hfz57_3, hfz57_4, hfz57_5, hfz57_6⟩ := blkF7 BK131.out
    go_wp2
    refine bodyPost_ret (results_ct rfl _ _ gb131 27 #[.int .i64 t132, .int .i64 t133, .bool t134, .int .i64 t135, .int .i64 t136, .string t137, .slice Ao19 t138.length co19] (0, 0) _ rfl (by (with_reducible repeat (first | apply bN | apply bD | apply bA)); refine blk_put (cs := #[.int .i64 t132, .int .i64 t133, .bool t134, .int .i64 t135, .int .i64 t136, .string t137, .slice none 0 0]) ?_ 6 _ rfl; (with_reducible repeat (first | apply bN | apply bD | apply bA)); refine blk_put (cs := #[.int .i64 t132, .int .i64 t133, .bool t134, .int .i64 t135, .int .i64 t136, .string (⟨#[]⟩ : ByteArray), .slice none 0 0]) ?_ 5 _ rfl; (with_reducible repeat (first | apply bN | apply bD | apply bA)); refine blk_put (cs := #[.int .i64 t132, .int .i64 t133, .bool t134, .int .i64 t135, .int .i64 0, .string (⟨#[]⟩ : ByteArray), .slice none 0 0]) ?_ 4 _ rfl; (with_reducible repeat (first | apply bN | apply bD | apply bA)); refine blk_put (cs := #[.int .i64 t132, .int .i64 t133, .bool t134, .int .i64 0, .int .i64 0, .string (⟨#[]⟩ : ByteArray), .slice none 0 0]) ?_ 3 _ rfl; (with_reducible repeat (first | apply bN | apply bD | apply bA)); refine blk_put (cs := #[.int .i64 t132, .int .i64 t133, .bool false, .int .i64 0, .int .i64 0, .string (⟨#[]⟩ : ByteArray), .slice none 0 0]) ?_ 2 _ rfl; (with_reducible repeat (first | apply bN | apply bD | apply bA)); refine blk_put (cs := #[.int .i64 t132, .int .i64 0, .bool false, .int .i64 0, .int .i64 0, .string (⟨#[]⟩ : ByteArray), .slice none 0 0]) ?_ 1 _ rfl; (with_reducible repeat (first | apply bN | apply bD | apply bA)); refine blk_put (cs := #[.int .i64 0, .int .i64 0, .bool false, .int .i64 0, .int .i64 0, .string (⟨#[]⟩ : ByteArray), .slice none 0 0]) ?_ 0 _ rfl; (with_reducible repeat (first | apply bN | apply bD | apply bA)); exact BK131.out) Try.underlying27 rfl (by kernel_rfl)) rfl ?_
    exact ⟨_, by first | rfl | (simp [errW_none, errW_some] <;> rfl) | (simp [*, errW_none, errW_some] <;> rfl), by (with_reducible repeat (first | apply Kd.R_alloc | apply Kd.R_drewN | apply Kd.R_drew)); exact Kd.R_mono (Kd.R_far (p := ⟨gb131, 6, none⟩) (Kd.R_far (p := ⟨gb131, 5, none⟩) (Kd.R_far (p := ⟨gb131, 4, none⟩) (Kd.R_far (p := ⟨gb131, 3, none⟩) (Kd.R_far (p := ⟨gb131, 2, none⟩) (Kd.R_far (p := ⟨gb131, 1, none⟩) (Kd.R_far (p := ⟨gb131, 0, none⟩) (Kd.R_types HO_142006.out BK131.out (by decide)) (fun _ hk => hk.2) (.int .i64 t132)) (fun _ hk => hk.2) (.int .i64 t133)) (fun _ hk => hk.2) (.bool t134)) (fun _ hk => hk.2) (.int .i64 t135)) (fun _ hk => hk.2) (.int .i64 t136)) (fun _ hk => hk.2) (.string t137)) (fun _ hk => hk.2) (.slice Ao19 t138.length co19)) (fun _ hk => trivial), by repeat (first | (with_reducible first | exact HB.out | apply below_alloc | apply pw_below_drewN | apply below_drew1 | refine below_set ?_ (Aside0.out ‹_›)) | exact HB.out)⟩
   ·replace c50 := Bool.eq_false_iff.mpr c50
    subst c50
    have H1 : (if a2 < (wrap64 ((l0_6.length : Int) + 1)) then (some (a1_0, a1_1, t134, t135, t136, t137, t138, 2)) else (if a2 > (wrap64 ((l0_6.length : Int) + 1)) then (some (a1_0, a1_1, t134, t135, t136, t137, t138, 3)) else (if (wrap64 ((l0_6.length : Int) + 1)) > 4096 then (some (a1_0, a1_1, t134, t135, t136, t137, t138, 3)) else (some (a1_0, a1_1, true, a1_0, a1_1, a3, t138, 1))))) = some (r1, r2, r3, r4, r5, r6, r7, r8) := by rw [if_neg (show ¬ (false = true) by decide)] at H; exact H
    clear H
    have H := H1
    clear H1
    by_cases c58 : a2 < (wrap64 ((l0_6.length : Int) + 1))
    ·rw [if_pos c58] at H
     have c58b0 : decide (a2 < (wrap64 ((l0_6.length : Int) + 1))) = true := decide_eq_true c58
     clear c58
     simp only [Option.some.injEq, Prod.mk.injEq] at H
     obtain ⟨rfl, rfl, rfl, rfl, rfl, rfl, rfl, rfl⟩ := H
     have hnb59 := NB130_129.out
     have hnc59 := NB129_130.out
     have hnb60 := NB130_131.out
     have hnc60 := NB131_130.out
     have hnb61 := NB130_141.out
     have hnc61 := NB141_130.out
     obtain ⟨hcz62_0, hcz62_1⟩ := blkC2 wc gb130 (.int .i64 a1_0) (.int .i64 a1_1) BK130.out
     obtain ⟨hfz62_0, hfz62_1⟩ := blkF2 BK130.out
     have hnb63 := NB141_129.out
     have hnc63 := NB129_141.out
     have hnb64 := NB141_131.out
     have hnc64 := NB131_141.out
     obtain ⟨hcz65_0, hcz65_1, hcz65_2, hcz65_3, hcz65_4, hcz65_5, hcz65_6⟩ := blkC7 wc gb141 (.int .i64 t132) (.int .i64 t133) (.bool t134) (.int .i64 t135) (.int .i64 t136) (.string t137) (.slice Ao19 t138.length co19) BK141.out
     obtain ⟨hfz65_0, hfz65_1, hfz65_2, hfz65_3, hfz65_4, hfz65_5, hfz65_6⟩ := blkF7 BK141.out
     have hnb66 := NB129_131.out
     have hnc66 := NB131_129.out
     obtain ⟨hcz67_0, hcz67_1, hcz67_2, hcz67_3, hcz67_4, hcz67_5, hcz67_6⟩ := blkC7 wc gb129 (.int .i64 a0_0) (.int .i64 a0_1) (.bool a0_2) (.int .i64 a0_3) (.int .i64 a0_4) (.string a0_5) (.slice A0_6 l0_6.length c0_6) BK129.out
     obtain ⟨hfz67_0, hfz67_1, hfz67_2, hfz67_3, hfz67_4, hfz67_5, hfz67_6⟩ := blkF7 BK129.out
     obtain ⟨hcz68_0, hcz68_1, hcz68_2, hcz68_3, hcz68_4, hcz68_5, hcz68_6⟩ := blkC7 wc gb131 (.int .i64 0) (.int .i64 0) (.bool false) (.int .i64 0) (.int .i64 0) (.string (⟨#[]⟩ : ByteArray)) (.slice none 0 0) BK131.out
     obtain ⟨hfz68_0, hfz68_1, hfz68_2, hfz68_3, hfz68_4, hfz68_5, hfz68_6⟩ := blkF7 BK131.out
     go_wp2
     refine bodyPost_ret (results_ct rfl _ _ gb131 27 #[.int .i64 a1_0, .int .i64 a1_1, .bool t134, .int .i64 t135, .int .i64 t136, .string t137, .slice Ao19 t138.length co19] (0, 0) _ rfl (by (with_reducible repeat (first | apply bN | apply bD | apply bA)); refine blk_put (cs := #[.int .i64 a1_0, .int .i64 a1_1, .bool t134, .int .i64 t135, .int .i64 t136, .string t137, .slice none 0 0]) ?_ 6 _ rfl; (with_reducible repeat (first | apply bN | apply bD | apply bA)); refine blk_put (cs := #[.int .i64 a1_0, .int .i64 a1_1, .bool t134, .int .i64 t135, .int .i64 t136, .string (⟨#[]⟩ : ByteArray), .slice none 0 0]) ?_ 5 _ rfl; (with_reducible repeat (first | apply bN | apply bD | apply bA)); refine blk_put (cs := #[.int .i64 a1_0, .int .i64 a1_1, .bool t134, .int .i64 t135, .int .i64 0, .string (⟨#[]⟩ : ByteArray), .slice none 0 0]) ?_ 4 _ rfl; (with_reducible repeat (first | apply bN | apply bD | apply bA)); refine blk_put (cs := #[.int .i64 a1_0, .int .i64 a1_1, .bool t134, .int .i64 0, .int .i64 0, .string (⟨#[]⟩ : ByteArray), .slice none 0 0]) ?_ 3 _ rfl; (with_reducible repeat (first | apply bN | apply bD | apply bA)); refine blk_put (cs := #[.int .i64 a1_0, .int .i64 a1_1, .bool false, .int .i64 0, .int .i64 0, .string (⟨#[]⟩ : ByteArray), .slice none 0 0]) ?_ 2 _ rfl; (with_reducible repeat (first | apply bN | apply bD | apply bA)); refine blk_put (cs := #[.int .i64 a1_0, .int .i64 0, .bool false, .int .i64 0, .int .i64 0, .string (⟨#[]⟩ : ByteArray), .slice none 0 0]) ?_ 1 _ rfl; (with_reducible repeat (first | apply bN | apply bD | apply bA)); refine blk_put (cs := #[.int .i64 0, .int .i64 0, .bool false, .int .i64 0, .int .i64 0, .string (⟨#[]⟩ : ByteArray), .slice none 0 0]) ?_ 0 _ rfl; (with_reducible repeat (first | apply bN | apply bD | apply bA)); refine blk_far ?_ NB131_141.out _; (with_reducible repeat (first | apply bN | apply bD | apply bA)); refine blk_far ?_ NB131_141.out _; (with_reducible repeat (first | apply bN | apply bD | apply bA)); exact BK131.out) Try.underlying27 rfl (by kernel_rfl)) rfl ?_
     exact ⟨_, by first | rfl | (simp [errW_none, errW_some] <;> rfl) | (simp [*, errW_none, errW_some] <;> rfl), by (with_reducible repeat (first | apply Kd.R_alloc | apply Kd.R_drewN | apply Kd.R_drew)); exact Kd.R_mono (Kd.R_far (p := ⟨gb131, 6, none⟩) (Kd.R_far (p := ⟨gb131, 5, none⟩) (Kd.R_far (p := ⟨gb131, 4, none⟩) (Kd.R_far (p := ⟨gb131, 3, none⟩) (Kd.R_far (p := ⟨gb131, 2, none⟩) (Kd.R_far (p := ⟨gb131, 1, none⟩) (Kd.R_far (p := ⟨gb131, 0, none⟩) (Kd.R_far (p := ⟨gb141, 1, none⟩) (Kd.R_far (p := ⟨gb141, 0, none⟩) (Kd.R_types (Kd.R_types HO_142006.out BK141.out (by decide)) BK131.out (by decide)) (fun _ hk => hk.1.2) (.int .i64 a1_0)) (fun _ hk => hk.1.2) (.int .i64 a1_1)) (fun _ hk => hk.2) (.int .i64 a1_0)) (fun _ hk => hk.2) (.int .i64 a1_1)) (fun _ hk => hk.2) (.bool t134)) (fun _ hk => hk.2) (.int .i64 t135)) (fun _ hk => hk.2) (.int .i64 t136)) (fun _ hk => hk.2) (.string t137)) (fun _ hk => hk.2) (.slice Ao19 t138.length co19)) (fun _ hk => trivial), by repeat (first | (with_reducible first | exact HB.out | apply below_alloc | apply pw_below_drewN | apply below_drew1 | refine below_set ?_ (Aside0.out ‹_›)) | exact HB.out)⟩
    ·rw [if_neg c58] at H
     have c58b0 : decide (a2 < (wrap64 ((l0_6.length : Int) + 1))) = false := decide_eq_false c58
     clear c58
     by_cases c69 : a2 > (wrap64 ((l0_6.length : Int) + 1))
     ·rw [if_pos c69] at H
      have c69b0 : decide ((wrap64 ((l0_6.length : Int) + 1)) < a2) = true := decide_eq_true c69
      clear c69
      simp only [Option.some.injEq, Prod.mk.injEq] at H
      obtain ⟨rfl, rfl, rfl, rfl, rfl, rfl, rfl, rfl⟩ := H
      have hnb70 := NB130_129.out
      have hnc70 := NB129_130.out
      have hnb71 := NB130_131.out
      have hnc71 := NB131_130.out
      have hnb72 := NB130_141.out
      have hnc72 := NB141_130.out
      obtain ⟨hcz73_0, hcz73_1⟩ := blkC2 wc gb130 (.int .i64 a1_0) (.int .i64 a1_1) BK130.out
      obtain ⟨hfz73_0, hfz73_1⟩ := blkF2 BK130.out
      have hnb74 := NB141_129.out
      have hnc74 := NB129_141.out
      have hnb75 := NB141_131.out
      have hnc75 := NB131_141.out
      obtain ⟨hcz76_0, hcz76_1, hcz76_2, hcz76_3, hcz76_4, hcz76_5, hcz76_6⟩ := blkC7 wc gb141 (.int .i64 t132) (.int .i64 t133) (.bool t134) (.int .i64 t135) (.int .i64 t136) (.string t137) (.slice Ao19 t138.length co19) BK141.out
      obtain ⟨hfz76_0, hfz76_1, hfz76_2, hfz76_3, hfz76_4, hfz76_5, hfz76_6⟩ := blkF7 BK141.out
      have hnb77 := NB129_131.out
      have hnc77 := NB131_129.out
      obtain ⟨hcz78_0, hcz78_1, hcz78_2, hcz78_3, hcz78_4, hcz78_5, hcz78_6⟩ := blkC7 wc gb129 (.int .i64 a0_0) (.int .i64 a0_1) (.bool a0_2) (.int .i64 a0_3) (.int .i64 a0_4) (.string a0_5) (.slice A0_6 l0_6.length c0_6) BK129.out
      obtain ⟨hfz78_0, hfz78_1, hfz78_2, hfz78_3, hfz78_4, hfz78_5, hfz78_6⟩ := blkF7 BK129.out
      obtain ⟨hcz79_0, hcz79_1, hcz79_2, hcz79_3, hcz79_4, hcz79_5, hcz79_6⟩ := blkC7 wc gb131 (.int .i64 0) (.int .i64 0) (.bool false) (.int .i64 0) (.int .i64 0) (.string (⟨#[]⟩ : ByteArray)) (.slice none 0 0) BK131.out
      obtain ⟨hfz79_0, hfz79_1, hfz79_2, hfz79_3, hfz79_4, hfz79_5, hfz79_6⟩ := blkF7 BK131.out
      go_wp2
      refine bodyPost_ret (results_ct rfl _ _ gb131 27 #[.int .i64 a1_0, .int .i64 a1_1, .bool t134, .int .i64 t135, .int .i64 t136, .string t137, .slice Ao19 t138.length co19] (0, 0) _ rfl (by (with_reducible repeat (first | apply bN | apply bD | apply bA)); refine blk_put (cs := #[.int .i64 a1_0, .int .i64 a1_1, .bool t134, .int .i64 t135, .int .i64 t136, .string t137, .slice none 0 0]) ?_ 6 _ rfl; (with_reducible repeat (first | apply bN | apply bD | apply bA)); refine blk_put (cs := #[.int .i64 a1_0, .int .i64 a1_1, .bool t134, .int .i64 t135, .int .i64 t136, .string (⟨#[]⟩ : ByteArray), .slice none 0 0]) ?_ 5 _ rfl; (with_reducible repeat (first | apply bN | apply bD | apply bA)); refine blk_put (cs := #[.int .i64 a1_0, .int .i64 a1_1, .bool t134, .int .i64 t135, .int .i64 0, .string (⟨#[]⟩ : ByteArray), .slice none 0 0]) ?_ 4 _ rfl; (with_reducible repeat (first | apply bN | apply bD | apply bA)); refine blk_put (cs := #[.int .i64 a1_0, .int .i64 a1_1, .bool t134, .int .i64 0, .int .i64 0, .string (⟨#[]⟩ : ByteArray), .slice none 0 0]) ?_ 3 _ rfl; (with_reducible repeat (first | apply bN | apply bD | apply bA)); refine blk_put (cs := #[.int .i64 a1_0, .int .i64 a1_1, .bool false, .int .i64 0, .int .i64 0, .string (⟨#[]⟩ : ByteArray), .slice none 0 0]) ?_ 2 _ rfl; (with_reducible repeat (first | apply bN | apply bD | apply bA)); refine blk_put (cs := #[.int .i64 a1_0, .int .i64 0, .bool false, .int .i64 0, .int .i64 0, .string (⟨#[]⟩ : ByteArray), .slice none 0 0]) ?_ 1 _ rfl; (with_reducible repeat (first | apply bN | apply bD | apply bA)); refine blk_put (cs := #[.int .i64 0, .int .i64 0, .bool false, .int .i64 0, .int .i64 0, .string (⟨#[]⟩ : ByteArray), .slice none 0 0]) ?_ 0 _ rfl; (with_reducible repeat (first | apply bN | apply bD | apply bA)); refine blk_far ?_ NB131_141.out _; (with_reducible repeat (first | apply bN | apply bD | apply bA)); refine blk_far ?_ NB131_141.out _; (with_reducible repeat (first | apply bN | apply bD | apply bA)); exact BK131.out) Try.underlying27 rfl (by kernel_rfl)) rfl ?_
      exact ⟨_, by first | rfl | (simp [errW_none, errW_some] <;> rfl) | (simp [*, errW_none, errW_some] <;> rfl), by (with_reducible repeat (first | apply Kd.R_alloc | apply Kd.R_drewN | apply Kd.R_drew)); exact Kd.R_mono (Kd.R_far (p := ⟨gb131, 6, none⟩) (Kd.R_far (p := ⟨gb131, 5, none⟩) (Kd.R_far (p := ⟨gb131, 4, none⟩) (Kd.R_far (p := ⟨gb131, 3, none⟩) (Kd.R_far (p := ⟨gb131, 2, none⟩) (Kd.R_far (p := ⟨gb131, 1, none⟩) (Kd.R_far (p := ⟨gb131, 0, none⟩) (Kd.R_far (p := ⟨gb141, 1, none⟩) (Kd.R_far (p := ⟨gb141, 0, none⟩) (Kd.R_types (Kd.R_types HO_142006.out BK141.out (by decide)) BK131.out (by decide)) (fun _ hk => hk.1.2) (.int .i64 a1_0)) (fun _ hk => hk.1.2) (.int .i64 a1_1)) (fun _ hk => hk.2) (.int .i64 a1_0)) (fun _ hk => hk.2) (.int .i64 a1_1)) (fun _ hk => hk.2) (.bool t134)) (fun _ hk => hk.2) (.int .i64 t135)) (fun _ hk => hk.2) (.int .i64 t136)) (fun _ hk => hk.2) (.string t137)) (fun _ hk => hk.2) (.slice Ao19 t138.length co19)) (fun _ hk => trivial), by repeat (first | (with_reducible first | exact HB.out | apply below_alloc | apply pw_below_drewN | apply below_drew1 | refine below_set ?_ (Aside0.out ‹_›)) | exact HB.out)⟩
     ·rw [if_neg c69] at H
      have c69b0 : decide ((wrap64 ((l0_6.length : Int) + 1)) < a2) = false := decide_eq_false c69
      clear c69
      by_cases c80 : (wrap64 ((l0_6.length : Int) + 1)) > 4096
      ·rw [if_pos c80] at H
       have c80b0 : decide (4096 < (wrap64 ((l0_6.length : Int) + 1))) = true := decide_eq_true c80
       clear c80
       simp only [Option.some.injEq, Prod.mk.injEq] at H
       obtain ⟨rfl, rfl, rfl, rfl, rfl, rfl, rfl, rfl⟩ := H
       have hnb81 := NB130_129.out
       have hnc81 := NB129_130.out
       have hnb82 := NB130_131.out
       have hnc82 := NB131_130.out
       have hnb83 := NB130_141.out
       have hnc83 := NB141_130.out
       obtain ⟨hcz84_0, hcz84_1⟩ := blkC2 wc gb130 (.int .i64 a1_0) (.int .i64 a1_1) BK130.out
       obtain ⟨hfz84_0, hfz84_1⟩ := blkF2 BK130.out
       have hnb85 := NB141_129.out
       have hnc85 := NB129_141.out
       have hnb86 := NB141_131.out
       have hnc86 := NB131_141.out
       obtain ⟨hcz87_0, hcz87_1, hcz87_2, hcz87_3, hcz87_4, hcz87_5, hcz87_6⟩ := blkC7 wc gb141 (.int .i64 t132) (.int .i64 t133) (.bool t134) (.int .i64 t135) (.int .i64 t136) (.string t137) (.slice Ao19 t138.length co19) BK141.out
       obtain ⟨hfz87_0, hfz87_1, hfz87_2, hfz87_3, hfz87_4, hfz87_5, hfz87_6⟩ := blkF7 BK141.out
       have hnb88 := NB129_131.out
       have hnc88 := NB131_129.out
       obtain ⟨hcz89_0, hcz89_1, hcz89_2, hcz89_3, hcz89_4, hcz89_5, hcz89_6⟩ := blkC7 wc gb129 (.int .i64 a0_0) (.int .i64 a0_1) (.bool a0_2) (.int .i64 a0_3) (.int .i64 a0_4) (.string a0_5) (.slice A0_6 l0_6.length c0_6) BK129.out
       obtain ⟨hfz89_0, hfz89_1, hfz89_2, hfz89_3, hfz89_4, hfz89_5, hfz89_6⟩ := blkF7 BK129.out
       obtain ⟨hcz90_0, hcz90_1, hcz90_2, hcz90_3, hcz90_4, hcz90_5, hcz90_6⟩ := blkC7 wc gb131 (.int .i64 0) (.int .i64 0) (.bool false) (.int .i64 0) (.int .i64 0) (.string (⟨#[]⟩ : ByteArray)) (.slice none 0 0) BK131.out
       obtain ⟨hfz90_0, hfz90_1, hfz90_2, hfz90_3, hfz90_4, hfz90_5, hfz90_6⟩ := blkF7 BK131.out
       go_wp2
       refine bodyPost_ret (results_ct rfl _ _ gb131 27 #[.int .i64 a1_0, .int .i64 a1_1, .bool t134, .int .i64 t135, .int .i64 t136, .string t137, .slice Ao19 t138.length co19] (0, 0) _ rfl (by (with_reducible repeat (first | apply bN | apply bD | apply bA)); refine blk_put (cs := #[.int .i64 a1_0, .int .i64 a1_1, .bool t134, .int .i64 t135, .int .i64 t136, .string t137, .slice none 0 0]) ?_ 6 _ rfl; (with_reducible repeat (first | apply bN | apply bD | apply bA)); refine blk_put (cs := #[.int .i64 a1_0, .int .i64 a1_1, .bool t134, .int .i64 t135, .int .i64 t136, .string (⟨#[]⟩ : ByteArray), .slice none 0 0]) ?_ 5 _ rfl; (with_reducible repeat (first | apply bN | apply bD | apply bA)); refine blk_put (cs := #[.int .i64 a1_0, .int .i64 a1_1, .bool t134, .int .i64 t135, .int .i64 0, .string (⟨#[]⟩ : ByteArray), .slice none 0 0]) ?_ 4 _ rfl; (with_reducible repeat (first | apply bN | apply bD | apply bA)); refine blk_put (cs := #[.int .i64 a1_0, .int .i64 a1_1, .bool t134, .int .i64 0, .int .i64 0, .string (⟨#[]⟩ : ByteArray), .slice none 0 0]) ?_ 3 _ rfl; (with_reducible repeat (first | apply bN | apply bD | apply bA)); refine blk_put (cs := #[.int .i64 a1_0, .int .i64 a1_1, .bool false, .int .i64 0, .int .i64 0, .string (⟨#[]⟩ : ByteArray), .slice none 0 0]) ?_ 2 _ rfl; (with_reducible repeat (first | apply bN | apply bD | apply bA)); refine blk_put (cs := #[.int .i64 a1_0, .int .i64 0, .bool false, .int .i64 0, .int .i64 0, .string (⟨#[]⟩ : ByteArray), .slice none 0 0]) ?_ 1 _ rfl; (with_reducible repeat (first | apply bN | apply bD | apply bA)); refine blk_put (cs := #[.int .i64 0, .int .i64 0, .bool false, .int .i64 0, .int .i64 0, .string (⟨#[]⟩ : ByteArray), .slice none 0 0]) ?_ 0 _ rfl; (with_reducible repeat (first | apply bN | apply bD | apply bA)); refine blk_far ?_ NB131_141.out _; (with_reducible repeat (first | apply bN | apply bD | apply bA)); refine blk_far ?_ NB131_141.out _; (with_reducible repeat (first | apply bN | apply bD | apply bA)); exact BK131.out) Try.underlying27 rfl (by kernel_rfl)) rfl ?_
       exact ⟨_, by first | rfl | (simp [errW_none, errW_some] <;> rfl) | (simp [*, errW_none, errW_some] <;> rfl), by (with_reducible repeat (first | apply Kd.R_alloc | apply Kd.R_drewN | apply Kd.R_drew)); exact Kd.R_mono (Kd.R_far (p := ⟨gb131, 6, none⟩) (Kd.R_far (p := ⟨gb131, 5, none⟩) (Kd.R_far (p := ⟨gb131, 4, none⟩) (Kd.R_far (p := ⟨gb131, 3, none⟩) (Kd.R_far (p := ⟨gb131, 2, none⟩) (Kd.R_far (p := ⟨gb131, 1, none⟩) (Kd.R_far (p := ⟨gb131, 0, none⟩) (Kd.R_far (p := ⟨gb141, 1, none⟩) (Kd.R_far (p := ⟨gb141, 0, none⟩) (Kd.R_types (Kd.R_types HO_142006.out BK141.out (by decide)) BK131.out (by decide)) (fun _ hk => hk.1.2) (.int .i64 a1_0)) (fun _ hk => hk.1.2) (.int .i64 a1_1)) (fun _ hk => hk.2) (.int .i64 a1_0)) (fun _ hk => hk.2) (.int .i64 a1_1)) (fun _ hk => hk.2) (.bool t134)) (fun _ hk => hk.2) (.int .i64 t135)) (fun _ hk => hk.2) (.int .i64 t136)) (fun _ hk => hk.2) (.string t137)) (fun _ hk => hk.2) (.slice Ao19 t138.length co19)) (fun _ hk => trivial), by repeat (first | (with_reducible first | exact HB.out | apply below_alloc | apply pw_below_drewN | apply below_drew1 | refine below_set ?_ (Aside0.out ‹_›)) | exact HB.out)⟩
      ·rw [if_neg c80] at H
       have c80b0 : decide (4096 < (wrap64 ((l0_6.length : Int) + 1))) = false := decide_eq_false c80
       clear c80
       simp only [Option.some.injEq, Prod.mk.injEq] at H
       obtain ⟨rfl, rfl, rfl, rfl, rfl, rfl, rfl, rfl⟩ := H
       have hnb91 := NB130_129.out
       have hnc91 := NB129_130.out
       have hnb92 := NB130_131.out
       have hnc92 := NB131_130.out
       have hnb93 := NB130_141.out
       have hnc93 := NB141_130.out
       obtain ⟨hcz94_0, hcz94_1⟩ := blkC2 wc gb130 (.int .i64 a1_0) (.int .i64 a1_1) BK130.out
       obtain ⟨hfz94_0, hfz94_1⟩ := blkF2 BK130.out
       have hnb95 := NB141_129.out
       have hnc95 := NB129_141.out
       have hnb96 := NB141_131.out
       have hnc96 := NB131_141.out
       obtain ⟨hcz97_0, hcz97_1, hcz97_2, hcz97_3, hcz97_4, hcz97_5, hcz97_6⟩ := blkC7 wc gb141 (.int .i64 t132) (.int .i64 t133) (.bool t134) (.int .i64 t135) (.int .i64 t136) (.string t137) (.slice Ao19 t138.length co19) BK141.out
       obtain ⟨hfz97_0, hfz97_1, hfz97_2, hfz97_3, hfz97_4, hfz97_5, hfz97_6⟩ := blkF7 BK141.out
       have hnb98 := NB129_131.out
       have hnc98 := NB131_129.out
       obtain ⟨hcz99_0, hcz99_1, hcz99_2, hcz99_3, hcz99_4, hcz99_5, hcz99_6⟩ := blkC7 wc gb129 (.int .i64 a0_0) (.int .i64 a0_1) (.bool a0_2) (.int .i64 a0_3) (.int .i64 a0_4) (.string a0_5) (.slice A0_6 l0_6.length c0_6) BK129.out
       obtain ⟨hfz99_0, hfz99_1, hfz99_2, hfz99_3, hfz99_4, hfz99_5, hfz99_6⟩ := blkF7 BK129.out
       try go_wp2
       have n0_ : Aside0 (Kd.R Kd.string 9 ((wc.setCell ⟨gb141, 0, none⟩ (.int .i64 a1_0)).setCell ⟨gb141, 1, none⟩ (.int .i64 a1_1)) w.heap.size (fun _ => True) (.slice Ao19 t138.length co19) t138) := ⟨by (with_reducible repeat (first | apply Kd.R_alloc | apply Kd.R_drewN | apply Kd.R_drew)); exact Kd.R_mono (Kd.R_far (p := ⟨gb141, 1, none⟩) (Kd.R_far (p := ⟨gb141, 0, none⟩) (Kd.R_types HO_142006.out BK141.out (by decide)) (fun _ hk => hk.2) (.int .i64 a1_0)) (fun _ hk => hk.2) (.int .i64 a1_1)) (fun _ hk => trivial)⟩
       have n1_ : Aside0 (((wc.setCell ⟨gb141, 0, none⟩ (.int .i64 a1_0)).setCell ⟨gb141, 1, none⟩ (.int .i64 a1_1)).heap[gb129]? = some (.cells #[.int .i64 a0_0, .int .i64 a0_1, .bool a0_2, .int .i64 a0_3, .int .i64 a0_4, .string a0_5, .slice A0_6 l0_6.length c0_6] 27 (0, 0))) := ⟨by (with_reducible repeat (first | apply bN | apply bD | apply bA)); refine blk_far ?_ NB129_141.out _; (with_reducible repeat (first | apply bN | apply bD | apply bA)); refine blk_far ?_ NB129_141.out _; (with_reducible repeat (first | apply bN | apply bD | apply bA)); exact BK129.out⟩
       have n2_ : Aside0 (((wc.setCell ⟨gb141, 0, none⟩ (.int .i64 a1_0)).setCell ⟨gb141, 1, none⟩ (.int .i64 a1_1)).heap[gb130]? = some (.cells #[.int .i64 a1_0, .int .i64 a1_1] 24 (0, 0))) := ⟨by (with_reducible repeat (first | apply bN | apply bD | apply bA)); refine blk_far ?_ NB130_141.out _; (with_reducible repeat (first | apply bN | apply bD | apply bA)); refine blk_far ?_ NB130_141.out _; (with_reducible repeat (first | apply bN | apply bD | apply bA)); exact BK130.out⟩
       have n3_ : Aside0 (((wc.setCell ⟨gb141, 0, none⟩ (.int .i64 a1_0)).setCell ⟨gb141, 1, none⟩ (.int .i64 a1_1)).heap[gb131]? = some (.cells #[.int .i64 0, .int .i64 0, .bool false, .int .i64 0, .int .i64 0, .string (⟨#[]⟩ : ByteArray), .slice none 0 0] 27 (0, 0))) := ⟨by (with_reducible repeat (first | apply bN | apply bD | apply bA)); refine blk_far ?_ NB131_141.out _; (with_reducible repeat (first | apply bN | apply bD | apply bA)); refine blk_far ?_ NB131_141.out _; (with_reducible repeat (first | apply bN | apply bD | apply bA)); exact BK131.out⟩
       have n4_ : Aside0 (((wc.setCell ⟨gb141, 0, none⟩ (.int .i64 a1_0)).setCell ⟨gb141, 1, none⟩ (.int .i64 a1_1)).heap[gb141]? = some (.cells #[.int .i64 a1_0, .int .i64 a1_1, .bool t134, .int .i64 t135, .int .i64 t136, .string t137, .slice Ao19 t138.length co19] 27 (0, 0))) := ⟨by (with_reducible repeat (first | apply bN | apply bD | apply bA)); refine blk_put (cs := #[.int .i64 a1_0, .int .i64 t133, .bool t134, .int .i64 t135, .int .i64 t136, .string t137, .slice Ao19 t138.length co19]) ?_ 1 _ rfl; (with_reducible repeat (first | apply bN | apply bD | apply bA)); refine blk_put (cs := #[.int .i64 t132, .int .i64 t133, .bool t134, .int .i64 t135, .int .i64 t136, .string t137, .slice Ao19 t138.length co19]) ?_ 0 _ rfl; (with_reducible repeat (first | apply bN | apply bD | apply bA)); exact BK141.out⟩
       have n5_ : Aside0 (Below w.heap.size w ((wc.setCell ⟨gb141, 0, none⟩ (.int .i64 a1_0)).setCell ⟨gb141, 1, none⟩ (.int .i64 a1_1))) := ⟨by repeat (first | (with_reducible first | exact HB.out | apply below_alloc | apply pw_below_drewN | apply below_drew1 | refine below_set ?_ (Aside0.out ‹_›)) | exact HB.out)⟩
       (try clear HO_142006)
       (try clear BK129)
       (try clear BK130)
       (try clear BK131)
       (try clear BK141)
       (try clear HB)
       generalize ((wc.setCell ⟨gb141, 0, none⟩ (.int .i64 a1_0)).setCell ⟨gb141, 1, none⟩ (.int .i64 a1_1)) = w100 at n0_ n1_ n2_ n3_ n4_ n5_ ⊢
       have HO_142006 := n0_
       have BK129 := n1_
       have BK130 := n2_
       have BK131 := n3_
       have BK141 := n4_
       have HB := n5_
       clear n0_ n1_ n2_ n3_ n4_ n5_
       have n0_ := Aside0.mk (Kd.R_drew HO_142006.out)
       have n1_ := Aside0.mk (blk_drew BK129.out)
       have n2_ := Aside0.mk (blk_drew BK130.out)
       have n3_ := Aside0.mk (blk_drew BK131.out)
       have n4_ := Aside0.mk (blk_drew BK141.out)
       have n5_ := Aside0.mk (below_drew1 HB.out)
       clear HO_142006
       clear BK129
       clear BK130
       clear BK131
       clear BK141
       clear HB
       have HO_142006 := n0_
       have BK129 := n1_
       have BK130 := n2_
       have BK131 := n3_
       have BK141 := n4_
       have HB := n5_
       clear n0_ n1_ n2_ n3_ n4_ n5_
       refine start_ (n := 8) (S := fun w' => w'.cell? ⟨gb130, 0, none⟩ = some (.int .i64 a1_0) ∧ w'.cell? ⟨gb130, 1, none⟩ = some (.int .i64 a1_1)) (ds := []) #[false, false, false, false, false, false, false, false] (by kernel_rfl) rfl rfl ⟨(blk_cell BK130.out 0).trans rfl, (blk_cell BK130.out 1).trans rfl⟩ (fun hHeld => ?_); refine with_tabW accept_Accept.tab10 accept_Accept.bits10 (fun HT_ HW_ => ?_)
       generalize w100.drew = w101 at HO_142006 BK129 BK130 BK131 BK141 HB hHeld ⊢
       refine pure_ (i := 1) (N := some 50) (v := ?_) (a' := ?_) #[false, true, false, false, false, false, false, false] rfl rfl (any_of HT_.out (by kernel_rfl)) (fun _ _ _ h => h) (Or.inl ⟨by rfl, ?_⟩) ?_ ?_
       rotate_left
       ·intro w'
        go_simp
        with_reducible rfl
       rotate_left
       ·simp only [Act.put, List.setIfInBounds_toArray, List.set_cons_zero, List.set_cons_succ, i64_w, i32_w]
        rfl
       refine pure_ (i := 2) (N := some 51) (v := ?_) (a' := ?_) #[false, true, true, false, false, false, false, false] rfl rfl (any_of HT_.out (by kernel_rfl)) (fun _ _ _ h => h) (Or.inl ⟨by rfl, ?_⟩) ?_ ?_
       rotate_left
       ·intro w'
        go_simp
        with_reducible rfl
       rotate_left
       ·simp only [Act.put, List.setIfInBounds_toArray, List.set_cons_zero, List.set_cons_succ, i64_w, i32_w]
        rfl
       refine take_ (i := 0) (N := some 49) (v := ?_) (a' := ?_) #[true, true, true, false, false, false, false, false] rfl rfl (take_ofW HT_.out HW_.out (by kernel_rfl)) (fun _ _ _ h => h) (Or.inl ⟨by rfl, ?_⟩) hHeld ?_ ?_
       rotate_left
       ·rintro w' ⟨s0, s1⟩
        go_simp
        with_reducible rfl
       rotate_left
       ·simp only [Act.put, List.setIfInBounds_toArray, List.set_cons_zero, List.set_cons_succ, i64_w, i32_w]
        rfl
       refine one_ (i := 3) (N := none) #[true, true, true, true, false, false, false, false] rfl rfl (one_of HT_.out (by kernel_rfl)) (by decide) (fun K hK => ?_)
       have hs102 : w101.cell? ⟨gb141, 2, none⟩ = some (.bool t134) := (blk_cell BK141.out 2).trans rfl
       have hfs102 := blk_frozen BK141.out 2
       have hns102_0 := NB129_141.out
       have hns102_1 := NB130_141.out
       have hns102_2 := NB131_141.out
       have hms102_0 := NB141_129.out
       have hms102_1 := NB141_130.out
       have hms102_2 := NB141_131.out
       refine skip_ (w1 := ?_) (by rfl) rfl ?_ ?_
       rotate_left
       ·go_simp
        rfl
       refine hK.out _ _ ⟨((cell_far (p := ⟨gb141, _, none⟩) NB130_141.out _).trans (hHeld.1)), ((cell_far (p := ⟨gb141, _, none⟩) NB130_141.out _).trans (hHeld.2))⟩ (fun hHeld => ?_)
       clear hK K
       refine pure_ (i := 4) (N := some 52) (v := ?_) (a' := ?_) #[true, true, true, true, true, false, false, false] rfl rfl (any_of HT_.out (by kernel_rfl)) (fun _ _ _ h => h) (Or.inl ⟨by rfl, ?_⟩) ?_ ?_
       rotate_left
       ·intro w'
        go_simp
        with_reducible rfl
       rotate_left
       ·simp only [Act.put, List.setIfInBounds_toArray, List.set_cons_zero, List.set_cons_succ, i64_w, i32_w]
        rfl
       refine one_ (i := 5) (N := none) #[true, true, true, true, true, true, false, false] rfl rfl (one_of HT_.out (by kernel_rfl)) (by decide) (fun K hK => ?_)
       have hs103 : w101.cell? ⟨gb141, 3, none⟩ = some (.int .i64 t135) := (blk_cell BK141.out 3).trans rfl
       have hfs103 := blk_frozen BK141.out 3
       have hns103_0 := NB129_141.out
       have hns103_1 := NB130_141.out
       have hns103_2 := NB131_141.out
       have hms103_0 := NB141_129.out
       have hms103_1 := NB141_130.out
       have hms103_2 := NB141_131.out
       have hs104 : w101.cell? ⟨gb141, 4, none⟩ = some (.int .i64 t136) := (blk_cell BK141.out 4).trans rfl
       have hfs104 := blk_frozen BK141.out 4
       have hns104_0 := NB129_141.out
       have hns104_1 := NB130_141.out
       have hns104_2 := NB131_141.out
       have hms104_0 := NB141_129.out
       have hms104_1 := NB141_130.out
       have hms104_2 := NB141_131.out
       refine skip_ (w1 := ?_) (by rfl) rfl ?_ ?_
       rotate_left
       ·go_simp
        rfl
       refine hK.out _ _ ⟨((cell_far (p := ⟨gb141, _, none⟩) NB130_141.out _).trans (((cell_far (p := ⟨gb141, _, none⟩) NB130_141.out _).trans (hHeld.1)))), ((cell_far (p := ⟨gb141, _, none⟩) NB130_141.out _).trans (((cell_far (p := ⟨gb141, _, none⟩) NB130_141.out _).trans (hHeld.2))))⟩ (fun hHeld => ?_)
       clear hK K
       refine pure_ (i := 6) (N := some 53) (v := ?_) (a' := ?_) #[true, true, true, true, true, true, true, false] rfl rfl (any_of HT_.out (by kernel_rfl)) (fun _ _ _ h => h) (Or.inl ⟨by rfl, ?_⟩) ?_ ?_
       rotate_left
       ·intro w'
        go_simp
        with_reducible rfl
       rotate_left
       ·simp only [Act.put, List.setIfInBounds_toArray, List.set_cons_zero, List.set_cons_succ, i64_w, i32_w]
        rfl
       refine one_ (i := 7) (N := none) #[true, true, true, true, true, true, true, true] rfl rfl (one_of HT_.out (by kernel_rfl)) (by decide) (fun K hK => ?_)
       have hs105 : w101.cell? ⟨gb141, 5, none⟩ = some (.string t137) := (blk_cell BK141.out 5).trans rfl
       have hfs105 := blk_frozen BK141.out 5
       have hns105_0 := NB129_141.out
       have hns105_1 := NB130_141.out
       have hns105_2 := NB131_141.out
       have hms105_0 := NB141_129.out
       have hms105_1 := NB141_130.out
       have hms105_2 := NB141_131.out
       refine skip_ (w1 := ?_) (by rfl) rfl ?_ ?_
       rotate_left
       ·go_simp
        rfl
       refine hK.out _ _ ⟨((cell_far (p := ⟨gb141, _, none⟩) NB130_141.out _).trans (hHeld.1)), ((cell_far (p := ⟨gb141, _, none⟩) NB130_141.out _).trans (hHeld.2))⟩ (fun hHeld => ?_)
       clear hK K
       refine done_ (done_of HT_.out (by kernel_rfl)) ?_
       obtain ⟨hcz106_0, hcz106_1, hcz106_2, hcz106_3, hcz106_4, hcz106_5, hcz106_6⟩ := blkC7 w101 gb141 (.int .i64 a1_0) (.int .i64 a1_1) (.bool t134) (.int .i64 t135) (.int .i64 t136) (.string t137) (.slice Ao19 t138.length co19) BK141.out
       obtain ⟨hfz106_0, hfz106_1, hfz106_2, hfz106_3, hfz106_4, hfz106_5, hfz106_6⟩ := blkF7 BK141.out
       obtain ⟨hcz107_0, hcz107_1, hcz107_2, hcz107_3, hcz107_4, hcz107_5, hcz107_6⟩ := blkC7 w101 gb131 (.int .i64 0) (.int .i64 0) (.bool false) (.int .i64 0) (.int .i64 0) (.string (⟨#[]⟩ : ByteArray)) (.slice none 0 0) BK131.out
       obtain ⟨hfz107_0, hfz107_1, hfz107_2, hfz107_3, hfz107_4, hfz107_5, hfz107_6⟩ := blkF7 BK131.out
       try go_wp2
       refine bodyPost_ret (results_ct rfl _ _ gb131 27 #[.int .i64 a1_0, .int .i64 a1_1, .bool true, .int .i64 a1_0, .int .i64 a1_1, .string a3, .slice Ao19 t138.length co19] (0, 0) _ rfl (by (with_reducible repeat (first | apply bN | apply bD | apply bA)); refine blk_put (cs := #[.int .i64 a1_0, .int .i64 a1_1, .bool true, .int .i64 a1_0, .int .i64 a1_1, .string a3, .slice none 0 0]) ?_ 6 _ rfl; (with_reducible repeat (first | apply bN | apply bD | apply bA)); refine blk_put (cs := #[.int .i64 a1_0, .int .i64 a1_1, .bool true, .int .i64 a1_0, .int .i64 a1_1, .string (⟨#[]⟩ : ByteArray), .slice none 0 0]) ?_ 5 _ rfl; (with_reducible repeat (first | apply bN | apply bD | apply bA)); refine blk_put (cs := #[.int .i64 a1_0, .int .i64 a1_1, .bool true, .int .i64 a1_0, .int .i64 0, .string (⟨#[]⟩ : ByteArray), .slice none 0 0]) ?_ 4 _ rfl; (with_reducible repeat (first | apply bN | apply bD | apply bA)); refine blk_put (cs := #[.int .i64 a1_0, .int .i64 a1_1, .bool true, .int .i64 0, .int .i64 0, .string (⟨#[]⟩ : ByteArray), .slice none 0 0]) ?_ 3 _ rfl; (with_reducible repeat (first | apply bN | apply bD | apply bA)); refine blk_put (cs := #[.int .i64 a1_0, .int .i64 a1_1, .bool false, .int .i64 0, .int .i64 0, .string (⟨#[]⟩ : ByteArray), .slice none 0 0]) ?_ 2 _ rfl; (with_reducible repeat (first | apply bN | apply bD | apply bA)); refine blk_put (cs := #[.int .i64 a1_0, .int .i64 0, .bool false, .int .i64 0, .int .i64 0, .string (⟨#[]⟩ : ByteArray), .slice none 0 0]) ?_ 1 _ rfl; (with_reducible repeat (first | apply bN | apply bD | apply bA)); refine blk_put (cs := #[.int .i64 0, .int .i64 0, .bool false, .int .i64 0, .int .i64 0, .string (⟨#[]⟩ : ByteArray), .slice none 0 0]) ?_ 0 _ rfl; (with_reducible repeat (first | apply bN | apply bD | apply bA)); refine blk_far ?_ NB131_141.out _; (with_reducible repeat (first | apply bN | apply bD | apply bA)); refine blk_far ?_ NB131_141.out _; (with_reducible repeat (first | apply bN | apply bD | apply bA)); refine blk_far ?_ NB131_141.out _; (with_reducible repeat (first | apply bN | apply bD | apply bA)); refine blk_far ?_ NB131_141.out _; (with_reducible repeat (first | apply bN | apply bD | apply bA)); exact BK131.out) Try.underlying27 rfl (by kernel_rfl)) rfl ?_
       exact ⟨_, by first | rfl | (simp [errW_none, errW_some] <;> rfl) | (simp [*, errW_none, errW_some] <;> rfl), by (with_reducible repeat (first | apply Kd.R_alloc | apply Kd.R_drewN | apply Kd.R_drew)); exact Kd.R_mono (Kd.R_far (p := ⟨gb131, 6, none⟩) (Kd.R_far (p := ⟨gb131, 5, none⟩) (Kd.R_far (p := ⟨gb131, 4, none⟩) (Kd.R_far (p := ⟨gb131, 3, none⟩) (Kd.R_far (p := ⟨gb131, 2, none⟩) (Kd.R_far (p := ⟨gb131, 1, none⟩) (Kd.R_far (p := ⟨gb131, 0, none⟩) (Kd.R_far (p := ⟨gb141, 5, none⟩) (Kd.R_far (p := ⟨gb141, 4, none⟩) (Kd.R_far (p := ⟨gb141, 3, none⟩) (Kd.R_far (p := ⟨gb141, 2, none⟩) (Kd.R_types (Kd.R_types HO_142006.out BK141.out (by decide)) BK131.out (by decide)) (fun _ hk => hk.1.2) (.bool true)) (fun _ hk => hk.1.2) (.int .i64 a1_0)) (fun _ hk => hk.1.2) (.int .i64 a1_1)) (fun _ hk => hk.1.2) (.string a3)) (fun _ hk => hk.2) (.int .i64 a1_0)) (fun _ hk => hk.2) (.int .i64 a1_1)) (fun _ hk => hk.2) (.bool true)) (fun _ hk => hk.2) (.int .i64 a1_0)) (fun _ hk => hk.2) (.int .i64 a1_1)) (fun _ hk => hk.2) (.string a3)) (fun _ hk => hk.2) (.slice Ao19 t138.length co19)) (fun _ hk => trivial), by repeat (first | (with_reducible first | exact HB.out | apply below_alloc | apply pw_below_drewN | apply below_drew1 | refine below_set ?_ (Aside0.out ‹_›)) | exact HB.out)⟩

end Go.Proofs.Ytkbdicedckmdkaa.P
