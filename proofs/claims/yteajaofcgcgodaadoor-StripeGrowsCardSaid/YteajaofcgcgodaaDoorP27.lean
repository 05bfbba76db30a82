-- Printed by gprint.py, a program of this session, over the kit's print.py
import Derived.Test.YteajaofcgcgodaaDoorP0
import Derived.Test.YteajaofcgcgodaaDoorP2
import Derived.Test.YteajaofcgcgodaaDoorP24
import Derived.Test.YteajaofcgcgodaaDoorLength
import Derived.Test.YteajaofcgcgodaaDoorSizes
namespace Go.Proofs.YteajaofcgcgodaaDoor.P
open Go.RowKit Go.Proofs.YteajaofcgcgodaaDoorW.PrintWords Go.Proofs.YteajaofcgcgodaaDoorW.PrintLast Go.Proofs.YteajaofcgcgodaaDoorW.PrintMore
attribute [local go_sem] max2_int min2_int max_two min_two max_three min_three max_four min_four   -- for this text's walks alone
set_option linter.unusedVariables false
set_option linter.unusedSimpArgs false

/-! ### reeflaw28_StripeGrows: function 5 -/
mutual
def reeflaw28_StripeGrows.j0 : Nat → Int → Int → Int → Bool → Int → Int → Int → Option (Bool)
 | 0, _, _, _, _, _, _, _ => none
 | k + 1, x1, x2, x7, x44, x190000, x190001, x190002 => if x44 = true then (none) else (reeflaw28_StripeGrows.l0 k x1 x2 x7 0 0 x190000 x190001 x190002)
def reeflaw28_StripeGrows.l0 : Nat → Int → Int → Int → Int → Int → Int → Int → Int → Option (Bool)
 | 0, _, _, _, _, _, _, _, _ => none
 | k + 1, x1, x2, x7, x8, x9, x190000, x190001, x190002 => if x9 < x7 then ((stripe_Length.f x190000 x190001 x190002 x1 x9).bind fun t198 => (if t198 < 0 then (none) else ((stripe_Length.f x190000 x190001 x190002 x2 x9).bind fun t199 => (if t198 > t199 then (none) else (if t198 > x190002 then (none) else (reeflaw28_StripeGrows.l0 k x1 x2 x7 (wrap64 (x8 + t198)) (wrap64 (x9 + 1)) x190000 x190001 x190002)))))) else (if x8 ≥ x1 then (if (wrap64 (x190002 * x190001)) = 0 then (none) else (if (Int.tmod x1 (wrap64 (x190002 * x190001))) = 0 then (if x8 = x1 then ((stripe_Length.f x190000 x190001 x190002 x1 x7).bind fun t194 => (if t194 = 0 then ((reeflaw28_awake.f k).bind fun t195 => (some t195)) else (none))) else (none)) else ((stripe_Length.f x190000 x190001 x190002 x1 x7).bind fun t196 => (if t196 = 0 then ((reeflaw28_awake.f k).bind fun t197 => (some t197)) else (none))))) else (none))
end
def reeflaw28_StripeGrows.f (k : Nat) (a0_0 : Int) (a0_1 : Int) (a0_2 : Int) (a1 : Int) (a2 : Int) : Option (Bool) := (reefref28_Fit.f a0_0 a0_1 a0_2).bind fun t190 => (if t190 = true then ((stripe_Objects.f a0_0 a0_1 a0_2 (mn (wrap64 (Int.tmod (IntKind.u64.wrap (a1)) 4097)) (wrap64 (Int.tmod (IntKind.u64.wrap (a2)) 4097)))).bind fun t192 => ((stripe_Objects.f a0_0 a0_1 a0_2 (mx (wrap64 (Int.tmod (IntKind.u64.wrap (a1)) 4097)) (wrap64 (Int.tmod (IntKind.u64.wrap (a2)) 4097)))).bind fun t193 => (if t192 > t193 then (none) else (if t192 < 0 then (none) else (reeflaw28_StripeGrows.j0 k (mn (wrap64 (Int.tmod (IntKind.u64.wrap (a1)) 4097)) (wrap64 (Int.tmod (IntKind.u64.wrap (a2)) 4097))) (mx (wrap64 (Int.tmod (IntKind.u64.wrap (a1)) 4097)) (wrap64 (Int.tmod (IntKind.u64.wrap (a2)) 4097))) t192 (decide (t192 > 4096)) a0_0 a0_1 a0_2))))) else ((reeflaw28_awake.f k).bind fun t191 => (some t191)))
theorem reeflaw28_StripeGrows.mono_l : ∀ k, (∀ y0 y1 y2 y3 y4 y5 y6, LeO (reeflaw28_StripeGrows.j0 k y0 y1 y2 y3 y4 y5 y6) (reeflaw28_StripeGrows.j0 (k + 1) y0 y1 y2 y3 y4 y5 y6)) ∧ (∀ y0 y1 y2 y3 y4 y5 y6 y7, LeO (reeflaw28_StripeGrows.l0 k y0 y1 y2 y3 y4 y5 y6 y7) (reeflaw28_StripeGrows.l0 (k + 1) y0 y1 y2 y3 y4 y5 y6 y7))
 | 0 => ⟨fun _ _ _ _ _ _ _ r h => by simp [reeflaw28_StripeGrows.j0] at h, fun _ _ _ _ _ _ _ _ r h => by simp [reeflaw28_StripeGrows.l0] at h⟩
 | k + 1 => by
  obtain ⟨ih0, ih1⟩ := reeflaw28_StripeGrows.mono_l k
  refine ⟨?_, ?_⟩
  ·intro y0 y1 y2 y3 y4 y5 y6
   unfold reeflaw28_StripeGrows.j0
   repeat' first
   | (with_reducible exact ih0 _ _ _ _ _ _ _)
   | (with_reducible exact ih1 _ _ _ _ _ _ _ _)
   | (with_reducible exact reeflaw28_awake.mono _)
   | (with_reducible exact LeO.refl _)
   | (with_reducible exact LeO.none _)
   | (with_reducible refine LeO.ite ?_ ?_)
   | (with_reducible refine LeO.bind ?_ (fun _ => ?_))
   | exact ih0 _ _ _ _ _ _ _
   | exact ih1 _ _ _ _ _ _ _ _
   | exact reeflaw28_awake.mono _
   | exact LeO.none _
   | refine LeO.ite ?_ ?_
   | refine LeO.bind ?_ (fun _ => ?_)
  ·intro y0 y1 y2 y3 y4 y5 y6 y7
   unfold reeflaw28_StripeGrows.l0
   repeat' first
   | (with_reducible exact ih0 _ _ _ _ _ _ _)
   | (with_reducible exact ih1 _ _ _ _ _ _ _ _)
   | (with_reducible exact reeflaw28_awake.mono _)
   | (with_reducible exact LeO.refl _)
   | (with_reducible exact LeO.none _)
   | (with_reducible refine LeO.ite ?_ ?_)
   | (with_reducible refine LeO.bind ?_ (fun _ => ?_))
   | exact ih0 _ _ _ _ _ _ _
   | exact ih1 _ _ _ _ _ _ _ _
   | exact reeflaw28_awake.mono _
   | exact LeO.none _
   | refine LeO.ite ?_ ?_
   | refine LeO.bind ?_ (fun _ => ?_)
theorem reeflaw28_StripeGrows.mono : ∀ a0 a1 a2 a3 a4 k, LeO (reeflaw28_StripeGrows.f k a0 a1 a2 a3 a4) (reeflaw28_StripeGrows.f (k + 1) a0 a1 a2 a3 a4) := by
 intro a0 a1 a2 a3 a4 k
 obtain ⟨ih0, ih1⟩ := reeflaw28_StripeGrows.mono_l k
 unfold reeflaw28_StripeGrows.f
 repeat' first
   | (with_reducible exact ih0 _ _ _ _ _ _ _)
   | (with_reducible exact ih1 _ _ _ _ _ _ _ _)
   | (with_reducible exact reeflaw28_awake.mono _)
   | (with_reducible exact LeO.refl _)
   | (with_reducible exact LeO.none _)
   | (with_reducible refine LeO.ite ?_ ?_)
   | (with_reducible refine LeO.bind ?_ (fun _ => ?_))
   | exact ih0 _ _ _ _ _ _ _
   | exact ih1 _ _ _ _ _ _ _ _
   | exact reeflaw28_awake.mono _
   | exact LeO.none _
   | refine LeO.ite ?_ ?_
   | refine LeO.bind ?_ (fun _ => ?_)
set_option maxHeartbeats 8000000 in
set_option maxRecDepth 100000 in
theorem reeflaw28_StripeGrows.calls (k : Nat) (a0_0 : Int) (a0_1 : Int) (a0_2 : Int) (a1 : Int) (a2 : Int) (r : Bool) (w : World) (h : reeflaw28_StripeGrows.f k a0_0 a0_1 a0_2 a1 a2 = some r) :
  Calls Tryd.prog 5 #[.agg #[.int .i64 a0_0, .int .i64 a0_1, .int .i64 a0_2], .int .i64 a1, .int .i64 a2] w fun e w' => e = .returned (.bool r) ∧ Below w.heap.size w w' := by
 have hu23 := Tryd.underlying23
 have HB := Aside0.mk (Below.refl w.heap.size w)
 have H : ((reefref28_Fit.f a0_0 a0_1 a0_2).bind fun t190 => (if t190 = true then ((stripe_Objects.f a0_0 a0_1 a0_2 (mn (wrap64 (Int.tmod (IntKind.u64.wrap (a1)) 4097)) (wrap64 (Int.tmod (IntKind.u64.wrap (a2)) 4097)))).bind fun t192 => ((stripe_Objects.f a0_0 a0_1 a0_2 (mx (wrap64 (Int.tmod (IntKind.u64.wrap (a1)) 4097)) (wrap64 (Int.tmod (IntKind.u64.wrap (a2)) 4097)))).bind fun t193 => (if t192 > t193 then (none) else (if t192 < 0 then (none) else (reeflaw28_StripeGrows.j0 k (mn (wrap64 (Int.tmod (IntKind.u64.wrap (a1)) 4097)) (wrap64 (Int.tmod (IntKind.u64.wrap (a2)) 4097))) (mx (wrap64 (Int.tmod (IntKind.u64.wrap (a1)) 4097)) (wrap64 (Int.tmod (IntKind.u64.wrap (a2)) 4097))) t192 (decide (t192 > 4096)) a0_0 a0_1 a0_2))))) else ((reeflaw28_awake.f k).bind fun t191 => (some t191)))) = some r := h
 clear h
 replace H := Option.bind_eq_some_iff.mp H
 obtain ⟨t190, A40, H⟩ := H
 replace H : (if t190 = true then ((stripe_Objects.f a0_0 a0_1 a0_2 (mn (wrap64 (Int.tmod (IntKind.u64.wrap (a1)) 4097)) (wrap64 (Int.tmod (IntKind.u64.wrap (a2)) 4097)))).bind fun t192 => ((stripe_Objects.f a0_0 a0_1 a0_2 (mx (wrap64 (Int.tmod (IntKind.u64.wrap (a1)) 4097)) (wrap64 (Int.tmod (IntKind.u64.wrap (a2)) 4097)))).bind fun t193 => (if t192 > t193 then (none) else (if t192 < 0 then (none) else (reeflaw28_StripeGrows.j0 k (mn (wrap64 (Int.tmod (IntKind.u64.wrap (a1)) 4097)) (wrap64 (Int.tmod (IntKind.u64.wrap (a2)) 4097))) (mx (wrap64 (Int.tmod (IntKind.u64.wrap (a1)) 4097)) (wrap64 (Int.tmod (IntKind.u64.wrap (a2)) 4097))) t192 (decide (t192 > 4096)) a0_0 a0_1 a0_2))))) else ((reeflaw28_awake.f k).bind fun t191 => (some t191))) = some r := H
 have A4 := Aside0.mk A40
 clear A40
 by_cases c5 : t190 = true
 ·subst c5
  have H1 : ((stripe_Objects.f a0_0 a0_1 a0_2 (mn (wrap64 (Int.tmod (IntKind.u64.wrap (a1)) 4097)) (wrap64 (Int.tmod (IntKind.u64.wrap (a2)) 4097)))).bind fun t192 => ((stripe_Objects.f a0_0 a0_1 a0_2 (mx (wrap64 (Int.tmod (IntKind.u64.wrap (a1)) 4097)) (wrap64 (Int.tmod (IntKind.u64.wrap (a2)) 4097)))).bind fun t193 => (if t192 > t193 then (none) else (if t192 < 0 then (none) else (reeflaw28_StripeGrows.j0 k (mn (wrap64 (Int.tmod (IntKind.u64.wrap (a1)) 4097)) (wrap64 (Int.tmod (IntKind.u64.wrap (a2)) 4097))) (mx (wrap64 (Int.tmod (IntKind.u64.wrap (a1)) 4097)) (wrap64 (Int.tmod (IntKind.u64.wrap (a2)) 4097))) t192 (decide (t192 > 4096)) a0_0 a0_1 a0_2))))) = some r := by rw [if_pos rfl] at H; exact H
  clear H
  have H := H1
  clear H1
  obtain ⟨ji6, hji6⟩ : ∃ j_ : Int, (mn (wrap64 (Int.tmod (IntKind.u64.wrap (a1)) 4097)) (wrap64 (Int.tmod (IntKind.u64.wrap (a2)) 4097))) = j_ := ⟨_, rfl⟩
  replace H : ((stripe_Objects.f a0_0 a0_1 a0_2 (ji6)).bind fun t192 => ((stripe_Objects.f a0_0 a0_1 a0_2 (mx (wrap64 (Int.tmod (IntKind.u64.wrap (a1)) 4097)) (wrap64 (Int.tmod (IntKind.u64.wrap (a2)) 4097)))).bind fun t193 => (if t192 > t193 then (none) else (if t192 < 0 then (none) else (reeflaw28_StripeGrows.j0 k ji6 (mx (wrap64 (Int.tmod (IntKind.u64.wrap (a1)) 4097)) (wrap64 (Int.tmod (IntKind.u64.wrap (a2)) 4097))) t192 (decide (t192 > 4096)) a0_0 a0_1 a0_2))))) = some r := by first | (rw [hji6] at H; exact H) | (simp only [hji6] at H ⊢; exact H)
  (try rw [hji6] at A4)
  have hji6_ : (if (wrap64 (Int.tmod (IntKind.u64.wrap (a2)) 4097)) < (wrap64 (Int.tmod (IntKind.u64.wrap (a1)) 4097)) then (wrap64 (Int.tmod (IntKind.u64.wrap (a2)) 4097)) else (wrap64 (Int.tmod (IntKind.u64.wrap (a1)) 4097))) = ji6 := hji6
  obtain ⟨ji7, hji7⟩ : ∃ j_ : Int, (mx (wrap64 (Int.tmod (IntKind.u64.wrap (a1)) 4097)) (wrap64 (Int.tmod (IntKind.u64.wrap (a2)) 4097))) = j_ := ⟨_, rfl⟩
  replace H : ((stripe_Objects.f a0_0 a0_1 a0_2 (ji6)).bind fun t192 => ((stripe_Objects.f a0_0 a0_1 a0_2 (ji7)).bind fun t193 => (if t192 > t193 then (none) else (if t192 < 0 then (none) else (reeflaw28_StripeGrows.j0 k ji6 ji7 t192 (decide (t192 > 4096)) a0_0 a0_1 a0_2))))) = some r := by first | (rw [hji7] at H; exact H) | (simp only [hji7] at H ⊢; exact H)
  (try rw [hji7] at A4)
  have hji7_ : (if (wrap64 (Int.tmod (IntKind.u64.wrap (a1)) 4097)) < (wrap64 (Int.tmod (IntKind.u64.wrap (a2)) 4097)) then (wrap64 (Int.tmod (IntKind.u64.wrap (a2)) 4097)) else (wrap64 (Int.tmod (IntKind.u64.wrap (a1)) 4097))) = ji7 := hji7
  replace H := Option.bind_eq_some_iff.mp H
  obtain ⟨t192, A80, H⟩ := H
  replace H : ((stripe_Objects.f a0_0 a0_1 a0_2 (ji7)).bind fun t193 => (if t192 > t193 then (none) else (if t192 < 0 then (none) else (reeflaw28_StripeGrows.j0 k ji6 ji7 t192 (decide (t192 > 4096)) a0_0 a0_1 a0_2)))) = some r := H
  have A8 := Aside0.mk A80
  clear A80
  have HC9 := Aside0.mk H
  clear H
  go_enter Tryd.func5, Tryd.ntmps5
  go_upto_region 7 with (first | ((with_reducible refine gate_dst (N := 3) rfl ?_); refine box_event ?hg (N := 3) ?hd (cs := #[.int .i64 a0_0, .int .i64 a0_1, .int .i64 a0_2]) (t := 23) ?hr ?_; (case hd => rfl); (case hg => rfl); (case hr => first | (go_simp; done) | (go_simp; rfl)); intro gb189 hg w10 hbox hb; have n0_ := Aside0.mk (below_step (by repeat (first | (with_reducible first | exact HB.out | apply below_alloc | apply pw_below_drewN | apply below_drew1) | exact HB.out)) hb); have n1_ := Aside0.mk (hbox); have n2_ := Aside0.mk ((by rw [hg]; exact (below_size (by repeat (first | (with_reducible first | exact HB.out | apply below_alloc | apply pw_below_drewN | apply below_drew1) | exact HB.out))) : w.heap.size ≤ gb189)); have n3_ := n2_; clear HB; have HB := n0_; have BK189 := n1_; have GW189 := n2_; have GE189 := n3_; clear n0_ n1_ n2_ n3_; clear hb hbox hg; obtain ⟨hcz11_0, hcz11_1, hcz11_2⟩ := blkC3 w10 gb189 (.int .i64 a0_0) (.int .i64 a0_1) (.int .i64 a0_2) BK189.out; obtain ⟨hfz11_0, hfz11_1, hfz11_2⟩ := blkF3 BK189.out) | ((with_reducible refine gate_callee (f := 11) rfl ?_); refine goesL_ (some 12) rfl rfl Tryd.func11 (by kernel_rfl) rfl #[.agg #[.int .i64 a0_0, .int .i64 a0_1, .int .i64 a0_2]] rfl (by (try simp only [List.map_toArray, List.map_cons, List.map_nil]); first | done | rfl | (simp only [List.length_drop, List.length_take]; rfl)) ?_; (with_reducible refine (reefref28_Fit.calls a0_0 a0_1 a0_2 true _ A4.out).mono ?_); rintro e w12 ⟨rfl, hb⟩; refine ⟨_, rfl, ?_⟩; have n0_ := Aside0.mk (blk_below (g := gb189) (o := .cells #[.int .i64 a0_0, .int .i64 a0_1, .int .i64 a0_2] 23 (0, 0)) (by (with_reducible repeat (first | apply bN | apply bD | apply bA)); exact BK189.out) hb); have n1_ := Aside0.mk (below_step (by repeat (first | (with_reducible first | exact HB.out | apply below_alloc | apply pw_below_drewN | apply below_drew1 | refine below_set ?_ GE189.out) | exact HB.out)) hb); clear BK189; clear HB; have BK189 := n0_; have HB := n1_; clear n0_ n1_; (try clear hb); (try clear hb2); (try clear hk); (try clear hi); obtain ⟨hcz13_0, hcz13_1, hcz13_2⟩ := blkC3 w12 gb189 (.int .i64 a0_0) (.int .i64 a0_1) (.int .i64 a0_2) BK189.out; obtain ⟨hfz13_0, hfz13_1, hfz13_2⟩ := blkF3 BK189.out) | ((with_reducible refine gate_callee (f := 16) rfl ?_); refine goesL_ (some 31) rfl rfl Tryd.func16 (by kernel_rfl) rfl #[.agg #[.int .i64 a0_0, .int .i64 a0_1, .int .i64 a0_2], .int .i64 ji6] rfl (by (try simp only [List.map_toArray, List.map_cons, List.map_nil]); first | done | (simp only [hji6]; rfl) | rfl | (simp only [List.length_drop, List.length_take]; rfl)) ?_; (with_reducible refine (stripe_Objects.calls a0_0 a0_1 a0_2 ji6 t192 _ A8.out).mono ?_); rintro e w14 ⟨rfl, hb⟩; refine ⟨_, rfl, ?_⟩; have n0_ := Aside0.mk (blk_below (g := gb189) (o := .cells #[.int .i64 a0_0, .int .i64 a0_1, .int .i64 a0_2] 23 (0, 0)) (by (with_reducible repeat (first | apply bN | apply bD | apply bA)); exact BK189.out) hb); have n1_ := Aside0.mk (below_step (by repeat (first | (with_reducible first | exact HB.out | apply below_alloc | apply pw_below_drewN | apply below_drew1 | refine below_set ?_ GE189.out) | exact HB.out)) hb); clear BK189; clear HB; have BK189 := n0_; have HB := n1_; clear n0_ n1_; (try clear hb); (try clear hb2); (try clear hk); (try clear hi)))
  (try simp only [Act.put, List.setIfInBounds_toArray, List.set_cons_zero, List.set_cons_succ])
  go_cut [44] (fun v44 wc => ∃ (kq : Nat) (x44_8 : Bool), v44 = .bool x44_8 ∧ Aside0 (reeflaw28_StripeGrows.j0 kq ji6 ji7 t192 x44_8 a0_0 a0_1 a0_2 = some r) ∧ Aside0 (kq ≤ k) ∧ Aside0 (wc.heap[gb189]? = some (.cells #[.int .i64 a0_0, .int .i64 a0_1, .int .i64 a0_2] 23 (0, 0))) ∧ Aside0 (Below w.heap.size w wc))
  case first =>
   have H := HC9.out
   clear HC9
   replace H := Option.bind_eq_some_iff.mp H
   obtain ⟨t193, A150, H⟩ := H
   replace H : (if t192 > t193 then (none) else (if t192 < 0 then (none) else (reeflaw28_StripeGrows.j0 k ji6 ji7 t192 (decide (t192 > 4096)) a0_0 a0_1 a0_2))) = some r := H
   have A15 := Aside0.mk A150
   clear A150
   by_cases c16 : t192 > t193
   ·rw [if_pos c16] at H
    exact absurd H (by simp)
   ·rw [if_neg c16] at H
    have c16b0 : decide (t193 < t192) = false := decide_eq_false c16
    clear c16
    (first | rw [c16b0] | (simp only [i64_w, i32_w]; rw [c16b0]) | skip)
    by_cases c17 : t192 < 0
    ·rw [if_pos c17] at H
     exact absurd H (by simp)
    ·rw [if_neg c17] at H
     have c17b0 : decide (t192 < 0) = false := decide_eq_false c17
     clear c17
     have H' := Aside0.mk H
     clear H
     obtain ⟨hcz18_0, hcz18_1, hcz18_2⟩ := blkC3 w14 gb189 (.int .i64 a0_0) (.int .i64 a0_1) (.int .i64 a0_2) BK189.out
     obtain ⟨hfz18_0, hfz18_1, hfz18_2⟩ := blkF3 BK189.out
     go_wp2_with (first | ((with_reducible refine gate_callee (f := 16) rfl ?_); refine goesL_ (some 35) rfl rfl Tryd.func16 (by kernel_rfl) rfl #[.agg #[.int .i64 a0_0, .int .i64 a0_1, .int .i64 a0_2], .int .i64 ji7] rfl (by (try simp only [List.map_toArray, List.map_cons, List.map_nil]); first | done | (simp only [hji7]; rfl) | rfl | (simp only [List.length_drop, List.length_take]; rfl)) ?_; (with_reducible refine (stripe_Objects.calls a0_0 a0_1 a0_2 ji7 t193 _ A15.out).mono ?_); rintro e w19 ⟨rfl, hb⟩; refine ⟨_, rfl, ?_⟩; have n0_ := Aside0.mk (blk_below (g := gb189) (o := .cells #[.int .i64 a0_0, .int .i64 a0_1, .int .i64 a0_2] 23 (0, 0)) (by (with_reducible repeat (first | apply bN | apply bD | apply bA)); exact BK189.out) hb); have n1_ := Aside0.mk (below_step (by repeat (first | (with_reducible first | exact HB.out | apply below_alloc | apply pw_below_drewN | apply below_drew1 | refine below_set ?_ GE189.out) | exact HB.out)) hb); clear BK189; clear HB; have BK189 := n0_; have HB := n1_; clear n0_ n1_; (try clear hb); (try clear hb2); (try clear hk); (try clear hi)))
     go_meet
     case rel => exact ⟨_, (decide (t192 > 4096)), (by first | rfl | (simp; done) | (simp [*]; done)), H', ⟨by first | omega | exact Nat.le_refl _⟩, ⟨by (with_reducible repeat (first | apply bN | apply bD | apply bA)); exact BK189.out⟩, ⟨by repeat (first | (with_reducible first | exact HB.out | apply below_alloc | apply pw_below_drewN | apply below_drew1 | refine below_set ?_ GE189.out) | exact HB.out)⟩⟩
  case rest =>
   clear HC9
   try clear c1
   try clear p2
   try clear c5
   try clear p6
   try clear c11
   try clear c16
   try clear c16b0
   try clear c17
   try clear c17b0
   try clear hcz11_0 hcz11_1 hcz11_2
   try clear hcz13_0 hcz13_1 hcz13_2
   try clear hcz18_0 hcz18_1 hcz18_2
   try clear hfz11_0 hfz11_1 hfz11_2
   try clear hfz13_0 hfz13_1 hfz13_2
   try clear hfz18_0 hfz18_1 hfz18_2
   obtain ⟨kq, x44_8, rfl, HA, HJ8, BK189, HB⟩ := hcut
   cases kq with
   | zero => exact absurd HA.out (by simp [reeflaw28_StripeGrows.j0])
   | succ kj8 =>
    have H := HA.out
    clear HA
    simp only [reeflaw28_StripeGrows.j0] at H
    by_cases c20 : x44_8 = true
    ·subst c20
     have H1 : (none) = some r := by rw [if_pos rfl] at H; exact H
     clear H
     have H := H1
     clear H1
     exact absurd H (by simp)
    ·replace c20 := Bool.eq_false_iff.mpr c20
     subst c20
     have H1 : (reeflaw28_StripeGrows.l0 kj8 ji6 ji7 t192 0 0 a0_0 a0_1 a0_2) = some r := by rw [if_neg (show ¬ (false = true) by decide)] at H; exact H
     clear H
     have H := H1
     clear H1
     have H' := Aside0.mk H
     clear H
     go_wp2
     go_loopg [8, 9] kj8 (fun kq v8 v9 w' => ∃ (x8_2 : Int) (x9_2 : Int), v8 = .int .i64 x8_2 ∧ v9 = .int .i64 x9_2 ∧ Aside0 (reeflaw28_StripeGrows.l0 kq ji6 ji7 t192 x8_2 x9_2 a0_0 a0_1 a0_2 = some r) ∧ Aside0 (kq ≤ kj8) ∧ Aside0 (w'.heap[gb189]? = some (.cells #[.int .i64 a0_0, .int .i64 a0_1, .int .i64 a0_2] 23 (0, 0))) ∧ Aside0 (Below w.heap.size w w'))
     case atStart => exact ⟨(0), (0), (by first | rfl | (simp; done) | (simp [*]; done)), (by first | rfl | (simp; done) | (simp [*]; done)), H', ⟨Nat.le_refl _⟩, ⟨by (with_reducible repeat (first | apply bN | apply bD | apply bA)); exact BK189.out⟩, ⟨by repeat (first | (with_reducible first | exact HB.out | apply below_alloc | apply pw_below_drewN | apply below_drew1 | refine below_set ?_ GE189.out) | exact HB.out)⟩⟩
     case round =>
      clear H'
      try clear c1
      try clear c2
      try clear p2
      try clear c5
      try clear p6
      try clear c11
      try clear c16
      try clear c16b0
      try clear c17
      try clear c17b0
      try clear c20
      try clear hcz11_0 hcz11_1 hcz11_2
      try clear hcz13_0 hcz13_1 hcz13_2
      try clear hcz18_0 hcz18_1 hcz18_2
      try clear hfz11_0 hfz11_1 hfz11_2
      try clear hfz13_0 hfz13_1 hfz13_2
      try clear hfz18_0 hfz18_1 hfz18_2
      try clear p2
      try clear p6
      obtain ⟨x8_2, x9_2, rfl, rfl, HA, HK2, BK189, HB⟩ := hrel
      cases gk with
      | zero => exact absurd HA.out (by simp [reeflaw28_StripeGrows.l0])
      | succ k2 =>
       have H := HA.out
       clear HA
       simp only [reeflaw28_StripeGrows.l0] at H
       by_cases c21 : x9_2 < t192
       ·rw [if_pos c21] at H
        have c21b0 : decide (x9_2 < t192) = true := decide_eq_true c21
        clear c21
        replace H := Option.bind_eq_some_iff.mp H
        obtain ⟨t198, A220, H⟩ := H
        replace H : (if t198 < 0 then (none) else ((stripe_Length.f a0_0 a0_1 a0_2 ji7 x9_2).bind fun t199 => (if t198 > t199 then (none) else (if t198 > a0_2 then (none) else (reeflaw28_StripeGrows.l0 k2 ji6 ji7 t192 (wrap64 (x8_2 + t198)) (wrap64 (x9_2 + 1)) a0_0 a0_1 a0_2))))) = some r := H
        have A22 := Aside0.mk A220
        clear A220
        by_cases c23 : t198 < 0
        ·rw [if_pos c23] at H
         exact absurd H (by simp)
        ·rw [if_neg c23] at H
         have c23b0 : decide (t198 < 0) = false := decide_eq_false c23
         clear c23
         replace H := Option.bind_eq_some_iff.mp H
         obtain ⟨t199, A240, H⟩ := H
         replace H : (if t198 > t199 then (none) else (if t198 > a0_2 then (none) else (reeflaw28_StripeGrows.l0 k2 ji6 ji7 t192 (wrap64 (x8_2 + t198)) (wrap64 (x9_2 + 1)) a0_0 a0_1 a0_2))) = some r := H
         have A24 := Aside0.mk A240
         clear A240
         by_cases c25 : t198 > t199
         ·rw [if_pos c25] at H
          exact absurd H (by simp)
         ·rw [if_neg c25] at H
          have c25b0 : decide (t199 < t198) = false := decide_eq_false c25
          clear c25
          by_cases c26 : t198 > a0_2
          ·rw [if_pos c26] at H
           exact absurd H (by simp)
          ·rw [if_neg c26] at H
           have c26b0 : decide (a0_2 < t198) = false := decide_eq_false c26
           clear c26
           have H' := Aside0.mk H
           clear H
           obtain ⟨hcz27_0, hcz27_1, hcz27_2⟩ := blkC3 wr gb189 (.int .i64 a0_0) (.int .i64 a0_1) (.int .i64 a0_2) BK189.out
           obtain ⟨hfz27_0, hfz27_1, hfz27_2⟩ := blkF3 BK189.out
           go_wp2_with (first | ((with_reducible refine gate_callee (f := 18) rfl ?_); refine goesL_ (some 53) rfl rfl Tryd.func18 (by kernel_rfl) rfl #[.agg #[.int .i64 a0_0, .int .i64 a0_1, .int .i64 a0_2], .int .i64 ji6, .int .i64 x9_2] rfl (by (try simp only [List.map_toArray, List.map_cons, List.map_nil]); first | done | (simp only [hji6]; rfl) | rfl | (simp only [List.length_drop, List.length_take]; rfl)) ?_; (with_reducible refine (stripe_Length.calls a0_0 a0_1 a0_2 ji6 x9_2 t198 _ A22.out).mono ?_); rintro e w28 ⟨rfl, hb⟩; refine ⟨_, rfl, ?_⟩; have n0_ := Aside0.mk (blk_below (g := gb189) (o := .cells #[.int .i64 a0_0, .int .i64 a0_1, .int .i64 a0_2] 23 (0, 0)) (by (with_reducible repeat (first | apply bN | apply bD | apply bA)); exact BK189.out) hb); have n1_ := Aside0.mk (below_step (by repeat (first | (with_reducible first | exact HB.out | apply below_alloc | apply pw_below_drewN | apply below_drew1 | refine below_set ?_ GE189.out) | exact HB.out)) hb); clear BK189; clear HB; have BK189 := n0_; have HB := n1_; clear n0_ n1_; (try clear hb); (try clear hb2); (try clear hk); (try clear hi); obtain ⟨hcz29_0, hcz29_1, hcz29_2⟩ := blkC3 w28 gb189 (.int .i64 a0_0) (.int .i64 a0_1) (.int .i64 a0_2) BK189.out; obtain ⟨hfz29_0, hfz29_1, hfz29_2⟩ := blkF3 BK189.out) | (go_at_call 18; (with_reducible refine (stripe_Length.calls a0_0 a0_1 a0_2 ji7 x9_2 t199 _ A24.out).mono ?_); rintro e w30 ⟨rfl, hb⟩; have n0_ := Aside0.mk (blk_below (g := gb189) (o := .cells #[.int .i64 a0_0, .int .i64 a0_1, .int .i64 a0_2] 23 (0, 0)) (by (with_reducible repeat (first | apply bN | apply bD | apply bA)); exact BK189.out) hb); have n1_ := Aside0.mk (below_step (by repeat (first | (with_reducible first | exact HB.out | apply below_alloc | apply pw_below_drewN | apply below_drew1 | refine below_set ?_ GE189.out) | exact HB.out)) hb); clear BK189; clear HB; have BK189 := n0_; have HB := n1_; clear n0_ n1_; (try clear hb); (try clear hb2); (try clear hk); (try clear hi); obtain ⟨hcz31_0, hcz31_1, hcz31_2⟩ := blkC3 w30 gb189 (.int .i64 a0_0) (.int .i64 a0_1) (.int .i64 a0_2) BK189.out; obtain ⟨hfz31_0, hfz31_1, hfz31_2⟩ := blkF3 BK189.out))
           go_roundg k2
           case measure => have := HJ8.out; have := HK2.out; omega
           case rel => exact ⟨(wrap64 (x8_2 + t198)), (wrap64 (x9_2 + 1)), (by first | rfl | (simp; done) | (simp [*]; done)), (by first | rfl | (simp; done) | (simp [*]; done)), H', ⟨by have := HJ8.out; have := HK2.out; omega⟩, ⟨by (with_reducible repeat (first | apply bN | apply bD | apply bA)); exact BK189.out⟩, ⟨by repeat (first | (with_reducible first | exact HB.out | apply below_alloc | apply pw_below_drewN | apply below_drew1 | refine below_set ?_ GE189.out) | exact HB.out)⟩⟩
       ·rw [if_neg c21] at H
        have c21b0 : decide (x9_2 < t192) = false := decide_eq_false c21
        clear c21
        by_cases c32 : x8_2 ≥ ji6
        ·rw [if_pos c32] at H
         have c32b0 : decide (ji6 ≤ x8_2) = true := decide_eq_true c32
         clear c32
         by_cases c33 : (wrap64 (a0_2 * a0_1)) = 0
         ·rw [if_pos c33] at H
          exact absurd H (by simp)
         ·rw [if_neg c33] at H
          have c33b0 : ((wrap64 (a0_2 * a0_1)) == 0) = false := beq_eq_false_iff_ne.mpr c33
          have c33b1 : ((wrap64 (a0_2 * a0_1)) != 0) = true := bne_iff_ne.mpr c33
          by_cases c34 : (Int.tmod ji6 (wrap64 (a0_2 * a0_1))) = 0
          ·rw [if_pos c34] at H
           have c34b0 : ((Int.tmod ji6 (wrap64 (a0_2 * a0_1))) == 0) = true := beq_iff_eq.mpr c34
           have c34b1 : ((Int.tmod ji6 (wrap64 (a0_2 * a0_1))) != 0) = false := bne_eq_false_iff_eq.mpr c34
           clear c34
           by_cases c35 : x8_2 = ji6
           ·rw [if_pos c35] at H
            have c35b0 : (x8_2 == ji6) = true := beq_iff_eq.mpr c35
            have c35b1 : (x8_2 != ji6) = false := bne_eq_false_iff_eq.mpr c35
            clear c35
            replace H := Option.bind_eq_some_iff.mp H
            obtain ⟨t194, A360, H⟩ := H
            replace H : (if t194 = 0 then ((reeflaw28_awake.f k2).bind fun t195 => (some t195)) else (none)) = some r := H
            have A36 := Aside0.mk A360
            clear A360
            by_cases c37 : t194 = 0
            ·rw [if_pos c37] at H
             have c37b0 : (t194 == 0) = true := beq_iff_eq.mpr c37
             have c37b1 : (t194 != 0) = false := bne_eq_false_iff_eq.mpr c37
             clear c37
             replace H := Option.bind_eq_some_iff.mp H
             obtain ⟨t195, A380, H⟩ := H
             replace H : (some t195) = some r := H
             have A38 := Aside0.mk A380
             clear A380
             obtain rfl := Option.some.inj H
             obtain ⟨hcz39_0, hcz39_1, hcz39_2⟩ := blkC3 wr gb189 (.int .i64 a0_0) (.int .i64 a0_1) (.int .i64 a0_2) BK189.out
             obtain ⟨hfz39_0, hfz39_1, hfz39_2⟩ := blkF3 BK189.out
             go_wp2_with (first | (go_at_call 18; (with_reducible refine (stripe_Length.calls a0_0 a0_1 a0_2 ji6 t192 t194 _ A36.out).mono ?_); rintro e w40 ⟨rfl, hb⟩; have n0_ := Aside0.mk (blk_below (g := gb189) (o := .cells #[.int .i64 a0_0, .int .i64 a0_1, .int .i64 a0_2] 23 (0, 0)) (by (with_reducible repeat (first | apply bN | apply bD | apply bA)); exact BK189.out) hb); have n1_ := Aside0.mk (below_step (by repeat (first | (with_reducible first | exact HB.out | apply below_alloc | apply pw_below_drewN | apply below_drew1 | refine below_set ?_ GE189.out) | exact HB.out)) hb); clear BK189; clear HB; have BK189 := n0_; have HB := n1_; clear n0_ n1_; (try clear hb); (try clear hb2); (try clear hk); (try clear hi)) | (go_at_call 12; (with_reducible refine (reeflaw28_awake.calls k2  t195 _ A38.out).mono ?_); rintro e w41 ⟨rfl, hb⟩; have n0_ := Aside0.mk (blk_below (g := gb189) (o := .cells #[.int .i64 a0_0, .int .i64 a0_1, .int .i64 a0_2] 23 (0, 0)) (by (with_reducible repeat (first | apply bN | apply bD | apply bA)); exact BK189.out) hb); have n1_ := Aside0.mk (below_step (by repeat (first | (with_reducible first | exact HB.out | apply below_alloc | apply pw_below_drewN | apply below_drew1 | refine below_set ?_ GE189.out) | exact HB.out)) hb); clear BK189; clear HB; have BK189 := n0_; have HB := n1_; clear n0_ n1_; (try clear hb); (try clear hb2); (try clear hk); (try clear hi)))
             go_ret
             exact ⟨by first | rfl | (simp [errW_none, errW_some] <;> rfl) | (simp only [← hji6, ← hji7]; first | rfl | (simp [errW_none, errW_some] <;> rfl)) | (simp [*, errW_none, errW_some] <;> rfl), by repeat (first | (with_reducible first | exact HB.out | apply below_alloc | apply pw_below_drewN | apply below_drew1 | refine below_set ?_ GE189.out) | exact HB.out)⟩
            ·rw [if_neg c37] at H
             exact absurd H (by simp)
           ·rw [if_neg c35] at H
            exact absurd H (by simp)
          ·rw [if_neg c34] at H
           have c34b0 : ((Int.tmod ji6 (wrap64 (a0_2 * a0_1))) == 0) = false := beq_eq_false_iff_ne.mpr c34
           have c34b1 : ((Int.tmod ji6 (wrap64 (a0_2 * a0_1))) != 0) = true := bne_iff_ne.mpr c34
           replace H := Option.bind_eq_some_iff.mp H
           obtain ⟨t196, A420, H⟩ := H
           replace H : (if t196 = 0 then ((reeflaw28_awake.f k2).bind fun t197 => (some t197)) else (none)) = some r := H
           have A42 := Aside0.mk A420
           clear A420
           by_cases c43 : t196 = 0
           ·rw [if_pos c43] at H
            have c43b0 : (t196 == 0) = true := beq_iff_eq.mpr c43
            have c43b1 : (t196 != 0) = false := bne_eq_false_iff_eq.mpr c43
            clear c43
            replace H := Option.bind_eq_some_iff.mp H
            obtain ⟨t197, A440, H⟩ := H
            replace H : (some t197) = some r := H
            have A44 := Aside0.mk A440
            clear A440
            obtain rfl := Option.some.inj H
            obtain ⟨hcz45_0, hcz45_1, hcz45_2⟩ := blkC3 wr gb189 (.int .i64 a0_0) (.int .i64 a0_1) (.int .i64 a0_2) BK189.out
            obtain ⟨hfz45_0, hfz45_1, hfz45_2⟩ := blkF3 BK189.out
            go_wp2_with (first | (go_at_call 18; (with_reducible refine (stripe_Length.calls a0_0 a0_1 a0_2 ji6 t192 t196 _ A42.out).mono ?_); rintro e w46 ⟨rfl, hb⟩; have n0_ := Aside0.mk (blk_below (g := gb189) (o := .cells #[.int .i64 a0_0, .int .i64 a0_1, .int .i64 a0_2] 23 (0, 0)) (by (with_reducible repeat (first | apply bN | apply bD | apply bA)); exact BK189.out) hb); have n1_ := Aside0.mk (below_step (by repeat (first | (with_reducible first | exact HB.out | apply below_alloc | apply pw_below_drewN | apply below_drew1 | refine below_set ?_ GE189.out) | exact HB.out)) hb); clear BK189; clear HB; have BK189 := n0_; have HB := n1_; clear n0_ n1_; (try clear hb); (try clear hb2); (try clear hk); (try clear hi)) | (go_at_call 12; (with_reducible refine (reeflaw28_awake.calls k2  t197 _ A44.out).mono ?_); rintro e w47 ⟨rfl, hb⟩; have n0_ := Aside0.mk (blk_below (g := gb189) (o := .cells #[.int .i64 a0_0, .int .i64 a0_1, .int .i64 a0_2] 23 (0, 0)) (by (with_reducible repeat (first | apply bN | apply bD | apply bA)); exact BK189.out) hb); have n1_ := Aside0.mk (below_step (by repeat (first | (with_reducible first | exact HB.out | apply below_alloc | apply pw_below_drewN | apply below_drew1 | refine below_set ?_ GE189.out) | exact HB.out)) hb); clear BK189; clear HB; have BK189 := n0_; have HB := n1_; clear n0_ n1_; (try clear hb); (try clear hb2); (try clear hk); (try clear hi)))
            go_ret
            exact ⟨by first | rfl | (simp [errW_none, errW_some] <;> rfl) | (simp only [← hji6, ← hji7]; first | rfl | (simp [errW_none, errW_some] <;> rfl)) | (simp [*, errW_none, errW_some] <;> rfl), by repeat (first | (with_reducible first | exact HB.out | apply below_alloc | apply pw_below_drewN | apply below_drew1 | refine below_set ?_ GE189.out) | exact HB.out)⟩
           ·rw [if_neg c43] at H
            exact absurd H (by simp)
        ·rw [if_neg c32] at H
         exact absurd H (by simp)
 ·replace c5 := Bool.eq_false_iff.mpr c5
  subst c5
  have H1 : ((reeflaw28_awake.f k).bind fun t191 => (some t191)) = some r := by rw [if_neg (show ¬ (false = true) by decide)] at H; exact H
  clear H
  have H := H1
  clear H1
  replace H := Option.bind_eq_some_iff.mp H
  obtain ⟨t191, A480, H⟩ := H
  replace H : (some t191) = some r := H
  have A48 := Aside0.mk A480
  clear A480
  obtain rfl := Option.some.inj H
  go_enter Tryd.func5, Tryd.ntmps5
  go_wp2_with (first | ((with_reducible refine gate_dst (N := 3) rfl ?_); refine box_event ?hg (N := 3) ?hd (cs := #[.int .i64 a0_0, .int .i64 a0_1, .int .i64 a0_2]) (t := 23) ?hr ?_; (case hd => rfl); (case hg => rfl); (case hr => first | (go_simp; done) | (go_simp; rfl)); intro gb189 hg w49 hbox hb; have n0_ := Aside0.mk (below_step (by repeat (first | (with_reducible first | exact HB.out | apply below_alloc | apply pw_below_drewN | apply below_drew1) | exact HB.out)) hb); have n1_ := Aside0.mk (hbox); have n2_ := Aside0.mk ((by rw [hg]; exact (below_size (by repeat (first | (with_reducible first | exact HB.out | apply below_alloc | apply pw_below_drewN | apply below_drew1) | exact HB.out))) : w.heap.size ≤ gb189)); have n3_ := n2_; clear HB; have HB := n0_; have BK189 := n1_; have GW189 := n2_; have GE189 := n3_; clear n0_ n1_ n2_ n3_; clear hb hbox hg; obtain ⟨hcz50_0, hcz50_1, hcz50_2⟩ := blkC3 w49 gb189 (.int .i64 a0_0) (.int .i64 a0_1) (.int .i64 a0_2) BK189.out; obtain ⟨hfz50_0, hfz50_1, hfz50_2⟩ := blkF3 BK189.out) | ((with_reducible refine gate_callee (f := 11) rfl ?_); refine goesL_ (some 12) rfl rfl Tryd.func11 (by kernel_rfl) rfl #[.agg #[.int .i64 a0_0, .int .i64 a0_1, .int .i64 a0_2]] rfl (by (try simp only [List.map_toArray, List.map_cons, List.map_nil]); first | done | rfl | (simp only [List.length_drop, List.length_take]; rfl)) ?_; (with_reducible refine (reefref28_Fit.calls a0_0 a0_1 a0_2 false _ A4.out).mono ?_); rintro e w51 ⟨rfl, hb⟩; refine ⟨_, rfl, ?_⟩; have n0_ := Aside0.mk (blk_below (g := gb189) (o := .cells #[.int .i64 a0_0, .int .i64 a0_1, .int .i64 a0_2] 23 (0, 0)) (by (with_reducible repeat (first | apply bN | apply bD | apply bA)); exact BK189.out) hb); have n1_ := Aside0.mk (below_step (by repeat (first | (with_reducible first | exact HB.out | apply below_alloc | apply pw_below_drewN | apply below_drew1 | refine below_set ?_ GE189.out) | exact HB.out)) hb); clear BK189; clear HB; have BK189 := n0_; have HB := n1_; clear n0_ n1_; (try clear hb); (try clear hb2); (try clear hk); (try clear hi)) | ((with_reducible refine gate_callee (f := 12) rfl ?_); refine goesL_ (some 14) rfl rfl Tryd.func12 (by kernel_rfl) rfl #[] rfl (by (try simp only [List.map_toArray, List.map_cons, List.map_nil]); first | done | rfl | (simp only [List.length_drop, List.length_take]; rfl)) ?_; (with_reducible refine (reeflaw28_awake.calls k  t191 _ A48.out).mono ?_); rintro e w52 ⟨rfl, hb⟩; refine ⟨_, rfl, ?_⟩; have n0_ := Aside0.mk (blk_below (g := gb189) (o := .cells #[.int .i64 a0_0, .int .i64 a0_1, .int .i64 a0_2] 23 (0, 0)) (by (with_reducible repeat (first | apply bN | apply bD | apply bA)); exact BK189.out) hb); have n1_ := Aside0.mk (below_step (by repeat (first | (with_reducible first | exact HB.out | apply below_alloc | apply pw_below_drewN | apply below_drew1 | refine below_set ?_ GE189.out) | exact HB.out)) hb); clear BK189; clear HB; have BK189 := n0_; have HB := n1_; clear n0_ n1_; (try clear hb); (try clear hb2); (try clear hk); (try clear hi)))
  go_ret
  exact ⟨by first | rfl | (simp [errW_none, errW_some] <;> rfl) | (simp [*, errW_none, errW_some] <;> rfl), by repeat (first | (with_reducible first | exact HB.out | apply below_alloc | apply pw_below_drewN | apply below_drew1 | refine below_set ?_ GE189.out) | exact HB.out)⟩

end Go.Proofs.YteajaofcgcgodaaDoor.P
