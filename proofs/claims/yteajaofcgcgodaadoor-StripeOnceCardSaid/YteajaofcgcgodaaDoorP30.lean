-- Printed by gprint.py, a program of this session, over the kit's print.py
import Derived.Test.YteajaofcgcgodaaDoorP0
import Derived.Test.YteajaofcgcgodaaDoorP2
import Derived.Test.YteajaofcgcgodaaDoorP4
import Derived.Test.YteajaofcgcgodaaDoorP12
import Derived.Test.YteajaofcgcgodaaDoorP25
namespace Go.Proofs.YteajaofcgcgodaaDoor.P
open Go.RowKit Go.Proofs.YteajaofcgcgodaaDoorW.PrintWords Go.Proofs.YteajaofcgcgodaaDoorW.PrintLast Go.Proofs.YteajaofcgcgodaaDoorW.PrintMore
attribute [local go_sem] max2_int min2_int max_two min_two max_three min_three max_four min_four   -- for this text's walks alone
set_option linter.unusedVariables false
set_option linter.unusedSimpArgs false

/-! ### reeflaw28_StripeOnce: function 7 -/
def reeflaw28_StripeOnce.f (k : Nat) (a0_0 : Int) (a0_1 : Int) (a0_2 : Int) (a1 : Int) (a2 : Int) : Option (Bool) := (reefref28_Fit.f a0_0 a0_1 a0_2).bind fun t219 => (if t219 = true then ((stripe_Place.f a0_0 a0_1 a0_2 (wrap64 (Int.tmod (IntKind.u64.wrap (a1)) 4096))).bind fun bt221 => ((stripe_Place.f a0_0 a0_1 a0_2 (wrap64 (Int.tmod (IntKind.u64.wrap (a2)) 4096))).bind fun bt223 => ((stripe_Back.f k a0_0 a0_1 a0_2 bt221.1 bt221.2).bind fun bt225 => (if bt225.2 = 0 then (if bt225.1 = (wrap64 (Int.tmod (IntKind.u64.wrap (a1)) 4096)) then (if bt221.1 = bt223.1 then (if ((bt221.2 == bt223.2) == ((wrap64 (Int.tmod (IntKind.u64.wrap (a1)) 4096)) == (wrap64 (Int.tmod (IntKind.u64.wrap (a2)) 4096)))) = true then (if bt221.2 ≥ 0 then (if bt221.2 < a0_2 then (if bt221.1 ≥ 0 then ((reeflaw28_awake.f k).bind fun t227 => (some t227)) else (none)) else (none)) else (none)) else (none)) else (if (false == ((wrap64 (Int.tmod (IntKind.u64.wrap (a1)) 4096)) == (wrap64 (Int.tmod (IntKind.u64.wrap (a2)) 4096)))) = true then (if bt221.2 ≥ 0 then (if bt221.2 < a0_2 then (if bt221.1 ≥ 0 then ((reeflaw28_awake.f k).bind fun t228 => (some t228)) else (none)) else (none)) else (none)) else (none))) else (none)) else (none))))) else ((reeflaw28_awake.f k).bind fun t220 => (some t220)))
theorem reeflaw28_StripeOnce.mono : ∀ a0 a1 a2 a3 a4 k, LeO (reeflaw28_StripeOnce.f k a0 a1 a2 a3 a4) (reeflaw28_StripeOnce.f (k + 1) a0 a1 a2 a3 a4) := by
 intro a0 a1 a2 a3 a4 k
 unfold reeflaw28_StripeOnce.f
 repeat' first
   | (with_reducible exact reeflaw28_awake.mono _)
   | (with_reducible exact stripe_Back.mono _ _ _ _ _ _)
   | (with_reducible exact LeO.refl _)
   | (with_reducible exact LeO.none _)
   | (with_reducible refine LeO.ite ?_ ?_)
   | (with_reducible refine LeO.bind ?_ (fun _ => ?_))
   | exact reeflaw28_awake.mono _
   | exact stripe_Back.mono _ _ _ _ _ _
   | exact LeO.none _
   | refine LeO.ite ?_ ?_
   | refine LeO.bind ?_ (fun _ => ?_)
set_option maxHeartbeats 8000000 in
set_option maxRecDepth 100000 in
theorem reeflaw28_StripeOnce.calls (k : Nat) (a0_0 : Int) (a0_1 : Int) (a0_2 : Int) (a1 : Int) (a2 : Int) (r : Bool) (w : World) (h : reeflaw28_StripeOnce.f k a0_0 a0_1 a0_2 a1 a2 = some r) :
  Calls Tryd.prog 7 #[.agg #[.int .i64 a0_0, .int .i64 a0_1, .int .i64 a0_2], .int .i64 a1, .int .i64 a2] w fun e w' => e = .returned (.bool r) ∧ Below w.heap.size w w' := by
 have hu23 := Tryd.underlying23
 have HB := Aside0.mk (Below.refl w.heap.size w)
 have H : ((reefref28_Fit.f a0_0 a0_1 a0_2).bind fun t219 => (if t219 = true then ((stripe_Place.f a0_0 a0_1 a0_2 (wrap64 (Int.tmod (IntKind.u64.wrap (a1)) 4096))).bind fun bt221 => ((stripe_Place.f a0_0 a0_1 a0_2 (wrap64 (Int.tmod (IntKind.u64.wrap (a2)) 4096))).bind fun bt223 => ((stripe_Back.f k a0_0 a0_1 a0_2 bt221.1 bt221.2).bind fun bt225 => (if bt225.2 = 0 then (if bt225.1 = (wrap64 (Int.tmod (IntKind.u64.wrap (a1)) 4096)) then (if bt221.1 = bt223.1 then (if ((bt221.2 == bt223.2) == ((wrap64 (Int.tmod (IntKind.u64.wrap (a1)) 4096)) == (wrap64 (Int.tmod (IntKind.u64.wrap (a2)) 4096)))) = true then (if bt221.2 ≥ 0 then (if bt221.2 < a0_2 then (if bt221.1 ≥ 0 then ((reeflaw28_awake.f k).bind fun t227 => (some t227)) else (none)) else (none)) else (none)) else (none)) else (if (false == ((wrap64 (Int.tmod (IntKind.u64.wrap (a1)) 4096)) == (wrap64 (Int.tmod (IntKind.u64.wrap (a2)) 4096)))) = true then (if bt221.2 ≥ 0 then (if bt221.2 < a0_2 then (if bt221.1 ≥ 0 then ((reeflaw28_awake.f k).bind fun t228 => (some t228)) else (none)) else (none)) else (none)) else (none))) else (none)) else (none))))) else ((reeflaw28_awake.f k).bind fun t220 => (some t220)))) = some r := h
 clear h
 replace H := Option.bind_eq_some_iff.mp H
 obtain ⟨t219, A40, H⟩ := H
 replace H : (if t219 = true then ((stripe_Place.f a0_0 a0_1 a0_2 (wrap64 (Int.tmod (IntKind.u64.wrap (a1)) 4096))).bind fun bt221 => ((stripe_Place.f a0_0 a0_1 a0_2 (wrap64 (Int.tmod (IntKind.u64.wrap (a2)) 4096))).bind fun bt223 => ((stripe_Back.f k a0_0 a0_1 a0_2 bt221.1 bt221.2).bind fun bt225 => (if bt225.2 = 0 then (if bt225.1 = (wrap64 (Int.tmod (IntKind.u64.wrap (a1)) 4096)) then (if bt221.1 = bt223.1 then (if ((bt221.2 == bt223.2) == ((wrap64 (Int.tmod (IntKind.u64.wrap (a1)) 4096)) == (wrap64 (Int.tmod (IntKind.u64.wrap (a2)) 4096)))) = true then (if bt221.2 ≥ 0 then (if bt221.2 < a0_2 then (if bt221.1 ≥ 0 then ((reeflaw28_awake.f k).bind fun t227 => (some t227)) else (none)) else (none)) else (none)) else (none)) else (if (false == ((wrap64 (Int.tmod (IntKind.u64.wrap (a1)) 4096)) == (wrap64 (Int.tmod (IntKind.u64.wrap (a2)) 4096)))) = true then (if bt221.2 ≥ 0 then (if bt221.2 < a0_2 then (if bt221.1 ≥ 0 then ((reeflaw28_awake.f k).bind fun t228 => (some t228)) else (none)) else (none)) else (none)) else (none))) else (none)) else (none))))) else ((reeflaw28_awake.f k).bind fun t220 => (some t220))) = some r := H
 have A4 := Aside0.mk A40
 clear A40
 by_cases c5 : t219 = true
 ·subst c5
  have H1 : ((stripe_Place.f a0_0 a0_1 a0_2 (wrap64 (Int.tmod (IntKind.u64.wrap (a1)) 4096))).bind fun bt221 => ((stripe_Place.f a0_0 a0_1 a0_2 (wrap64 (Int.tmod (IntKind.u64.wrap (a2)) 4096))).bind fun bt223 => ((stripe_Back.f k a0_0 a0_1 a0_2 bt221.1 bt221.2).bind fun bt225 => (if bt225.2 = 0 then (if bt225.1 = (wrap64 (Int.tmod (IntKind.u64.wrap (a1)) 4096)) then (if bt221.1 = bt223.1 then (if ((bt221.2 == bt223.2) == ((wrap64 (Int.tmod (IntKind.u64.wrap (a1)) 4096)) == (wrap64 (Int.tmod (IntKind.u64.wrap (a2)) 4096)))) = true then (if bt221.2 ≥ 0 then (if bt221.2 < a0_2 then (if bt221.1 ≥ 0 then ((reeflaw28_awake.f k).bind fun t227 => (some t227)) else (none)) else (none)) else (none)) else (none)) else (if (false == ((wrap64 (Int.tmod (IntKind.u64.wrap (a1)) 4096)) == (wrap64 (Int.tmod (IntKind.u64.wrap (a2)) 4096)))) = true then (if bt221.2 ≥ 0 then (if bt221.2 < a0_2 then (if bt221.1 ≥ 0 then ((reeflaw28_awake.f k).bind fun t228 => (some t228)) else (none)) else (none)) else (none)) else (none))) else (none)) else (none))))) = some r := by rw [if_pos rfl] at H; exact H
  clear H
  have H := H1
  clear H1
  replace H := Option.bind_eq_some_iff.mp H
  obtain ⟨⟨t221, t222⟩, A60, H⟩ := H
  replace H : ((stripe_Place.f a0_0 a0_1 a0_2 (wrap64 (Int.tmod (IntKind.u64.wrap (a2)) 4096))).bind fun bt223 => ((stripe_Back.f k a0_0 a0_1 a0_2 t221 t222).bind fun bt225 => (if bt225.2 = 0 then (if bt225.1 = (wrap64 (Int.tmod (IntKind.u64.wrap (a1)) 4096)) then (if t221 = bt223.1 then (if ((t222 == bt223.2) == ((wrap64 (Int.tmod (IntKind.u64.wrap (a1)) 4096)) == (wrap64 (Int.tmod (IntKind.u64.wrap (a2)) 4096)))) = true then (if t222 ≥ 0 then (if t222 < a0_2 then (if t221 ≥ 0 then ((reeflaw28_awake.f k).bind fun t227 => (some t227)) else (none)) else (none)) else (none)) else (none)) else (if (false == ((wrap64 (Int.tmod (IntKind.u64.wrap (a1)) 4096)) == (wrap64 (Int.tmod (IntKind.u64.wrap (a2)) 4096)))) = true then (if t222 ≥ 0 then (if t222 < a0_2 then (if t221 ≥ 0 then ((reeflaw28_awake.f k).bind fun t228 => (some t228)) else (none)) else (none)) else (none)) else (none))) else (none)) else (none)))) = some r := H
  have A6 := Aside0.mk A60
  clear A60
  replace H := Option.bind_eq_some_iff.mp H
  obtain ⟨⟨t223, t224⟩, A70, H⟩ := H
  replace H : ((stripe_Back.f k a0_0 a0_1 a0_2 t221 t222).bind fun bt225 => (if bt225.2 = 0 then (if bt225.1 = (wrap64 (Int.tmod (IntKind.u64.wrap (a1)) 4096)) then (if t221 = t223 then (if ((t222 == t224) == ((wrap64 (Int.tmod (IntKind.u64.wrap (a1)) 4096)) == (wrap64 (Int.tmod (IntKind.u64.wrap (a2)) 4096)))) = true then (if t222 ≥ 0 then (if t222 < a0_2 then (if t221 ≥ 0 then ((reeflaw28_awake.f k).bind fun t227 => (some t227)) else (none)) else (none)) else (none)) else (none)) else (if (false == ((wrap64 (Int.tmod (IntKind.u64.wrap (a1)) 4096)) == (wrap64 (Int.tmod (IntKind.u64.wrap (a2)) 4096)))) = true then (if t222 ≥ 0 then (if t222 < a0_2 then (if t221 ≥ 0 then ((reeflaw28_awake.f k).bind fun t228 => (some t228)) else (none)) else (none)) else (none)) else (none))) else (none)) else (none))) = some r := H
  have A7 := Aside0.mk A70
  clear A70
  replace H := Option.bind_eq_some_iff.mp H
  obtain ⟨⟨t225, t226⟩, A80, H⟩ := H
  replace H : (if t226 = 0 then (if t225 = (wrap64 (Int.tmod (IntKind.u64.wrap (a1)) 4096)) then (if t221 = t223 then (if ((t222 == t224) == ((wrap64 (Int.tmod (IntKind.u64.wrap (a1)) 4096)) == (wrap64 (Int.tmod (IntKind.u64.wrap (a2)) 4096)))) = true then (if t222 ≥ 0 then (if t222 < a0_2 then (if t221 ≥ 0 then ((reeflaw28_awake.f k).bind fun t227 => (some t227)) else (none)) else (none)) else (none)) else (none)) else (if (false == ((wrap64 (Int.tmod (IntKind.u64.wrap (a1)) 4096)) == (wrap64 (Int.tmod (IntKind.u64.wrap (a2)) 4096)))) = true then (if t222 ≥ 0 then (if t222 < a0_2 then (if t221 ≥ 0 then ((reeflaw28_awake.f k).bind fun t228 => (some t228)) else (none)) else (none)) else (none)) else (none))) else (none)) else (none)) = some r := H
  have A8 := Aside0.mk A80
  clear A80
  by_cases c9 : t226 = 0
  ·rw [if_pos c9] at H
   have c9b0 : (t226 == 0) = true := beq_iff_eq.mpr c9
   have c9b1 : (t226 != 0) = false := bne_eq_false_iff_eq.mpr c9
   clear c9
   by_cases c10 : t225 = (wrap64 (Int.tmod (IntKind.u64.wrap (a1)) 4096))
   ·rw [if_pos c10] at H
    have c10b0 : (t225 == (wrap64 (Int.tmod (IntKind.u64.wrap (a1)) 4096))) = true := beq_iff_eq.mpr c10
    have c10b1 : (t225 != (wrap64 (Int.tmod (IntKind.u64.wrap (a1)) 4096))) = false := bne_eq_false_iff_eq.mpr c10
    clear c10
    by_cases c11 : t221 = t223
    ·rw [if_pos c11] at H
     have c11b0 : (t221 == t223) = true := beq_iff_eq.mpr c11
     have c11b1 : (t221 != t223) = false := bne_eq_false_iff_eq.mpr c11
     clear c11
     by_cases c12 : ((t222 == t224) == ((wrap64 (Int.tmod (IntKind.u64.wrap (a1)) 4096)) == (wrap64 (Int.tmod (IntKind.u64.wrap (a2)) 4096)))) = true
     ·rw [if_pos c12] at H
      have c12b0 : ((t222 == t224) == ((wrap64 (Int.tmod (IntKind.u64.wrap (a1)) 4096)) == (wrap64 (Int.tmod (IntKind.u64.wrap (a2)) 4096)))) = true := c12
      (try (have c12b1 : decide ((t222 == t224) = ((wrap64 (Int.tmod (IntKind.u64.wrap (a1)) 4096)) == (wrap64 (Int.tmod (IntKind.u64.wrap (a2)) 4096)))) = true := by simpa using c12))
      (try (have c12b2 : ((t222 == t224) == ((wrap64 (Int.tmod (IntKind.u64.wrap (a1)) 4096)) == (wrap64 (Int.tmod (IntKind.u64.wrap (a2)) 4096)))) = true := by simpa using c12))
      clear c12
      by_cases c13 : t222 ≥ 0
      ·rw [if_pos c13] at H
       have c13b0 : decide (0 ≤ t222) = true := decide_eq_true c13
       clear c13
       by_cases c14 : t222 < a0_2
       ·rw [if_pos c14] at H
        have c14b0 : decide (t222 < a0_2) = true := decide_eq_true c14
        clear c14
        by_cases c15 : t221 ≥ 0
        ·rw [if_pos c15] at H
         have c15b0 : decide (0 ≤ t221) = true := decide_eq_true c15
         clear c15
         replace H := Option.bind_eq_some_iff.mp H
         obtain ⟨t227, A160, H⟩ := H
         replace H : (some t227) = some r := H
         have A16 := Aside0.mk A160
         clear A160
         obtain rfl := Option.some.inj H
         go_enter Tryd.func7, Tryd.ntmps7
         go_wp2_with (first | ((with_reducible refine gate_dst (N := 3) rfl ?_); refine box_event ?hg (N := 3) ?hd (cs := #[.int .i64 a0_0, .int .i64 a0_1, .int .i64 a0_2]) (t := 23) ?hr ?_; (case hd => rfl); (case hg => rfl); (case hr => first | (go_simp; done) | (go_simp; rfl)); intro gb218 hg w17 hbox hb; have n0_ := Aside0.mk (below_step (by repeat (first | (with_reducible first | exact HB.out | apply below_alloc | apply pw_below_drewN | apply below_drew1) | exact HB.out)) hb); have n1_ := Aside0.mk (hbox); have n2_ := Aside0.mk ((by rw [hg]; exact (below_size (by repeat (first | (with_reducible first | exact HB.out | apply below_alloc | apply pw_below_drewN | apply below_drew1) | exact HB.out))) : w.heap.size ≤ gb218)); have n3_ := n2_; clear HB; have HB := n0_; have BK218 := n1_; have GW218 := n2_; have GE218 := n3_; clear n0_ n1_ n2_ n3_; clear hb hbox hg; obtain ⟨hcz18_0, hcz18_1, hcz18_2⟩ := blkC3 w17 gb218 (.int .i64 a0_0) (.int .i64 a0_1) (.int .i64 a0_2) BK218.out; obtain ⟨hfz18_0, hfz18_1, hfz18_2⟩ := blkF3 BK218.out) | ((with_reducible refine gate_callee (f := 11) rfl ?_); refine goesL_ (some 14) rfl rfl Tryd.func11 (by kernel_rfl) rfl #[.agg #[.int .i64 a0_0, .int .i64 a0_1, .int .i64 a0_2]] rfl (by (try simp only [List.map_toArray, List.map_cons, List.map_nil]); first | done | rfl | (simp only [List.length_drop, List.length_take]; rfl)) ?_; (with_reducible refine (reefref28_Fit.calls a0_0 a0_1 a0_2 true _ A4.out).mono ?_); rintro e w19 ⟨rfl, hb⟩; refine ⟨_, rfl, ?_⟩; have n0_ := Aside0.mk (blk_below (g := gb218) (o := .cells #[.int .i64 a0_0, .int .i64 a0_1, .int .i64 a0_2] 23 (0, 0)) (by (with_reducible repeat (first | apply bN | apply bD | apply bA)); exact BK218.out) hb); have n1_ := Aside0.mk (below_step (by repeat (first | (with_reducible first | exact HB.out | apply below_alloc | apply pw_below_drewN | apply below_drew1 | refine below_set ?_ GE218.out) | exact HB.out)) hb); clear BK218; clear HB; have BK218 := n0_; have HB := n1_; clear n0_ n1_; (try clear hb); (try clear hb2); (try clear hk); (try clear hi); obtain ⟨hcz20_0, hcz20_1, hcz20_2⟩ := blkC3 w19 gb218 (.int .i64 a0_0) (.int .i64 a0_1) (.int .i64 a0_2) BK218.out; obtain ⟨hfz20_0, hfz20_1, hfz20_2⟩ := blkF3 BK218.out) | ((with_reducible refine gate_callee (f := 21) rfl ?_); refine goesL_ (some 28) rfl rfl Tryd.func21 (by kernel_rfl) rfl #[.agg #[.int .i64 a0_0, .int .i64 a0_1, .int .i64 a0_2], .int .i64 (wrap64 (Int.tmod (IntKind.u64.wrap (a1)) 4096))] rfl (by (try simp only [List.map_toArray, List.map_cons, List.map_nil]); first | done | rfl | (simp only [List.length_drop, List.length_take]; rfl)) ?_; (with_reducible refine (stripe_Place.calls a0_0 a0_1 a0_2 (wrap64 (Int.tmod (IntKind.u64.wrap (a1)) 4096)) t221 t222 _ A6.out).mono ?_); rintro e w21 ⟨rfl, hb⟩; refine ⟨_, rfl, ?_⟩; have n0_ := Aside0.mk (blk_below (g := gb218) (o := .cells #[.int .i64 a0_0, .int .i64 a0_1, .int .i64 a0_2] 23 (0, 0)) (by (with_reducible repeat (first | apply bN | apply bD | apply bA)); exact BK218.out) hb); have n1_ := Aside0.mk (below_step (by repeat (first | (with_reducible first | exact HB.out | apply below_alloc | apply pw_below_drewN | apply below_drew1 | refine below_set ?_ GE218.out) | exact HB.out)) hb); clear BK218; clear HB; have BK218 := n0_; have HB := n1_; clear n0_ n1_; (try clear hb); (try clear hb2); (try clear hk); (try clear hi); obtain ⟨hcz22_0, hcz22_1, hcz22_2⟩ := blkC3 w21 gb218 (.int .i64 a0_0) (.int .i64 a0_1) (.int .i64 a0_2) BK218.out; obtain ⟨hfz22_0, hfz22_1, hfz22_2⟩ := blkF3 BK218.out) | ((with_reducible refine gate_callee (f := 21) rfl ?_); refine goesL_ (some 34) rfl rfl Tryd.func21 (by kernel_rfl) rfl #[.agg #[.int .i64 a0_0, .int .i64 a0_1, .int .i64 a0_2], .int .i64 (wrap64 (Int.tmod (IntKind.u64.wrap (a2)) 4096))] rfl (by (try simp only [List.map_toArray, List.map_cons, List.map_nil]); first | done | rfl | (simp only [List.length_drop, List.length_take]; rfl)) ?_; (with_reducible refine (stripe_Place.calls a0_0 a0_1 a0_2 (wrap64 (Int.tmod (IntKind.u64.wrap (a2)) 4096)) t223 t224 _ A7.out).mono ?_); rintro e w23 ⟨rfl, hb⟩; refine ⟨_, rfl, ?_⟩; have n0_ := Aside0.mk (blk_below (g := gb218) (o := .cells #[.int .i64 a0_0, .int .i64 a0_1, .int .i64 a0_2] 23 (0, 0)) (by (with_reducible repeat (first | apply bN | apply bD | apply bA)); exact BK218.out) hb); have n1_ := Aside0.mk (below_step (by repeat (first | (with_reducible first | exact HB.out | apply below_alloc | apply pw_below_drewN | apply below_drew1 | refine below_set ?_ GE218.out) | exact HB.out)) hb); clear BK218; clear HB; have BK218 := n0_; have HB := n1_; clear n0_ n1_; (try clear hb); (try clear hb2); (try clear hk); (try clear hi); obtain ⟨hcz24_0, hcz24_1, hcz24_2⟩ := blkC3 w23 gb218 (.int .i64 a0_0) (.int .i64 a0_1) (.int .i64 a0_2) BK218.out; obtain ⟨hfz24_0, hfz24_1, hfz24_2⟩ := blkF3 BK218.out) | ((with_reducible refine gate_callee (f := 23) rfl ?_); refine goesL_ (some 41) rfl rfl Tryd.func23 (by kernel_rfl) rfl #[.agg #[.int .i64 a0_0, .int .i64 a0_1, .int .i64 a0_2], .int .i64 t221, .int .i64 t222] rfl (by (try simp only [List.map_toArray, List.map_cons, List.map_nil]); first | done | rfl | (simp only [List.length_drop, List.length_take]; rfl)) ?_; (with_reducible refine (stripe_Back.calls k a0_0 a0_1 a0_2 t221 t222 t225 t226 _ A8.out).mono ?_); rintro e w25 ⟨rfl, hb⟩; refine ⟨_, rfl, ?_⟩; have n0_ := Aside0.mk (blk_below (g := gb218) (o := .cells #[.int .i64 a0_0, .int .i64 a0_1, .int .i64 a0_2] 23 (0, 0)) (by (with_reducible repeat (first | apply bN | apply bD | apply bA)); exact BK218.out) hb); have n1_ := Aside0.mk (below_step (by repeat (first | (with_reducible first | exact HB.out | apply below_alloc | apply pw_below_drewN | apply below_drew1 | refine below_set ?_ GE218.out) | exact HB.out)) hb); clear BK218; clear HB; have BK218 := n0_; have HB := n1_; clear n0_ n1_; (try clear hb); (try clear hb2); (try clear hk); (try clear hi); obtain ⟨hcz26_0, hcz26_1, hcz26_2⟩ := blkC3 w25 gb218 (.int .i64 a0_0) (.int .i64 a0_1) (.int .i64 a0_2) BK218.out; obtain ⟨hfz26_0, hfz26_1, hfz26_2⟩ := blkF3 BK218.out) | (go_at_call 12; (with_reducible refine (reeflaw28_awake.calls k  t227 _ A16.out).mono ?_); rintro e w27 ⟨rfl, hb⟩; have n0_ := Aside0.mk (blk_below (g := gb218) (o := .cells #[.int .i64 a0_0, .int .i64 a0_1, .int .i64 a0_2] 23 (0, 0)) (by (with_reducible repeat (first | apply bN | apply bD | apply bA)); exact BK218.out) hb); have n1_ := Aside0.mk (below_step (by repeat (first | (with_reducible first | exact HB.out | apply below_alloc | apply pw_below_drewN | apply below_drew1 | refine below_set ?_ GE218.out) | exact HB.out)) hb); clear BK218; clear HB; have BK218 := n0_; have HB := n1_; clear n0_ n1_; (try clear hb); (try clear hb2); (try clear hk); (try clear hi)))
         go_ret
         exact ⟨by first | rfl | (simp [errW_none, errW_some] <;> rfl) | (simp [*, errW_none, errW_some] <;> rfl), by repeat (first | (with_reducible first | exact HB.out | apply below_alloc | apply pw_below_drewN | apply below_drew1 | refine below_set ?_ GE218.out) | exact HB.out)⟩
        ·rw [if_neg c15] at H
         exact absurd H (by simp)
       ·rw [if_neg c14] at H
        exact absurd H (by simp)
      ·rw [if_neg c13] at H
       exact absurd H (by simp)
     ·rw [if_neg c12] at H
      exact absurd H (by simp)
    ·rw [if_neg c11] at H
     have c11b0 : (t221 == t223) = false := beq_eq_false_iff_ne.mpr c11
     have c11b1 : (t221 != t223) = true := bne_iff_ne.mpr c11
     by_cases c28 : (false == ((wrap64 (Int.tmod (IntKind.u64.wrap (a1)) 4096)) == (wrap64 (Int.tmod (IntKind.u64.wrap (a2)) 4096)))) = true
     ·rw [if_pos c28] at H
      have c28b0 : (false == ((wrap64 (Int.tmod (IntKind.u64.wrap (a1)) 4096)) == (wrap64 (Int.tmod (IntKind.u64.wrap (a2)) 4096)))) = true := c28
      (try (have c28b1 : decide (false = ((wrap64 (Int.tmod (IntKind.u64.wrap (a1)) 4096)) == (wrap64 (Int.tmod (IntKind.u64.wrap (a2)) 4096)))) = true := by simpa using c28))
      (try (have c28b2 : (false == ((wrap64 (Int.tmod (IntKind.u64.wrap (a1)) 4096)) == (wrap64 (Int.tmod (IntKind.u64.wrap (a2)) 4096)))) = true := by simpa using c28))
      clear c28
      by_cases c29 : t222 ≥ 0
      ·rw [if_pos c29] at H
       have c29b0 : decide (0 ≤ t222) = true := decide_eq_true c29
       clear c29
       by_cases c30 : t222 < a0_2
       ·rw [if_pos c30] at H
        have c30b0 : decide (t222 < a0_2) = true := decide_eq_true c30
        clear c30
        by_cases c31 : t221 ≥ 0
        ·rw [if_pos c31] at H
         have c31b0 : decide (0 ≤ t221) = true := decide_eq_true c31
         clear c31
         replace H := Option.bind_eq_some_iff.mp H
         obtain ⟨t228, A320, H⟩ := H
         replace H : (some t228) = some r := H
         have A32 := Aside0.mk A320
         clear A320
         obtain rfl := Option.some.inj H
         go_enter Tryd.func7, Tryd.ntmps7
         go_wp2_with (first | ((with_reducible refine gate_dst (N := 3) rfl ?_); refine box_event ?hg (N := 3) ?hd (cs := #[.int .i64 a0_0, .int .i64 a0_1, .int .i64 a0_2]) (t := 23) ?hr ?_; (case hd => rfl); (case hg => rfl); (case hr => first | (go_simp; done) | (go_simp; rfl)); intro gb218 hg w33 hbox hb; have n0_ := Aside0.mk (below_step (by repeat (first | (with_reducible first | exact HB.out | apply below_alloc | apply pw_below_drewN | apply below_drew1) | exact HB.out)) hb); have n1_ := Aside0.mk (hbox); have n2_ := Aside0.mk ((by rw [hg]; exact (below_size (by repeat (first | (with_reducible first | exact HB.out | apply below_alloc | apply pw_below_drewN | apply below_drew1) | exact HB.out))) : w.heap.size ≤ gb218)); have n3_ := n2_; clear HB; have HB := n0_; have BK218 := n1_; have GW218 := n2_; have GE218 := n3_; clear n0_ n1_ n2_ n3_; clear hb hbox hg; obtain ⟨hcz34_0, hcz34_1, hcz34_2⟩ := blkC3 w33 gb218 (.int .i64 a0_0) (.int .i64 a0_1) (.int .i64 a0_2) BK218.out; obtain ⟨hfz34_0, hfz34_1, hfz34_2⟩ := blkF3 BK218.out) | ((with_reducible refine gate_callee (f := 11) rfl ?_); refine goesL_ (some 14) rfl rfl Tryd.func11 (by kernel_rfl) rfl #[.agg #[.int .i64 a0_0, .int .i64 a0_1, .int .i64 a0_2]] rfl (by (try simp only [List.map_toArray, List.map_cons, List.map_nil]); first | done | rfl | (simp only [List.length_drop, List.length_take]; rfl)) ?_; (with_reducible refine (reefref28_Fit.calls a0_0 a0_1 a0_2 true _ A4.out).mono ?_); rintro e w35 ⟨rfl, hb⟩; refine ⟨_, rfl, ?_⟩; have n0_ := Aside0.mk (blk_below (g := gb218) (o := .cells #[.int .i64 a0_0, .int .i64 a0_1, .int .i64 a0_2] 23 (0, 0)) (by (with_reducible repeat (first | apply bN | apply bD | apply bA)); exact BK218.out) hb); have n1_ := Aside0.mk (below_step (by repeat (first | (with_reducible first | exact HB.out | apply below_alloc | apply pw_below_drewN | apply below_drew1 | refine below_set ?_ GE218.out) | exact HB.out)) hb); clear BK218; clear HB; have BK218 := n0_; have HB := n1_; clear n0_ n1_; (try clear hb); (try clear hb2); (try clear hk); (try clear hi); obtain ⟨hcz36_0, hcz36_1, hcz36_2⟩ := blkC3 w35 gb218 (.int .i64 a0_0) (.int .i64 a0_1) (.int .i64 a0_2) BK218.out; obtain ⟨hfz36_0, hfz36_1, hfz36_2⟩ := blkF3 BK218.out) | ((with_reducible refine gate_callee (f := 21) rfl ?_); refine goesL_ (some 28) rfl rfl Tryd.func21 (by kernel_rfl) rfl #[.agg #[.int .i64 a0_0, .int .i64 a0_1, .int .i64 a0_2], .int .i64 (wrap64 (Int.tmod (IntKind.u64.wrap (a1)) 4096))] rfl (by (try simp only [List.map_toArray, List.map_cons, List.map_nil]); first | done | rfl | (simp only [List.length_drop, List.length_take]; rfl)) ?_; (with_reducible refine (stripe_Place.calls a0_0 a0_1 a0_2 (wrap64 (Int.tmod (IntKind.u64.wrap (a1)) 4096)) t221 t222 _ A6.out).mono ?_); rintro e w37 ⟨rfl, hb⟩; refine ⟨_, rfl, ?_⟩; have n0_ := Aside0.mk (blk_below (g := gb218) (o := .cells #[.int .i64 a0_0, .int .i64 a0_1, .int .i64 a0_2] 23 (0, 0)) (by (with_reducible repeat (first | apply bN | apply bD | apply bA)); exact BK218.out) hb); have n1_ := Aside0.mk (below_step (by repeat (first | (with_reducible first | exact HB.out | apply below_alloc | apply pw_below_drewN | apply below_drew1 | refine below_set ?_ GE218.out) | exact HB.out)) hb); clear BK218; clear HB; have BK218 := n0_; have HB := n1_; clear n0_ n1_; (try clear hb); (try clear hb2); (try clear hk); (try clear hi); obtain ⟨hcz38_0, hcz38_1, hcz38_2⟩ := blkC3 w37 gb218 (.int .i64 a0_0) (.int .i64 a0_1) (.int .i64 a0_2) BK218.out; obtain ⟨hfz38_0, hfz38_1, hfz38_2⟩ := blkF3 BK218.out) | ((with_reducible refine gate_callee (f := 21) rfl ?_); refine goesL_ (some 34) rfl rfl Tryd.func21 (by kernel_rfl) rfl #[.agg #[.int .i64 a0_0, .int .i64 a0_1, .int .i64 a0_2], .int .i64 (wrap64 (Int.tmod (IntKind.u64.wrap (a2)) 4096))] rfl (by (try simp only [List.map_toArray, List.map_cons, List.map_nil]); first | done | rfl | (simp only [List.length_drop, List.length_take]; rfl)) ?_; (with_reducible refine (stripe_Place.calls a0_0 a0_1 a0_2 (wrap64 (Int.tmod (IntKind.u64.wrap (a2)) 4096)) t223 t224 _ A7.out).mono ?_); rintro e w39 ⟨rfl, hb⟩; refine ⟨_, rfl, ?_⟩; have n0_ := Aside0.mk (blk_below (g := gb218) (o := .cells #[.int .i64 a0_0, .int .i64 a0_1, .int .i64 a0_2] 23 (0, 0)) (by (with_reducible repeat (first | apply bN | apply bD | apply bA)); exact BK218.out) hb); have n1_ := Aside0.mk (below_step (by repeat (first | (with_reducible first | exact HB.out | apply below_alloc | apply pw_below_drewN | apply below_drew1 | refine below_set ?_ GE218.out) | exact HB.out)) hb); clear BK218; clear HB; have BK218 := n0_; have HB := n1_; clear n0_ n1_; (try clear hb); (try clear hb2); (try clear hk); (try clear hi); obtain ⟨hcz40_0, hcz40_1, hcz40_2⟩ := blkC3 w39 gb218 (.int .i64 a0_0) (.int .i64 a0_1) (.int .i64 a0_2) BK218.out; obtain ⟨hfz40_0, hfz40_1, hfz40_2⟩ := blkF3 BK218.out) | ((with_reducible refine gate_callee (f := 23) rfl ?_); refine goesL_ (some 41) rfl rfl Tryd.func23 (by kernel_rfl) rfl #[.agg #[.int .i64 a0_0, .int .i64 a0_1, .int .i64 a0_2], .int .i64 t221, .int .i64 t222] rfl (by (try simp only [List.map_toArray, List.map_cons, List.map_nil]); first | done | rfl | (simp only [List.length_drop, List.length_take]; rfl)) ?_; (with_reducible refine (stripe_Back.calls k a0_0 a0_1 a0_2 t221 t222 t225 t226 _ A8.out).mono ?_); rintro e w41 ⟨rfl, hb⟩; refine ⟨_, rfl, ?_⟩; have n0_ := Aside0.mk (blk_below (g := gb218) (o := .cells #[.int .i64 a0_0, .int .i64 a0_1, .int .i64 a0_2] 23 (0, 0)) (by (with_reducible repeat (first | apply bN | apply bD | apply bA)); exact BK218.out) hb); have n1_ := Aside0.mk (below_step (by repeat (first | (with_reducible first | exact HB.out | apply below_alloc | apply pw_below_drewN | apply below_drew1 | refine below_set ?_ GE218.out) | exact HB.out)) hb); clear BK218; clear HB; have BK218 := n0_; have HB := n1_; clear n0_ n1_; (try clear hb); (try clear hb2); (try clear hk); (try clear hi); obtain ⟨hcz42_0, hcz42_1, hcz42_2⟩ := blkC3 w41 gb218 (.int .i64 a0_0) (.int .i64 a0_1) (.int .i64 a0_2) BK218.out; obtain ⟨hfz42_0, hfz42_1, hfz42_2⟩ := blkF3 BK218.out) | (go_at_call 12; (with_reducible refine (reeflaw28_awake.calls k  t228 _ A32.out).mono ?_); rintro e w43 ⟨rfl, hb⟩; have n0_ := Aside0.mk (blk_below (g := gb218) (o := .cells #[.int .i64 a0_0, .int .i64 a0_1, .int .i64 a0_2] 23 (0, 0)) (by (with_reducible repeat (first | apply bN | apply bD | apply bA)); exact BK218.out) hb); have n1_ := Aside0.mk (below_step (by repeat (first | (with_reducible first | exact HB.out | apply below_alloc | apply pw_below_drewN | apply below_drew1 | refine below_set ?_ GE218.out) | exact HB.out)) hb); clear BK218; clear HB; have BK218 := n0_; have HB := n1_; clear n0_ n1_; (try clear hb); (try clear hb2); (try clear hk); (try clear hi)))
         go_ret
         exact ⟨by first | rfl | (simp [errW_none, errW_some] <;> rfl) | (simp [*, errW_none, errW_some] <;> rfl), by repeat (first | (with_reducible first | exact HB.out | apply below_alloc | apply pw_below_drewN | apply below_drew1 | refine below_set ?_ GE218.out) | exact HB.out)⟩
        ·rw [if_neg c31] at H
         exact absurd H (by simp)
       ·rw [if_neg c30] at H
        exact absurd H (by simp)
      ·rw [if_neg c29] at H
       exact absurd H (by simp)
     ·rw [if_neg c28] at H
      exact absurd H (by simp)
   ·rw [if_neg c10] at H
    exact absurd H (by simp)
  ·rw [if_neg c9] at H
   exact absurd H (by simp)
 ·replace c5 := Bool.eq_false_iff.mpr c5
  subst c5
  have H1 : ((reeflaw28_awake.f k).bind fun t220 => (some t220)) = some r := by rw [if_neg (show ¬ (false = true) by decide)] at H; exact H
  clear H
  have H := H1
  clear H1
  replace H := Option.bind_eq_some_iff.mp H
  obtain ⟨t220, A440, H⟩ := H
  replace H : (some t220) = some r := H
  have A44 := Aside0.mk A440
  clear A440
  obtain rfl := Option.some.inj H
  go_enter Tryd.func7, Tryd.ntmps7
  go_wp2_with (first | ((with_reducible refine gate_dst (N := 3) rfl ?_); refine box_event ?hg (N := 3) ?hd (cs := #[.int .i64 a0_0, .int .i64 a0_1, .int .i64 a0_2]) (t := 23) ?hr ?_; (case hd => rfl); (case hg => rfl); (case hr => first | (go_simp; done) | (go_simp; rfl)); intro gb218 hg w45 hbox hb; have n0_ := Aside0.mk (below_step (by repeat (first | (with_reducible first | exact HB.out | apply below_alloc | apply pw_below_drewN | apply below_drew1) | exact HB.out)) hb); have n1_ := Aside0.mk (hbox); have n2_ := Aside0.mk ((by rw [hg]; exact (below_size (by repeat (first | (with_reducible first | exact HB.out | apply below_alloc | apply pw_below_drewN | apply below_drew1) | exact HB.out))) : w.heap.size ≤ gb218)); have n3_ := n2_; clear HB; have HB := n0_; have BK218 := n1_; have GW218 := n2_; have GE218 := n3_; clear n0_ n1_ n2_ n3_; clear hb hbox hg; obtain ⟨hcz46_0, hcz46_1, hcz46_2⟩ := blkC3 w45 gb218 (.int .i64 a0_0) (.int .i64 a0_1) (.int .i64 a0_2) BK218.out; obtain ⟨hfz46_0, hfz46_1, hfz46_2⟩ := blkF3 BK218.out) | ((with_reducible refine gate_callee (f := 11) rfl ?_); refine goesL_ (some 14) rfl rfl Tryd.func11 (by kernel_rfl) rfl #[.agg #[.int .i64 a0_0, .int .i64 a0_1, .int .i64 a0_2]] rfl (by (try simp only [List.map_toArray, List.map_cons, List.map_nil]); first | done | rfl | (simp only [List.length_drop, List.length_take]; rfl)) ?_; (with_reducible refine (reefref28_Fit.calls a0_0 a0_1 a0_2 false _ A4.out).mono ?_); rintro e w47 ⟨rfl, hb⟩; refine ⟨_, rfl, ?_⟩; have n0_ := Aside0.mk (blk_below (g := gb218) (o := .cells #[.int .i64 a0_0, .int .i64 a0_1, .int .i64 a0_2] 23 (0, 0)) (by (with_reducible repeat (first | apply bN | apply bD | apply bA)); exact BK218.out) hb); have n1_ := Aside0.mk (below_step (by repeat (first | (with_reducible first | exact HB.out | apply below_alloc | apply pw_below_drewN | apply below_drew1 | refine below_set ?_ GE218.out) | exact HB.out)) hb); clear BK218; clear HB; have BK218 := n0_; have HB := n1_; clear n0_ n1_; (try clear hb); (try clear hb2); (try clear hk); (try clear hi)) | ((with_reducible refine gate_callee (f := 12) rfl ?_); refine goesL_ (some 16) rfl rfl Tryd.func12 (by kernel_rfl) rfl #[] rfl (by (try simp only [List.map_toArray, List.map_cons, List.map_nil]); first | done | rfl | (simp only [List.length_drop, List.length_take]; rfl)) ?_; (with_reducible refine (reeflaw28_awake.calls k  t220 _ A44.out).mono ?_); rintro e w48 ⟨rfl, hb⟩; refine ⟨_, rfl, ?_⟩; have n0_ := Aside0.mk (blk_below (g := gb218) (o := .cells #[.int .i64 a0_0, .int .i64 a0_1, .int .i64 a0_2] 23 (0, 0)) (by (with_reducible repeat (first | apply bN | apply bD | apply bA)); exact BK218.out) hb); have n1_ := Aside0.mk (below_step (by repeat (first | (with_reducible first | exact HB.out | apply below_alloc | apply pw_below_drewN | apply below_drew1 | refine below_set ?_ GE218.out) | exact HB.out)) hb); clear BK218; clear HB; have BK218 := n0_; have HB := n1_; clear n0_ n1_; (try clear hb); (try clear hb2); (try clear hk); (try clear hi)))
  go_ret
  exact ⟨by first | rfl | (simp [errW_none, errW_some] <;> rfl) | (simp [*, errW_none, errW_some] <;> rfl), by repeat (first | (with_reducible first | exact HB.out | apply below_alloc | apply pw_below_drewN | apply below_drew1 | refine below_set ?_ GE218.out) | exact HB.out)⟩

-- NOT PRINTED: function 8 (reeflaw28_StripeCuts)

-- NOT PRINTED: function 9 (reeflaw28_StripeWhole)

-- NOT PRINTED: function 51 (strconv_baseError)

-- NOT PRINTED: function 52 (strconv_bitSizeError)

-- NOT PRINTED: function 45 (strconv_toError)

-- NOT PRINTED: function 38 (strconv_Atoi_38)

-- NOT PRINTED: function 30 (stripe_Parse)

end Go.Proofs.YteajaofcgcgodaaDoor.P
