-- Printed by gprint.py, a program of this session, over the kit's print.py
import Derived.Laws.Cover1
import Derived.Test.YtcheinjlgojepaaDoorP0
import Derived.Test.YtcheinjlgojepaaDoorP2
import Derived.Test.YtcheinjlgojepaaDoorP3
import Derived.Test.YtcheinjlgojepaaDoorP24
namespace Go.Proofs.YtcheinjlgojepaaDoor.P
open Go.RowKit Go.Proofs.YtcheinjlgojepaaDoorW.PrintWords Go.Proofs.YtcheinjlgojepaaDoorW.PrintLast Go.Proofs.YtcheinjlgojepaaDoorW.PrintMore
attribute [local go_sem] max2_int min2_int max_two min_two max_three min_three max_four min_four   -- for this text's walks alone
set_option linter.unusedVariables false
set_option linter.unusedSimpArgs false

/-! ### reeflaw02_CodeAfter: function 3 -/
def reeflaw02_CodeAfter.f (k : Nat) (a0 : ByteArray) (a1 : ByteArray) : Option (Bool) := (code_After.f k a0).bind fun bt217 => ((reefref02_After.f k a0).bind fun bt219 => (if bt217.1.toList = bt219.1.toList then (if (bt217.2 != bt219.2) = true then (none) else (if (a1.size : Int) ≥ (a0.size : Int) then (if 0 ≤ (a0.size : Int) then (if (a0.size : Int) ≤ (a1.size : Int) then (if ((Op.bytesLess a1.toList a0.toList) = true) then (if (((a1.extract 0 ((a0.size : Int) : Int).toNat).toList == a0.toList) == false) = true then ((reeflaw02_awake.f k).bind fun t221 => (some t221)) else (none)) else (if bt217.2 = true then (if (((a1.extract 0 ((a0.size : Int) : Int).toNat).toList == a0.toList) == (Op.bytesLess a1.toList bt217.1.toList)) = true then ((reeflaw02_awake.f k).bind fun t222 => (some t222)) else (none)) else (if (((a1.extract 0 ((a0.size : Int) : Int).toNat).toList == a0.toList) == true) = true then ((reeflaw02_awake.f k).bind fun t223 => (some t223)) else (none)))) else (none)) else (none)) else (if ((Op.bytesLess a1.toList a0.toList) = true) then (if (false == false) = true then ((reeflaw02_awake.f k).bind fun t224 => (some t224)) else (none)) else (if bt217.2 = true then (if (false == (Op.bytesLess a1.toList bt217.1.toList)) = true then ((reeflaw02_awake.f k).bind fun t225 => (some t225)) else (none)) else (if (false == true) = true then ((reeflaw02_awake.f k).bind fun t226 => (some t226)) else (none)))))) else (none)))
theorem reeflaw02_CodeAfter.mono : ∀ a0 a1 k, LeO (reeflaw02_CodeAfter.f k a0 a1) (reeflaw02_CodeAfter.f (k + 1) a0 a1) := by
 intro a0 a1 k
 unfold reeflaw02_CodeAfter.f
 repeat' first
   | (with_reducible exact code_After.mono _ _)
   | (with_reducible exact reeflaw02_awake.mono _)
   | (with_reducible exact reefref02_After.mono _ _)
   | (with_reducible exact LeO.refl _)
   | (with_reducible exact LeO.none _)
   | (with_reducible refine LeO.ite ?_ ?_)
   | (with_reducible refine LeO.bind ?_ (fun _ => ?_))
   | exact code_After.mono _ _
   | exact reeflaw02_awake.mono _
   | exact reefref02_After.mono _ _
   | exact LeO.none _
   | refine LeO.ite ?_ ?_
   | refine LeO.bind ?_ (fun _ => ?_)
set_option maxHeartbeats 8000000 in
set_option maxRecDepth 100000 in
theorem reeflaw02_CodeAfter.calls (k : Nat) (a0 : ByteArray) (a1 : ByteArray) (r : Bool) (w : World) (h : reeflaw02_CodeAfter.f k a0 a1 = some r) :
  Calls Tryd.prog 3 #[.string a0, .string a1] w fun e w' => e = .returned (.bool r) ∧ Below w.heap.size w w' := by
 have HB := Aside0.mk (Below.refl w.heap.size w)
 have H : ((code_After.f k a0).bind fun bt217 => ((reefref02_After.f k a0).bind fun bt219 => (if bt217.1.toList = bt219.1.toList then (if (bt217.2 != bt219.2) = true then (none) else (if (a1.size : Int) ≥ (a0.size : Int) then (if 0 ≤ (a0.size : Int) then (if (a0.size : Int) ≤ (a1.size : Int) then (if ((Op.bytesLess a1.toList a0.toList) = true) then (if (((a1.extract 0 ((a0.size : Int) : Int).toNat).toList == a0.toList) == false) = true then ((reeflaw02_awake.f k).bind fun t221 => (some t221)) else (none)) else (if bt217.2 = true then (if (((a1.extract 0 ((a0.size : Int) : Int).toNat).toList == a0.toList) == (Op.bytesLess a1.toList bt217.1.toList)) = true then ((reeflaw02_awake.f k).bind fun t222 => (some t222)) else (none)) else (if (((a1.extract 0 ((a0.size : Int) : Int).toNat).toList == a0.toList) == true) = true then ((reeflaw02_awake.f k).bind fun t223 => (some t223)) else (none)))) else (none)) else (none)) else (if ((Op.bytesLess a1.toList a0.toList) = true) then (if (false == false) = true then ((reeflaw02_awake.f k).bind fun t224 => (some t224)) else (none)) else (if bt217.2 = true then (if (false == (Op.bytesLess a1.toList bt217.1.toList)) = true then ((reeflaw02_awake.f k).bind fun t225 => (some t225)) else (none)) else (if (false == true) = true then ((reeflaw02_awake.f k).bind fun t226 => (some t226)) else (none)))))) else (none)))) = some r := h
 clear h
 replace H := Option.bind_eq_some_iff.mp H
 obtain ⟨⟨t217, t218⟩, A30, H⟩ := H
 replace H : ((reefref02_After.f k a0).bind fun bt219 => (if t217.toList = bt219.1.toList then (if (t218 != bt219.2) = true then (none) else (if (a1.size : Int) ≥ (a0.size : Int) then (if 0 ≤ (a0.size : Int) then (if (a0.size : Int) ≤ (a1.size : Int) then (if ((Op.bytesLess a1.toList a0.toList) = true) then (if (((a1.extract 0 ((a0.size : Int) : Int).toNat).toList == a0.toList) == false) = true then ((reeflaw02_awake.f k).bind fun t221 => (some t221)) else (none)) else (if t218 = true then (if (((a1.extract 0 ((a0.size : Int) : Int).toNat).toList == a0.toList) == (Op.bytesLess a1.toList t217.toList)) = true then ((reeflaw02_awake.f k).bind fun t222 => (some t222)) else (none)) else (if (((a1.extract 0 ((a0.size : Int) : Int).toNat).toList == a0.toList) == true) = true then ((reeflaw02_awake.f k).bind fun t223 => (some t223)) else (none)))) else (none)) else (none)) else (if ((Op.bytesLess a1.toList a0.toList) = true) then (if (false == false) = true then ((reeflaw02_awake.f k).bind fun t224 => (some t224)) else (none)) else (if t218 = true then (if (false == (Op.bytesLess a1.toList t217.toList)) = true then ((reeflaw02_awake.f k).bind fun t225 => (some t225)) else (none)) else (if (false == true) = true then ((reeflaw02_awake.f k).bind fun t226 => (some t226)) else (none)))))) else (none))) = some r := H
 have A3 := Aside0.mk A30
 clear A30
 replace H := Option.bind_eq_some_iff.mp H
 obtain ⟨⟨t219, t220⟩, A40, H⟩ := H
 replace H : (if t217.toList = t219.toList then (if (t218 != t220) = true then (none) else (if (a1.size : Int) ≥ (a0.size : Int) then (if 0 ≤ (a0.size : Int) then (if (a0.size : Int) ≤ (a1.size : Int) then (if ((Op.bytesLess a1.toList a0.toList) = true) then (if (((a1.extract 0 ((a0.size : Int) : Int).toNat).toList == a0.toList) == false) = true then ((reeflaw02_awake.f k).bind fun t221 => (some t221)) else (none)) else (if t218 = true then (if (((a1.extract 0 ((a0.size : Int) : Int).toNat).toList == a0.toList) == (Op.bytesLess a1.toList t217.toList)) = true then ((reeflaw02_awake.f k).bind fun t222 => (some t222)) else (none)) else (if (((a1.extract 0 ((a0.size : Int) : Int).toNat).toList == a0.toList) == true) = true then ((reeflaw02_awake.f k).bind fun t223 => (some t223)) else (none)))) else (none)) else (none)) else (if ((Op.bytesLess a1.toList a0.toList) = true) then (if (false == false) = true then ((reeflaw02_awake.f k).bind fun t224 => (some t224)) else (none)) else (if t218 = true then (if (false == (Op.bytesLess a1.toList t217.toList)) = true then ((reeflaw02_awake.f k).bind fun t225 => (some t225)) else (none)) else (if (false == true) = true then ((reeflaw02_awake.f k).bind fun t226 => (some t226)) else (none)))))) else (none)) = some r := H
 have A4 := Aside0.mk A40
 clear A40
 by_cases c5 : t217.toList = t219.toList
 ·rw [if_pos c5] at H
  have c5b0 : (t217.toList == t219.toList) = true := beq_iff_eq.mpr c5
  have c5b1 : (t217.toList != t219.toList) = false := bne_eq_false_iff_eq.mpr c5
  clear c5
  by_cases c6 : (t218 != t220) = true
  ·rw [if_pos c6] at H
   exact absurd H (by simp)
  ·rw [if_neg c6] at H
   have c6b0 : (t218 != t220) = false := by simpa using c6
   (try (have c6b1 : decide (t218 = t220) = true := by simpa using c6))
   (try (have c6b2 : (t218 == t220) = true := by simpa using c6))
   clear c6
   by_cases c7 : (a1.size : Int) ≥ (a0.size : Int)
   ·rw [if_pos c7] at H
    have c7b0 : decide ((a0.size : Int) ≤ (a1.size : Int)) = true := decide_eq_true c7
    have c7b1 : decide (a0.size ≤ a1.size) = true := decide_eq_true (Int.ofNat_le.mp c7)
    clear c7
    by_cases c8 : 0 ≤ (a0.size : Int)
    ·rw [if_pos c8] at H
     have c8b0 := eq_true c8
     have c8b1 : decide (0 ≤ (a0.size : Int)) = true := decide_eq_true c8
     clear c8
     by_cases c9 : (a0.size : Int) ≤ (a1.size : Int)
     ·rw [if_pos c9] at H
      have c9b0 := eq_true c9
      have c9b1 : decide ((a0.size : Int) ≤ (a1.size : Int)) = true := decide_eq_true c9
      clear c9
      by_cases c10 : ((Op.bytesLess a1.toList a0.toList) = true)
      ·rw [if_pos c10] at H
       have c10b0 : (Op.bytesLess a1.toList a0.toList) = true := c10
       clear c10
       by_cases c11 : (((a1.extract 0 ((a0.size : Int) : Int).toNat).toList == a0.toList) == false) = true
       ·rw [if_pos c11] at H
        have c11b0 : (((a1.extract 0 ((a0.size : Int) : Int).toNat).toList == a0.toList) == false) = true := c11
        have cz_ := c11b0
        simp only [Int.toNat_natCast] at cz_
        try have cy_ := eq_of_beq cz_
        try have cx_ := (congrArg (fun b_ : Bool => !b_) cy_)
        (try (have c11b1 : decide (((a1.extract 0 ((a0.size : Int) : Int).toNat).toList == a0.toList) = false) = true := by simpa using c11))
        (try (have c11b2 : (((a1.extract 0 ((a0.size : Int) : Int).toNat).toList == a0.toList) == false) = true := by simpa using c11))
        clear c11
        replace H := Option.bind_eq_some_iff.mp H
        obtain ⟨t221, A120, H⟩ := H
        replace H : (some t221) = some r := H
        have A12 := Aside0.mk A120
        clear A120
        obtain rfl := Option.some.inj H
        go_enter Tryd.func3, Tryd.ntmps3
        go_wp2_with (first | ((with_reducible refine gate_callee (f := 8) rfl ?_); refine goesL_ (some 12) rfl rfl Tryd.func8 (by kernel_rfl) rfl #[.string a0] rfl (by (try simp only [List.map_toArray, List.map_cons, List.map_nil]); first | done | rfl | (simp only [List.length_drop, List.length_take]; rfl)) ?_; (with_reducible refine (code_After.calls k a0 t217 t218 _ A3.out).mono ?_); rintro e w13 ⟨rfl, hb⟩; refine ⟨_, rfl, ?_⟩; have n0_ := Aside0.mk (below_step (by repeat (first | (with_reducible first | exact HB.out | apply below_alloc | apply pw_below_drewN | apply below_drew1) | exact HB.out)) hb); clear HB; have HB := n0_; clear n0_; (try clear hb); (try clear hb2); (try clear hk); (try clear hi)) | ((with_reducible refine gate_callee (f := 9) rfl ?_); refine goesL_ (some 17) rfl rfl Tryd.func9 (by kernel_rfl) rfl #[.string a0] rfl (by (try simp only [List.map_toArray, List.map_cons, List.map_nil]); first | done | rfl | (simp only [List.length_drop, List.length_take]; rfl)) ?_; (with_reducible refine (reefref02_After.calls k a0 t219 t220 _ A4.out).mono ?_); rintro e w14 ⟨rfl, hb⟩; refine ⟨_, rfl, ?_⟩; have n0_ := Aside0.mk (below_step (by repeat (first | (with_reducible first | exact HB.out | apply below_alloc | apply pw_below_drewN | apply below_drew1) | exact HB.out)) hb); clear HB; have HB := n0_; clear n0_; (try clear hb); (try clear hb2); (try clear hk); (try clear hi)) | (go_at_call 10; (with_reducible refine (reeflaw02_awake.calls k  t221 _ A12.out).mono ?_); rintro e w15 ⟨rfl, hb⟩; have n0_ := Aside0.mk (below_step (by repeat (first | (with_reducible first | exact HB.out | apply below_alloc | apply pw_below_drewN | apply below_drew1) | exact HB.out)) hb); clear HB; have HB := n0_; clear n0_; (try clear hb); (try clear hb2); (try clear hk); (try clear hi)))
        go_ret
        exact ⟨by first | rfl | (simp [errW_none, errW_some] <;> rfl) | (simp [*, errW_none, errW_some] <;> rfl), by repeat (first | (with_reducible first | exact HB.out | apply below_alloc | apply pw_below_drewN | apply below_drew1) | exact HB.out)⟩
       ·rw [if_neg c11] at H
        exact absurd H (by simp)
      ·rw [if_neg c10] at H
       have c10b0 : (Op.bytesLess a1.toList a0.toList) = false := by simpa using c10
       clear c10
       by_cases c16 : t218 = true
       ·subst c16
        have H1 : (if (((a1.extract 0 ((a0.size : Int) : Int).toNat).toList == a0.toList) == (Op.bytesLess a1.toList t217.toList)) = true then ((reeflaw02_awake.f k).bind fun t222 => (some t222)) else (none)) = some r := by rw [if_pos rfl] at H; exact H
        clear H
        have H := H1
        clear H1
        by_cases c17 : (((a1.extract 0 ((a0.size : Int) : Int).toNat).toList == a0.toList) == (Op.bytesLess a1.toList t217.toList)) = true
        ·rw [if_pos c17] at H
         have c17b0 : (((a1.extract 0 ((a0.size : Int) : Int).toNat).toList == a0.toList) == (Op.bytesLess a1.toList t217.toList)) = true := c17
         have cz_ := c17b0
         simp only [Int.toNat_natCast] at cz_
         try have cy_ := eq_of_beq cz_
         try have cx_ := (congrArg (fun b_ : Bool => !b_) cy_)
         (try (have c17b1 : decide (((a1.extract 0 ((a0.size : Int) : Int).toNat).toList == a0.toList) = (Op.bytesLess a1.toList t217.toList)) = true := by simpa using c17))
         (try (have c17b2 : (((a1.extract 0 ((a0.size : Int) : Int).toNat).toList == a0.toList) == (Op.bytesLess a1.toList t217.toList)) = true := by simpa using c17))
         clear c17
         replace H := Option.bind_eq_some_iff.mp H
         obtain ⟨t222, A180, H⟩ := H
         replace H : (some t222) = some r := H
         have A18 := Aside0.mk A180
         clear A180
         obtain rfl := Option.some.inj H
         go_enter Tryd.func3, Tryd.ntmps3
         go_wp2_with (first | ((with_reducible refine gate_callee (f := 8) rfl ?_); refine goesL_ (some 12) rfl rfl Tryd.func8 (by kernel_rfl) rfl #[.string a0] rfl (by (try simp only [List.map_toArray, List.map_cons, List.map_nil]); first | done | rfl | (simp only [List.length_drop, List.length_take]; rfl)) ?_; (with_reducible refine (code_After.calls k a0 t217 true _ A3.out).mono ?_); rintro e w19 ⟨rfl, hb⟩; refine ⟨_, rfl, ?_⟩; have n0_ := Aside0.mk (below_step (by repeat (first | (with_reducible first | exact HB.out | apply below_alloc | apply pw_below_drewN | apply below_drew1) | exact HB.out)) hb); clear HB; have HB := n0_; clear n0_; (try clear hb); (try clear hb2); (try clear hk); (try clear hi)) | ((with_reducible refine gate_callee (f := 9) rfl ?_); refine goesL_ (some 17) rfl rfl Tryd.func9 (by kernel_rfl) rfl #[.string a0] rfl (by (try simp only [List.map_toArray, List.map_cons, List.map_nil]); first | done | rfl | (simp only [List.length_drop, List.length_take]; rfl)) ?_; (with_reducible refine (reefref02_After.calls k a0 t219 t220 _ A4.out).mono ?_); rintro e w20 ⟨rfl, hb⟩; refine ⟨_, rfl, ?_⟩; have n0_ := Aside0.mk (below_step (by repeat (first | (with_reducible first | exact HB.out | apply below_alloc | apply pw_below_drewN | apply below_drew1) | exact HB.out)) hb); clear HB; have HB := n0_; clear n0_; (try clear hb); (try clear hb2); (try clear hk); (try clear hi)) | (go_at_call 10; (with_reducible refine (reeflaw02_awake.calls k  t222 _ A18.out).mono ?_); rintro e w21 ⟨rfl, hb⟩; have n0_ := Aside0.mk (below_step (by repeat (first | (with_reducible first | exact HB.out | apply below_alloc | apply pw_below_drewN | apply below_drew1) | exact HB.out)) hb); clear HB; have HB := n0_; clear n0_; (try clear hb); (try clear hb2); (try clear hk); (try clear hi)))
         go_ret
         exact ⟨by first | rfl | (simp [errW_none, errW_some] <;> rfl) | (simp [*, errW_none, errW_some] <;> rfl), by repeat (first | (with_reducible first | exact HB.out | apply below_alloc | apply pw_below_drewN | apply below_drew1) | exact HB.out)⟩
        ·rw [if_neg c17] at H
         exact absurd H (by simp)
       ·replace c16 := Bool.eq_false_iff.mpr c16
        subst c16
        have H1 : (if (((a1.extract 0 ((a0.size : Int) : Int).toNat).toList == a0.toList) == true) = true then ((reeflaw02_awake.f k).bind fun t223 => (some t223)) else (none)) = some r := by rw [if_neg (show ¬ (false = true) by decide)] at H; exact H
        clear H
        have H := H1
        clear H1
        by_cases c22 : (((a1.extract 0 ((a0.size : Int) : Int).toNat).toList == a0.toList) == true) = true
        ·rw [if_pos c22] at H
         have c22b0 : (((a1.extract 0 ((a0.size : Int) : Int).toNat).toList == a0.toList) == true) = true := c22
         have cz_ := c22b0
         simp only [Int.toNat_natCast] at cz_
         try have cy_ := eq_of_beq cz_
         try have cx_ := (congrArg (fun b_ : Bool => !b_) cy_)
         (try (have c22b1 : decide (((a1.extract 0 ((a0.size : Int) : Int).toNat).toList == a0.toList) = true) = true := by simpa using c22))
         (try (have c22b2 : (((a1.extract 0 ((a0.size : Int) : Int).toNat).toList == a0.toList) == true) = true := by simpa using c22))
         clear c22
         replace H := Option.bind_eq_some_iff.mp H
         obtain ⟨t223, A230, H⟩ := H
         replace H : (some t223) = some r := H
         have A23 := Aside0.mk A230
         clear A230
         obtain rfl := Option.some.inj H
         go_enter Tryd.func3, Tryd.ntmps3
         go_wp2_with (first | ((with_reducible refine gate_callee (f := 8) rfl ?_); refine goesL_ (some 12) rfl rfl Tryd.func8 (by kernel_rfl) rfl #[.string a0] rfl (by (try simp only [List.map_toArray, List.map_cons, List.map_nil]); first | done | rfl | (simp only [List.length_drop, List.length_take]; rfl)) ?_; (with_reducible refine (code_After.calls k a0 t217 false _ A3.out).mono ?_); rintro e w24 ⟨rfl, hb⟩; refine ⟨_, rfl, ?_⟩; have n0_ := Aside0.mk (below_step (by repeat (first | (with_reducible first | exact HB.out | apply below_alloc | apply pw_below_drewN | apply below_drew1) | exact HB.out)) hb); clear HB; have HB := n0_; clear n0_; (try clear hb); (try clear hb2); (try clear hk); (try clear hi)) | ((with_reducible refine gate_callee (f := 9) rfl ?_); refine goesL_ (some 17) rfl rfl Tryd.func9 (by kernel_rfl) rfl #[.string a0] rfl (by (try simp only [List.map_toArray, List.map_cons, List.map_nil]); first | done | rfl | (simp only [List.length_drop, List.length_take]; rfl)) ?_; (with_reducible refine (reefref02_After.calls k a0 t219 t220 _ A4.out).mono ?_); rintro e w25 ⟨rfl, hb⟩; refine ⟨_, rfl, ?_⟩; have n0_ := Aside0.mk (below_step (by repeat (first | (with_reducible first | exact HB.out | apply below_alloc | apply pw_below_drewN | apply below_drew1) | exact HB.out)) hb); clear HB; have HB := n0_; clear n0_; (try clear hb); (try clear hb2); (try clear hk); (try clear hi)) | (go_at_call 10; (with_reducible refine (reeflaw02_awake.calls k  t223 _ A23.out).mono ?_); rintro e w26 ⟨rfl, hb⟩; have n0_ := Aside0.mk (below_step (by repeat (first | (with_reducible first | exact HB.out | apply below_alloc | apply pw_below_drewN | apply below_drew1) | exact HB.out)) hb); clear HB; have HB := n0_; clear n0_; (try clear hb); (try clear hb2); (try clear hk); (try clear hi)))
         go_ret
         exact ⟨by first | rfl | (simp [errW_none, errW_some] <;> rfl) | (simp [*, errW_none, errW_some] <;> rfl), by repeat (first | (with_reducible first | exact HB.out | apply below_alloc | apply pw_below_drewN | apply below_drew1) | exact HB.out)⟩
        ·rw [if_neg c22] at H
         exact absurd H (by simp)
     ·rw [if_neg c9] at H
      exact absurd H (by simp)
    ·rw [if_neg c8] at H
     exact absurd H (by simp)
   ·rw [if_neg c7] at H
    have c7b0 : decide ((a0.size : Int) ≤ (a1.size : Int)) = false := decide_eq_false c7
    have c7b1 : decide (a0.size ≤ a1.size) = false := decide_eq_false (fun h => c7 (Int.ofNat_le.mpr h))
    clear c7
    by_cases c27 : ((Op.bytesLess a1.toList a0.toList) = true)
    ·rw [if_pos c27] at H
     have c27b0 : (Op.bytesLess a1.toList a0.toList) = true := c27
     clear c27
     by_cases c28 : (false == false) = true
     ·rw [if_pos c28] at H
      have c28b0 : (false == false) = true := c28
      (try (have c28b1 : decide (false = false) = true := by first | decide | exact absurd c28 (by decide)))
      (try (have c28b2 : (false == false) = true := by first | decide | exact absurd c28 (by decide)))
      clear c28
      replace H := Option.bind_eq_some_iff.mp H
      obtain ⟨t224, A290, H⟩ := H
      replace H : (some t224) = some r := H
      have A29 := Aside0.mk A290
      clear A290
      obtain rfl := Option.some.inj H
      go_enter Tryd.func3, Tryd.ntmps3
      go_wp2_with (first | ((with_reducible refine gate_callee (f := 8) rfl ?_); refine goesL_ (some 12) rfl rfl Tryd.func8 (by kernel_rfl) rfl #[.string a0] rfl (by (try simp only [List.map_toArray, List.map_cons, List.map_nil]); first | done | rfl | (simp only [List.length_drop, List.length_take]; rfl)) ?_; (with_reducible refine (code_After.calls k a0 t217 t218 _ A3.out).mono ?_); rintro e w30 ⟨rfl, hb⟩; refine ⟨_, rfl, ?_⟩; have n0_ := Aside0.mk (below_step (by repeat (first | (with_reducible first | exact HB.out | apply below_alloc | apply pw_below_drewN | apply below_drew1) | exact HB.out)) hb); clear HB; have HB := n0_; clear n0_; (try clear hb); (try clear hb2); (try clear hk); (try clear hi)) | ((with_reducible refine gate_callee (f := 9) rfl ?_); refine goesL_ (some 17) rfl rfl Tryd.func9 (by kernel_rfl) rfl #[.string a0] rfl (by (try simp only [List.map_toArray, List.map_cons, List.map_nil]); first | done | rfl | (simp only [List.length_drop, List.length_take]; rfl)) ?_; (with_reducible refine (reefref02_After.calls k a0 t219 t220 _ A4.out).mono ?_); rintro e w31 ⟨rfl, hb⟩; refine ⟨_, rfl, ?_⟩; have n0_ := Aside0.mk (below_step (by repeat (first | (with_reducible first | exact HB.out | apply below_alloc | apply pw_below_drewN | apply below_drew1) | exact HB.out)) hb); clear HB; have HB := n0_; clear n0_; (try clear hb); (try clear hb2); (try clear hk); (try clear hi)) | (go_at_call 10; (with_reducible refine (reeflaw02_awake.calls k  t224 _ A29.out).mono ?_); rintro e w32 ⟨rfl, hb⟩; have n0_ := Aside0.mk (below_step (by repeat (first | (with_reducible first | exact HB.out | apply below_alloc | apply pw_below_drewN | apply below_drew1) | exact HB.out)) hb); clear HB; have HB := n0_; clear n0_; (try clear hb); (try clear hb2); (try clear hk); (try clear hi)))
      go_ret
      exact ⟨by first | rfl | (simp [errW_none, errW_some] <;> rfl) | (simp [*, errW_none, errW_some] <;> rfl), by repeat (first | (with_reducible first | exact HB.out | apply below_alloc | apply pw_below_drewN | apply below_drew1) | exact HB.out)⟩
     ·rw [if_neg c28] at H
      exact absurd H (by simp)
    ·rw [if_neg c27] at H
     have c27b0 : (Op.bytesLess a1.toList a0.toList) = false := by simpa using c27
     clear c27
     by_cases c33 : t218 = true
     ·subst c33
      have H1 : (if (false == (Op.bytesLess a1.toList t217.toList)) = true then ((reeflaw02_awake.f k).bind fun t225 => (some t225)) else (none)) = some r := by rw [if_pos rfl] at H; exact H
      clear H
      have H := H1
      clear H1
      by_cases c34 : (false == (Op.bytesLess a1.toList t217.toList)) = true
      ·rw [if_pos c34] at H
       have c34b0 : (false == (Op.bytesLess a1.toList t217.toList)) = true := c34
       (try (have c34b1 : decide (false = (Op.bytesLess a1.toList t217.toList)) = true := by simpa using c34))
       (try (have c34b2 : (false == (Op.bytesLess a1.toList t217.toList)) = true := by simpa using c34))
       clear c34
       replace H := Option.bind_eq_some_iff.mp H
       obtain ⟨t225, A350, H⟩ := H
       replace H : (some t225) = some r := H
       have A35 := Aside0.mk A350
       clear A350
       obtain rfl := Option.some.inj H
       go_enter Tryd.func3, Tryd.ntmps3
       go_wp2_with (first | ((with_reducible refine gate_callee (f := 8) rfl ?_); refine goesL_ (some 12) rfl rfl Tryd.func8 (by kernel_rfl) rfl #[.string a0] rfl (by (try simp only [List.map_toArray, List.map_cons, List.map_nil]); first | done | rfl | (simp only [List.length_drop, List.length_take]; rfl)) ?_; (with_reducible refine (code_After.calls k a0 t217 true _ A3.out).mono ?_); rintro e w36 ⟨rfl, hb⟩; refine ⟨_, rfl, ?_⟩; have n0_ := Aside0.mk (below_step (by repeat (first | (with_reducible first | exact HB.out | apply below_alloc | apply pw_below_drewN | apply below_drew1) | exact HB.out)) hb); clear HB; have HB := n0_; clear n0_; (try clear hb); (try clear hb2); (try clear hk); (try clear hi)) | ((with_reducible refine gate_callee (f := 9) rfl ?_); refine goesL_ (some 17) rfl rfl Tryd.func9 (by kernel_rfl) rfl #[.string a0] rfl (by (try simp only [List.map_toArray, List.map_cons, List.map_nil]); first | done | rfl | (simp only [List.length_drop, List.length_take]; rfl)) ?_; (with_reducible refine (reefref02_After.calls k a0 t219 t220 _ A4.out).mono ?_); rintro e w37 ⟨rfl, hb⟩; refine ⟨_, rfl, ?_⟩; have n0_ := Aside0.mk (below_step (by repeat (first | (with_reducible first | exact HB.out | apply below_alloc | apply pw_below_drewN | apply below_drew1) | exact HB.out)) hb); clear HB; have HB := n0_; clear n0_; (try clear hb); (try clear hb2); (try clear hk); (try clear hi)) | (go_at_call 10; (with_reducible refine (reeflaw02_awake.calls k  t225 _ A35.out).mono ?_); rintro e w38 ⟨rfl, hb⟩; have n0_ := Aside0.mk (below_step (by repeat (first | (with_reducible first | exact HB.out | apply below_alloc | apply pw_below_drewN | apply below_drew1) | exact HB.out)) hb); clear HB; have HB := n0_; clear n0_; (try clear hb); (try clear hb2); (try clear hk); (try clear hi)))
       go_ret
       exact ⟨by first | rfl | (simp [errW_none, errW_some] <;> rfl) | (simp [*, errW_none, errW_some] <;> rfl), by repeat (first | (with_reducible first | exact HB.out | apply below_alloc | apply pw_below_drewN | apply below_drew1) | exact HB.out)⟩
      ·rw [if_neg c34] at H
       exact absurd H (by simp)
     ·replace c33 := Bool.eq_false_iff.mpr c33
      subst c33
      have H1 : (if (false == true) = true then ((reeflaw02_awake.f k).bind fun t226 => (some t226)) else (none)) = some r := by rw [if_neg (show ¬ (false = true) by decide)] at H; exact H
      clear H
      have H := H1
      clear H1
      by_cases c39 : (false == true) = true
      ·rw [if_pos c39] at H
       have c39b0 : (false == true) = true := c39
       (try (have c39b1 : decide (false = true) = true := by first | decide | exact absurd c39 (by decide)))
       (try (have c39b2 : (false == true) = true := by first | decide | exact absurd c39 (by decide)))
       clear c39
       replace H := Option.bind_eq_some_iff.mp H
       obtain ⟨t226, A400, H⟩ := H
       replace H : (some t226) = some r := H
       have A40 := Aside0.mk A400
       clear A400
       obtain rfl := Option.some.inj H
       go_enter Tryd.func3, Tryd.ntmps3
       go_wp2_with (first | ((with_reducible refine gate_callee (f := 8) rfl ?_); refine goesL_ (some 12) rfl rfl Tryd.func8 (by kernel_rfl) rfl #[.string a0] rfl (by (try simp only [List.map_toArray, List.map_cons, List.map_nil]); first | done | rfl | (simp only [List.length_drop, List.length_take]; rfl)) ?_; (with_reducible refine (code_After.calls k a0 t217 false _ A3.out).mono ?_); rintro e w41 ⟨rfl, hb⟩; refine ⟨_, rfl, ?_⟩; have n0_ := Aside0.mk (below_step (by repeat (first | (with_reducible first | exact HB.out | apply below_alloc | apply pw_below_drewN | apply below_drew1) | exact HB.out)) hb); clear HB; have HB := n0_; clear n0_; (try clear hb); (try clear hb2); (try clear hk); (try clear hi)) | ((with_reducible refine gate_callee (f := 9) rfl ?_); refine goesL_ (some 17) rfl rfl Tryd.func9 (by kernel_rfl) rfl #[.string a0] rfl (by (try simp only [List.map_toArray, List.map_cons, List.map_nil]); first | done | rfl | (simp only [List.length_drop, List.length_take]; rfl)) ?_; (with_reducible refine (reefref02_After.calls k a0 t219 t220 _ A4.out).mono ?_); rintro e w42 ⟨rfl, hb⟩; refine ⟨_, rfl, ?_⟩; have n0_ := Aside0.mk (below_step (by repeat (first | (with_reducible first | exact HB.out | apply below_alloc | apply pw_below_drewN | apply below_drew1) | exact HB.out)) hb); clear HB; have HB := n0_; clear n0_; (try clear hb); (try clear hb2); (try clear hk); (try clear hi)) | (go_at_call 10; (with_reducible refine (reeflaw02_awake.calls k  t226 _ A40.out).mono ?_); rintro e w43 ⟨rfl, hb⟩; have n0_ := Aside0.mk (below_step (by repeat (first | (with_reducible first | exact HB.out | apply below_alloc | apply pw_below_drewN | apply below_drew1) | exact HB.out)) hb); clear HB; have HB := n0_; clear n0_; (try clear hb); (try clear hb2); (try clear hk); (try clear hi)))
       go_ret
       exact ⟨by first | rfl | (simp [errW_none, errW_some] <;> rfl) | (simp [*, errW_none, errW_some] <;> rfl), by repeat (first | (with_reducible first | exact HB.out | apply below_alloc | apply pw_below_drewN | apply below_drew1) | exact HB.out)⟩
      ·rw [if_neg c39] at H
       exact absurd H (by simp)
 ·rw [if_neg c5] at H
  exact absurd H (by simp)

/-- THE ONE PURE STATEMENT of reeflaw02_CodeAfter: yours. -/
def reeflaw02_CodeAfter.Pure : Prop := ∀ (a0 : ByteArray) (a1 : ByteArray), a0.size ≤ 140737488351232 → a1.size ≤ 140737488351232 → ∃ k, reeflaw02_CodeAfter.f k a0 a1 = some true
theorem reeflaw02_CodeAfter.walk (P : reeflaw02_CodeAfter.Pure) (a0 : ByteArray) (a1 : ByteArray) (w : World) (w0 : a0.size ≤ 140737488351232) (w1 : a1.size ≤ 140737488351232) :
  Calls Tryd.prog 3 #[.string a0, .string a1] w fun e w' => e = .returned (.bool true) ∧ Below w.heap.size w w' := by
 obtain ⟨k, h⟩ := P a0 a1 w0 w1
 refine (reeflaw02_CodeAfter.calls k a0 a1 true w h).mono ?_
 rintro e w' ⟨rfl, hd⟩
 exact ⟨rfl, hd⟩

end Go.Proofs.YtcheinjlgojepaaDoor.P
