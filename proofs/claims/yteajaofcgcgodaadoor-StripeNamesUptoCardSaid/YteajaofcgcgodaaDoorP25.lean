-- Printed by gprint.py, a program of this session, over the kit's print.py
import Derived.Test.YteajaofcgcgodaaDoorP0
import Derived.Test.YteajaofcgcgodaaDoorP1
import Derived.Test.YteajaofcgcgodaaDoorP2
import Derived.Test.YteajaofcgcgodaaDoorP4
import Derived.Test.YteajaofcgcgodaaDoorP5
import Derived.Test.YteajaofcgcgodaaDoorFrags
import Derived.Test.YteajaofcgcgodaaDoorItoa
import Derived.Test.YteajaofcgcgodaaDoorLength
import Derived.Test.YteajaofcgcgodaaDoorSizes
namespace Go.Proofs.YteajaofcgcgodaaDoor.P
open Go.RowKit Go.Proofs.YteajaofcgcgodaaDoorW.PrintWords Go.Proofs.YteajaofcgcgodaaDoorW.PrintLast Go.Proofs.YteajaofcgcgodaaDoorW.PrintMore
attribute [local go_sem] max2_int min2_int max_two min_two max_three min_three max_four min_four   -- for this text's walks alone
set_option linter.unusedVariables false
set_option linter.unusedSimpArgs false

attribute [local go_sem high] eqA51
-- GIVEN: function 13 (stripe_Frags)

-- GIVEN: function 16 (stripe_Objects)

-- GIVEN: function 18 (stripe_Length)

-- GIVEN: function 40 (strconv_Itoa_40)

/-! ### stripe_Name: function 32 -/
def stripe_Name.f (k : Nat) (a0 : ByteArray) (a1 : Int) : Option (ByteArray) := (stripe_image.f k a0).bind fun t128 => (if t128 = true then (if a1 < 0 then (some (⟨#[]⟩ : ByteArray)) else (if a1 ≥ 4096 then (some (⟨#[]⟩ : ByteArray)) else (if a0.size + 1 ≤ 9223372036854775807 then ((strconv_Itoa_40.f a1).bind fun t129 => (if (a0 ++ (⟨#[46]⟩ : ByteArray)).size + t129.size ≤ 9223372036854775807 then (some ((a0 ++ (⟨#[46]⟩ : ByteArray)) ++ t129)) else (none))) else (none)))) else (some (⟨#[]⟩ : ByteArray)))
theorem stripe_Name.mono : ∀ a0 a1 k, LeO (stripe_Name.f k a0 a1) (stripe_Name.f (k + 1) a0 a1) := by
 intro a0 a1 k
 unfold stripe_Name.f
 repeat' first
   | (with_reducible exact stripe_image.mono _ _)
   | (with_reducible exact LeO.refl _)
   | (with_reducible exact LeO.none _)
   | (with_reducible refine LeO.ite ?_ ?_)
   | (with_reducible refine LeO.bind ?_ (fun _ => ?_))
   | exact stripe_image.mono _ _
   | exact LeO.none _
   | refine LeO.ite ?_ ?_
   | refine LeO.bind ?_ (fun _ => ?_)
set_option maxHeartbeats 8000000 in
set_option maxRecDepth 100000 in
theorem stripe_Name.calls (k : Nat) (a0 : ByteArray) (a1 : Int) (r : ByteArray) (w : World) (h : stripe_Name.f k a0 a1 = some r) :
  Calls Tryd.prog 32 #[.string a0, .int .i64 a1] w fun e w' => e = .returned (.string r) ∧ Below w.heap.size w w' := by
 have HB := Aside0.mk (Below.refl w.heap.size w)
 have H : ((stripe_image.f k a0).bind fun t128 => (if t128 = true then (if a1 < 0 then (some (⟨#[]⟩ : ByteArray)) else (if a1 ≥ 4096 then (some (⟨#[]⟩ : ByteArray)) else (if a0.size + 1 ≤ 9223372036854775807 then ((strconv_Itoa_40.f a1).bind fun t129 => (if (a0 ++ (⟨#[46]⟩ : ByteArray)).size + t129.size ≤ 9223372036854775807 then (some ((a0 ++ (⟨#[46]⟩ : ByteArray)) ++ t129)) else (none))) else (none)))) else (some (⟨#[]⟩ : ByteArray)))) = some r := h
 clear h
 replace H := Option.bind_eq_some_iff.mp H
 obtain ⟨t128, A30, H⟩ := H
 replace H : (if t128 = true then (if a1 < 0 then (some (⟨#[]⟩ : ByteArray)) else (if a1 ≥ 4096 then (some (⟨#[]⟩ : ByteArray)) else (if a0.size + 1 ≤ 9223372036854775807 then ((strconv_Itoa_40.f a1).bind fun t129 => (if (a0 ++ (⟨#[46]⟩ : ByteArray)).size + t129.size ≤ 9223372036854775807 then (some ((a0 ++ (⟨#[46]⟩ : ByteArray)) ++ t129)) else (none))) else (none)))) else (some (⟨#[]⟩ : ByteArray))) = some r := H
 have A3 := Aside0.mk A30
 clear A30
 by_cases c4 : t128 = true
 ·subst c4
  have H1 : (if a1 < 0 then (some (⟨#[]⟩ : ByteArray)) else (if a1 ≥ 4096 then (some (⟨#[]⟩ : ByteArray)) else (if a0.size + 1 ≤ 9223372036854775807 then ((strconv_Itoa_40.f a1).bind fun t129 => (if (a0 ++ (⟨#[46]⟩ : ByteArray)).size + t129.size ≤ 9223372036854775807 then (some ((a0 ++ (⟨#[46]⟩ : ByteArray)) ++ t129)) else (none))) else (none)))) = some r := by rw [if_pos rfl] at H; exact H
  clear H
  have H := H1
  clear H1
  by_cases c5 : a1 < 0
  ·rw [if_pos c5] at H
   have c5b0 : decide (a1 < 0) = true := decide_eq_true c5
   clear c5
   obtain rfl := Option.some.inj H
   go_enter Tryd.func32, Tryd.ntmps32
   go_wp2_with (first | ((with_reducible refine gate_callee (f := 39) rfl ?_); refine goesL_ (some 6) rfl rfl Tryd.func39 (by kernel_rfl) rfl #[.string a0] rfl (by (try simp only [List.map_toArray, List.map_cons, List.map_nil]); first | done | rfl | (simp only [List.length_drop, List.length_take]; rfl)) ?_; (with_reducible refine (stripe_image.calls k a0 true _ A3.out).mono ?_); rintro e w' ⟨rfl, ⟨nd, rfl⟩⟩; refine ⟨_, rfl, ?_⟩))
   go_ret
   exact ⟨by first | rfl | (simp [errW_none, errW_some] <;> rfl) | (simp [*, errW_none, errW_some] <;> rfl), by repeat (first | (with_reducible first | exact HB.out | apply below_alloc | apply pw_below_drewN | apply below_drew1) | exact HB.out)⟩
  ·rw [if_neg c5] at H
   have c5b0 : decide (a1 < 0) = false := decide_eq_false c5
   clear c5
   by_cases c6 : a1 ≥ 4096
   ·rw [if_pos c6] at H
    have c6b0 : decide (4096 ≤ a1) = true := decide_eq_true c6
    clear c6
    obtain rfl := Option.some.inj H
    go_enter Tryd.func32, Tryd.ntmps32
    go_wp2_with (first | ((with_reducible refine gate_callee (f := 39) rfl ?_); refine goesL_ (some 6) rfl rfl Tryd.func39 (by kernel_rfl) rfl #[.string a0] rfl (by (try simp only [List.map_toArray, List.map_cons, List.map_nil]); first | done | rfl | (simp only [List.length_drop, List.length_take]; rfl)) ?_; (with_reducible refine (stripe_image.calls k a0 true _ A3.out).mono ?_); rintro e w' ⟨rfl, ⟨nd, rfl⟩⟩; refine ⟨_, rfl, ?_⟩))
    go_ret
    exact ⟨by first | rfl | (simp [errW_none, errW_some] <;> rfl) | (simp [*, errW_none, errW_some] <;> rfl), by repeat (first | (with_reducible first | exact HB.out | apply below_alloc | apply pw_below_drewN | apply below_drew1) | exact HB.out)⟩
   ·rw [if_neg c6] at H
    have c6b0 : decide (4096 ≤ a1) = false := decide_eq_false c6
    clear c6
    by_cases c7 : a0.size + 1 ≤ 9223372036854775807
    ·rw [if_pos c7] at H
     have c7b0 := eq_true c7
     have c7b1 : decide (a0.size + 1 ≤ 9223372036854775807) = true := decide_eq_true c7
     try have c7b2 : (9223372036854775807 < a0.size + 1) = False := eq_false (Nat.not_lt.2 c7)
     replace H := Option.bind_eq_some_iff.mp H
     obtain ⟨t129, A80, H⟩ := H
     replace H : (if (a0 ++ (⟨#[46]⟩ : ByteArray)).size + t129.size ≤ 9223372036854775807 then (some ((a0 ++ (⟨#[46]⟩ : ByteArray)) ++ t129)) else (none)) = some r := H
     have A8 := Aside0.mk A80
     clear A80
     by_cases c9 : (a0 ++ (⟨#[46]⟩ : ByteArray)).size + t129.size ≤ 9223372036854775807
     ·rw [if_pos c9] at H
      have c9b0 := eq_true c9
      have c9b1 : decide ((a0 ++ (⟨#[46]⟩ : ByteArray)).size + t129.size ≤ 9223372036854775807) = true := decide_eq_true c9
      try have c9b2 : (9223372036854775807 < (a0 ++ (⟨#[46]⟩ : ByteArray)).size + t129.size) = False := eq_false (Nat.not_lt.2 c9)
      try
       have c9s := c9
       simp only [ByteArray.size_append, show (⟨#[46]⟩ : ByteArray).size = 1 from rfl] at c9s
       have c9s0 := eq_true c9s
       have c9s1 := decide_eq_true c9s
       have c9s2 := eq_false (Nat.not_lt.2 c9s)
      obtain rfl := Option.some.inj H
      go_enter Tryd.func32, Tryd.ntmps32
      go_wp2_with (first | ((with_reducible refine gate_callee (f := 39) rfl ?_); refine goesL_ (some 6) rfl rfl Tryd.func39 (by kernel_rfl) rfl #[.string a0] rfl (by (try simp only [List.map_toArray, List.map_cons, List.map_nil]); first | done | rfl | (simp only [List.length_drop, List.length_take]; rfl)) ?_; (with_reducible refine (stripe_image.calls k a0 true _ A3.out).mono ?_); rintro e w' ⟨rfl, ⟨nd, rfl⟩⟩; refine ⟨_, rfl, ?_⟩) | ((with_reducible refine gate_callee (f := 40) rfl ?_); refine goesL_ (some 19) rfl rfl Tryd.func40 (by kernel_rfl) rfl #[.int .i64 a1] rfl (by (try simp only [List.map_toArray, List.map_cons, List.map_nil]); first | done | rfl | (simp only [List.length_drop, List.length_take]; rfl)) ?_; (with_reducible refine (strconv_Itoa_40.calls a1 t129 _ A8.out).mono ?_); rintro e w10 ⟨rfl, hb⟩; refine ⟨_, rfl, ?_⟩; have n0_ := Aside0.mk (below_step (by repeat (first | (with_reducible first | exact HB.out | apply below_alloc | apply pw_below_drewN | apply below_drew1) | exact HB.out)) hb); clear HB; have HB := n0_; clear n0_; (try clear hb); (try clear hb2); (try clear hk); (try clear hi)))
      go_ret
      exact ⟨by first | rfl | (simp [errW_none, errW_some] <;> rfl) | (simp [*, errW_none, errW_some] <;> rfl), by repeat (first | (with_reducible first | exact HB.out | apply below_alloc | apply pw_below_drewN | apply below_drew1) | exact HB.out)⟩
     ·rw [if_neg c9] at H
      exact absurd H (by simp)
    ·rw [if_neg c7] at H
     exact absurd H (by simp)
 ·replace c4 := Bool.eq_false_iff.mpr c4
  subst c4
  have H1 : (some (⟨#[]⟩ : ByteArray)) = some r := by rw [if_neg (show ¬ (false = true) by decide)] at H; exact H
  clear H
  have H := H1
  clear H1
  obtain rfl := Option.some.inj H
  go_enter Tryd.func32, Tryd.ntmps32
  go_wp2_with (first | ((with_reducible refine gate_callee (f := 39) rfl ?_); refine goesL_ (some 6) rfl rfl Tryd.func39 (by kernel_rfl) rfl #[.string a0] rfl (by (try simp only [List.map_toArray, List.map_cons, List.map_nil]); first | done | rfl | (simp only [List.length_drop, List.length_take]; rfl)) ?_; (with_reducible refine (stripe_image.calls k a0 false _ A3.out).mono ?_); rintro e w' ⟨rfl, ⟨nd, rfl⟩⟩; refine ⟨_, rfl, ?_⟩))
  go_ret
  exact ⟨by first | rfl | (simp [errW_none, errW_some] <;> rfl) | (simp [*, errW_none, errW_some] <;> rfl), by repeat (first | (with_reducible first | exact HB.out | apply below_alloc | apply pw_below_drewN | apply below_drew1) | exact HB.out)⟩

/-! ### reeflaw28_awake: function 12 -/
def reeflaw28_awake.f (k : Nat)  : Option (Bool) := (stripe_Frags.f 4 2 8 2 8).bind fun bt131 => ((stripe_Place.f 4 2 8 9).bind fun bt135 => (if bt131.2 = 0 then (if (bt131.1.length : Int) = 3 then (if 1 < (bt131.1.length : Int) then (if (((rd_T51 bt131.1 1).f0) == 1 && (((rd_T51 bt131.1 1).f1) == 0 && (((rd_T51 bt131.1 1).f2) == 4 && (((rd_T51 bt131.1 1).f3) == 2)))) = true then (if bt135.1 = 0 then (if bt135.2 = 5 then ((stripe_Objects.f 4 2 8 17).bind fun t138 => (if t138 = 3 then ((stripe_Length.f 4 2 8 17 2).bind fun t139 => (if t139 = 1 then ((stripe_Name.f k (⟨#[97]⟩ : ByteArray) 7).bind fun t140 => (if t140.toList = ([97, 46, 55] : List UInt8) then ((stripe_Fit.f 4 2 8).bind fun t141 => (some t141)) else (none))) else (none))) else (none))) else (none)) else (none)) else (none)) else (none)) else (none)) else (none)))
theorem reeflaw28_awake.mono : ∀ k, LeO (reeflaw28_awake.f k ) (reeflaw28_awake.f (k + 1) ) := by
 intro  k
 unfold reeflaw28_awake.f
 repeat' first
   | (with_reducible exact stripe_Name.mono _ _ _)
   | (with_reducible exact LeO.refl _)
   | (with_reducible exact LeO.none _)
   | (with_reducible refine LeO.ite ?_ ?_)
   | (with_reducible refine LeO.bind ?_ (fun _ => ?_))
   | exact stripe_Name.mono _ _ _
   | exact LeO.none _
   | refine LeO.ite ?_ ?_
   | refine LeO.bind ?_ (fun _ => ?_)
set_option maxHeartbeats 8000000 in
set_option maxRecDepth 100000 in
theorem reeflaw28_awake.calls (k : Nat)  (r : Bool) (w : World) (h : reeflaw28_awake.f k  = some r) :
  Calls Tryd.prog 12 #[] w fun e w' => e = .returned (.bool r) ∧ Below w.heap.size w w' := by
 have hu23 := Tryd.underlying23
 have hu51 := Tryd.underlying51
 have HB := Aside0.mk (Below.refl w.heap.size w)
 have H : ((stripe_Frags.f 4 2 8 2 8).bind fun bt131 => ((stripe_Place.f 4 2 8 9).bind fun bt135 => (if bt131.2 = 0 then (if (bt131.1.length : Int) = 3 then (if 1 < (bt131.1.length : Int) then (if (((rd_T51 bt131.1 1).f0) == 1 && (((rd_T51 bt131.1 1).f1) == 0 && (((rd_T51 bt131.1 1).f2) == 4 && (((rd_T51 bt131.1 1).f3) == 2)))) = true then (if bt135.1 = 0 then (if bt135.2 = 5 then ((stripe_Objects.f 4 2 8 17).bind fun t138 => (if t138 = 3 then ((stripe_Length.f 4 2 8 17 2).bind fun t139 => (if t139 = 1 then ((stripe_Name.f k (⟨#[97]⟩ : ByteArray) 7).bind fun t140 => (if t140.toList = ([97, 46, 55] : List UInt8) then ((stripe_Fit.f 4 2 8).bind fun t141 => (some t141)) else (none))) else (none))) else (none))) else (none)) else (none)) else (none)) else (none)) else (none)) else (none)))) = some r := h
 clear h
 replace H := Option.bind_eq_some_iff.mp H
 obtain ⟨⟨t131, t134⟩, A10, H⟩ := H
 replace H : ((stripe_Place.f 4 2 8 9).bind fun bt135 => (if t134 = 0 then (if (t131.length : Int) = 3 then (if 1 < (t131.length : Int) then (if (((rd_T51 t131 1).f0) == 1 && (((rd_T51 t131 1).f1) == 0 && (((rd_T51 t131 1).f2) == 4 && (((rd_T51 t131 1).f3) == 2)))) = true then (if bt135.1 = 0 then (if bt135.2 = 5 then ((stripe_Objects.f 4 2 8 17).bind fun t138 => (if t138 = 3 then ((stripe_Length.f 4 2 8 17 2).bind fun t139 => (if t139 = 1 then ((stripe_Name.f k (⟨#[97]⟩ : ByteArray) 7).bind fun t140 => (if t140.toList = ([97, 46, 55] : List UInt8) then ((stripe_Fit.f 4 2 8).bind fun t141 => (some t141)) else (none))) else (none))) else (none))) else (none)) else (none)) else (none)) else (none)) else (none)) else (none))) = some r := H
 have A1 := Aside0.mk A10
 clear A10
 replace H := Option.bind_eq_some_iff.mp H
 obtain ⟨⟨t135, t136⟩, A20, H⟩ := H
 replace H : (if t134 = 0 then (if (t131.length : Int) = 3 then (if 1 < (t131.length : Int) then (if (((rd_T51 t131 1).f0) == 1 && (((rd_T51 t131 1).f1) == 0 && (((rd_T51 t131 1).f2) == 4 && (((rd_T51 t131 1).f3) == 2)))) = true then (if t135 = 0 then (if t136 = 5 then ((stripe_Objects.f 4 2 8 17).bind fun t138 => (if t138 = 3 then ((stripe_Length.f 4 2 8 17 2).bind fun t139 => (if t139 = 1 then ((stripe_Name.f k (⟨#[97]⟩ : ByteArray) 7).bind fun t140 => (if t140.toList = ([97, 46, 55] : List UInt8) then ((stripe_Fit.f 4 2 8).bind fun t141 => (some t141)) else (none))) else (none))) else (none))) else (none)) else (none)) else (none)) else (none)) else (none)) else (none)) = some r := H
 have A2 := Aside0.mk A20
 clear A20
 by_cases c3 : t134 = 0
 ·rw [if_pos c3] at H
  have c3b0 : (t134 == 0) = true := beq_iff_eq.mpr c3
  have c3b1 : (t134 != 0) = false := bne_eq_false_iff_eq.mpr c3
  clear c3
  by_cases c4 : (t131.length : Int) = 3
  ·rw [if_pos c4] at H
   have c4b0 : ((t131.length : Int) == 3) = true := beq_iff_eq.mpr c4
   have c4b1 : ((t131.length : Int) != 3) = false := bne_eq_false_iff_eq.mpr c4
   clear c4
   by_cases c5 : 1 < (t131.length : Int)
   ·rw [if_pos c5] at H
    have c5b0 : decide (1 < (t131.length : Int)) = true := decide_eq_true c5
    have c5b1 : decide (1 < t131.length) = true := decide_eq_true (by omega)
    clear c5
    by_cases c6 : (((rd_T51 t131 1).f0) == 1 && (((rd_T51 t131 1).f1) == 0 && (((rd_T51 t131 1).f2) == 4 && (((rd_T51 t131 1).f3) == 2)))) = true
    ·rw [if_pos c6] at H
     have c6b0 : (((rd_T51 t131 1).f0) == 1 && (((rd_T51 t131 1).f1) == 0 && (((rd_T51 t131 1).f2) == 4 && (((rd_T51 t131 1).f3) == 2)))) = true := c6
     (try (have c6b1 : decide (((rd_T51 t131 1).f0) = 1 && (((rd_T51 t131 1).f1) == 0 && (((rd_T51 t131 1).f2) == 4 && (((rd_T51 t131 1).f3) == 2)))) = true := by simpa using c6))
     (try (have c6b2 : (((rd_T51 t131 1).f0) == 1 && (((rd_T51 t131 1).f1) == 0 && (((rd_T51 t131 1).f2) == 4 && (((rd_T51 t131 1).f3) == 2)))) = true := by simpa using c6))
     clear c6
     by_cases c7 : t135 = 0
     ·rw [if_pos c7] at H
      have c7b0 : (t135 == 0) = true := beq_iff_eq.mpr c7
      have c7b1 : (t135 != 0) = false := bne_eq_false_iff_eq.mpr c7
      clear c7
      by_cases c8 : t136 = 5
      ·rw [if_pos c8] at H
       have c8b0 : (t136 == 5) = true := beq_iff_eq.mpr c8
       have c8b1 : (t136 != 5) = false := bne_eq_false_iff_eq.mpr c8
       clear c8
       replace H := Option.bind_eq_some_iff.mp H
       obtain ⟨t138, A90, H⟩ := H
       replace H : (if t138 = 3 then ((stripe_Length.f 4 2 8 17 2).bind fun t139 => (if t139 = 1 then ((stripe_Name.f k (⟨#[97]⟩ : ByteArray) 7).bind fun t140 => (if t140.toList = ([97, 46, 55] : List UInt8) then ((stripe_Fit.f 4 2 8).bind fun t141 => (some t141)) else (none))) else (none))) else (none)) = some r := H
       have A9 := Aside0.mk A90
       clear A90
       by_cases c10 : t138 = 3
       ·rw [if_pos c10] at H
        have c10b0 : (t138 == 3) = true := beq_iff_eq.mpr c10
        have c10b1 : (t138 != 3) = false := bne_eq_false_iff_eq.mpr c10
        clear c10
        replace H := Option.bind_eq_some_iff.mp H
        obtain ⟨t139, A110, H⟩ := H
        replace H : (if t139 = 1 then ((stripe_Name.f k (⟨#[97]⟩ : ByteArray) 7).bind fun t140 => (if t140.toList = ([97, 46, 55] : List UInt8) then ((stripe_Fit.f 4 2 8).bind fun t141 => (some t141)) else (none))) else (none)) = some r := H
        have A11 := Aside0.mk A110
        clear A110
        by_cases c12 : t139 = 1
        ·rw [if_pos c12] at H
         have c12b0 : (t139 == 1) = true := beq_iff_eq.mpr c12
         have c12b1 : (t139 != 1) = false := bne_eq_false_iff_eq.mpr c12
         clear c12
         replace H := Option.bind_eq_some_iff.mp H
         obtain ⟨t140, A130, H⟩ := H
         replace H : (if t140.toList = ([97, 46, 55] : List UInt8) then ((stripe_Fit.f 4 2 8).bind fun t141 => (some t141)) else (none)) = some r := H
         have A13 := Aside0.mk A130
         clear A130
         by_cases c14 : t140.toList = ([97, 46, 55] : List UInt8)
         ·rw [if_pos c14] at H
          have c14b0 : (t140.toList == ([97, 46, 55] : List UInt8)) = true := beq_iff_eq.mpr c14
          have c14b1 : (t140.toList != ([97, 46, 55] : List UInt8)) = false := bne_eq_false_iff_eq.mpr c14
          clear c14
          replace H := Option.bind_eq_some_iff.mp H
          obtain ⟨t141, A150, H⟩ := H
          replace H : (some t141) = some r := H
          have A15 := Aside0.mk A150
          clear A150
          obtain rfl := Option.some.inj H
          go_enter Tryd.func12, Tryd.ntmps12
          go_wp2_with (first | ((with_reducible refine gate_dst (N := 1) rfl ?_); (try (refine gate_guard (by rfl) ?_; dsimp only)); refine box_event ?hg (N := 1) ?hd (cs := #[.int .i64 0, .int .i64 0, .int .i64 0]) (t := 23) ?hr ?_; (case hd => rfl); (case hg => rfl); (case hr => first | (go_simp; done) | (go_simp; rfl)); intro gb130 hg w16 hbox hb; have n0_ := Aside0.mk (below_step (by repeat (first | (with_reducible first | exact HB.out | apply below_alloc | apply pw_below_drewN | apply below_drew1) | exact HB.out)) hb); have n1_ := Aside0.mk (hbox); have n2_ := Aside0.mk ((by rw [hg]; exact (below_size (by repeat (first | (with_reducible first | exact HB.out | apply below_alloc | apply pw_below_drewN | apply below_drew1) | exact HB.out))) : w.heap.size ≤ gb130)); have n3_ := n2_; clear HB; have HB := n0_; have BK130 := n1_; have GW130 := n2_; have GE130 := n3_; clear n0_ n1_ n2_ n3_; clear hb hbox hg; obtain ⟨hcz17_0, hcz17_1, hcz17_2⟩ := blkC3 w16 gb130 (.int .i64 0) (.int .i64 0) (.int .i64 0) BK130.out; obtain ⟨hfz17_0, hfz17_1, hfz17_2⟩ := blkF3 BK130.out) | ((with_reducible refine gate_callee (f := 13) rfl ?_); refine goesL_ (some 9) rfl rfl Tryd.func13 (by kernel_rfl) rfl #[.agg #[.int .i64 4, .int .i64 2, .int .i64 8], .int .i64 2, .int .i64 8] rfl (by (try simp only [List.map_toArray, List.map_cons, List.map_nil]); first | done | rfl | (simp only [List.length_drop, List.length_take]; rfl)) ?_; (with_reducible refine (stripe_Frags.calls 4 2 8 2 8 t131 t134 _ A1.out).mono ?_); rintro e w18 ⟨v132, rfl, ho0, hb⟩; refine ⟨_, rfl, ?_⟩; have n0_ := Aside0.mk (Kd.R_lower ho0 (below_size (by repeat (first | (with_reducible first | exact HB.out | apply below_alloc | apply pw_below_drewN | apply below_drew1 | refine below_set ?_ GE130.out) | exact HB.out)))); have n1_ := Aside0.mk (blk_below (g := gb130) (o := .cells #[.int .i64 4, .int .i64 2, .int .i64 8] 23 (0, 0)) (by (with_reducible repeat (first | apply bN | apply bD | apply bA)); refine blk_put (cs := #[.int .i64 4, .int .i64 2, .int .i64 0]) ?_ 2 _ rfl; (with_reducible repeat (first | apply bN | apply bD | apply bA)); refine blk_put (cs := #[.int .i64 4, .int .i64 0, .int .i64 0]) ?_ 1 _ rfl; (with_reducible repeat (first | apply bN | apply bD | apply bA)); refine blk_put (cs := #[.int .i64 0, .int .i64 0, .int .i64 0]) ?_ 0 _ rfl; (with_reducible repeat (first | apply bN | apply bD | apply bA)); exact BK130.out) hb); have n2_ := Aside0.mk (below_step (by repeat (first | (with_reducible first | exact HB.out | apply below_alloc | apply pw_below_drewN | apply below_drew1 | refine below_set ?_ GE130.out) | exact HB.out)) hb); clear BK130; clear HB; have HO133 := n0_; have BK130 := n1_; have HB := n2_; clear n0_ n1_ n2_; (try clear hb); (try clear hb2); (try clear hk); (try clear hi); (try clear ho0); obtain ⟨hcz19_0, hcz19_1, hcz19_2⟩ := blkC3 w18 gb130 (.int .i64 4) (.int .i64 2) (.int .i64 8) BK130.out; obtain ⟨hfz19_0, hfz19_1, hfz19_2⟩ := blkF3 BK130.out) | ((with_reducible refine gate_callee (f := 21) rfl ?_); refine goesL_ (some 14) rfl rfl Tryd.func21 (by kernel_rfl) rfl #[.agg #[.int .i64 4, .int .i64 2, .int .i64 8], .int .i64 9] rfl (by (try simp only [List.map_toArray, List.map_cons, List.map_nil]); first | done | rfl | (simp only [List.length_drop, List.length_take]; rfl)) ?_; (with_reducible refine (stripe_Place.calls 4 2 8 9 t135 t136 _ A2.out).mono ?_); rintro e w20 ⟨rfl, hb⟩; refine ⟨_, rfl, ?_⟩; have n0_ := Aside0.mk (Kd.R_below (by (with_reducible repeat (first | apply Kd.R_alloc | apply Kd.R_drewN | apply Kd.R_drew)); exact HO133.out) hb); have n1_ := Aside0.mk (blk_below (g := gb130) (o := .cells #[.int .i64 4, .int .i64 2, .int .i64 8] 23 (0, 0)) (by (with_reducible repeat (first | apply bN | apply bD | apply bA)); exact BK130.out) hb); have n2_ := Aside0.mk (below_step (by repeat (first | (with_reducible first | exact HB.out | apply below_alloc | apply pw_below_drewN | apply below_drew1 | refine below_set ?_ GE130.out) | exact HB.out)) hb); clear HO133; clear BK130; clear HB; have HO133 := n0_; have BK130 := n1_; have HB := n2_; clear n0_ n1_ n2_; (try clear hb); (try clear hb2); (try clear hk); (try clear hi); obtain ⟨Ao21, co21, eo21⟩ := Kd.R_slice HO133.out; subst eo21; have p137 : 0 ≤ (1 : Int) := (by omega); have q137 : 1 < (t131.length : Int) := of_decide_eq_true (by first | (with_reducible assumption) | assumption); obtain ⟨ad137, e137, hx137_0, hx137_1, hx137_2, hx137_3⟩ := at_T51 (Kd.R_reads' HO133.out).2.2 1 p137 q137; cases e137; (try simp only [show (1 : Int).toNat = 1 from rfl, Nat.reduceMul, Nat.reduceEqDiff, Go.Addr.add, ↓reduceIte] at hx137_0); (try simp only [show (1 : Int).toNat = 1 from rfl, Nat.reduceMul, Nat.reduceEqDiff, Go.Addr.add, ↓reduceIte] at hx137_1); (try simp only [show (1 : Int).toNat = 1 from rfl, Nat.reduceMul, Nat.reduceEqDiff, Go.Addr.add, ↓reduceIte] at hx137_2); (try simp only [show (1 : Int).toNat = 1 from rfl, Nat.reduceMul, Nat.reduceEqDiff, Go.Addr.add, ↓reduceIte] at hx137_3); have qi137 : (1 < t131.length) = True := eq_true (by omega); (try rw [show ((1 : Int)).toNat = 1 from rfl] at hx137_0); (try rw [show 1 * 4 = 4 from rfl] at hx137_0); (try rw [show ((1 : Int)).toNat = 1 from rfl] at hx137_1); (try rw [show 1 * 4 = 4 from rfl] at hx137_1); (try rw [show ((1 : Int)).toNat = 1 from rfl] at hx137_2); (try rw [show 1 * 4 = 4 from rfl] at hx137_2); (try rw [show ((1 : Int)).toNat = 1 from rfl] at hx137_3); (try rw [show 1 * 4 = 4 from rfl] at hx137_3); replace p137 := eq_true p137; replace q137 := eq_true q137; obtain ⟨hcz22_0, hcz22_1, hcz22_2⟩ := blkC3 w20 gb130 (.int .i64 4) (.int .i64 2) (.int .i64 8) BK130.out; obtain ⟨hfz22_0, hfz22_1, hfz22_2⟩ := blkF3 BK130.out) | (go_at_call 16; (with_reducible refine (stripe_Objects.calls 4 2 8 17 t138 _ A9.out).mono ?_); rintro e w23 ⟨rfl, hb⟩; have n0_ := Aside0.mk (Kd.R_below (by (with_reducible repeat (first | apply Kd.R_alloc | apply Kd.R_drewN | apply Kd.R_drew)); exact HO133.out) hb); have n1_ := Aside0.mk (blk_below (g := gb130) (o := .cells #[.int .i64 4, .int .i64 2, .int .i64 8] 23 (0, 0)) (by (with_reducible repeat (first | apply bN | apply bD | apply bA)); exact BK130.out) hb); have n2_ := Aside0.mk (below_step (by repeat (first | (with_reducible first | exact HB.out | apply below_alloc | apply pw_below_drewN | apply below_drew1 | refine below_set ?_ GE130.out) | exact HB.out)) hb); clear HO133; clear BK130; clear HB; have HO133 := n0_; have BK130 := n1_; have HB := n2_; clear n0_ n1_ n2_; (try clear hb); (try clear hb2); (try clear hk); (try clear hi); obtain ⟨hcz24_0, hcz24_1, hcz24_2⟩ := blkC3 w23 gb130 (.int .i64 4) (.int .i64 2) (.int .i64 8) BK130.out; obtain ⟨hfz24_0, hfz24_1, hfz24_2⟩ := blkF3 BK130.out) | (go_at_call 18; (with_reducible refine (stripe_Length.calls 4 2 8 17 2 t139 _ A11.out).mono ?_); rintro e w25 ⟨rfl, hb⟩; have n0_ := Aside0.mk (Kd.R_below (by (with_reducible repeat (first | apply Kd.R_alloc | apply Kd.R_drewN | apply Kd.R_drew)); exact HO133.out) hb); have n1_ := Aside0.mk (blk_below (g := gb130) (o := .cells #[.int .i64 4, .int .i64 2, .int .i64 8] 23 (0, 0)) (by (with_reducible repeat (first | apply bN | apply bD | apply bA)); exact BK130.out) hb); have n2_ := Aside0.mk (below_step (by repeat (first | (with_reducible first | exact HB.out | apply below_alloc | apply pw_below_drewN | apply below_drew1 | refine below_set ?_ GE130.out) | exact HB.out)) hb); clear HO133; clear BK130; clear HB; have HO133 := n0_; have BK130 := n1_; have HB := n2_; clear n0_ n1_ n2_; (try clear hb); (try clear hb2); (try clear hk); (try clear hi)) | (go_at_call 32; (with_reducible refine (stripe_Name.calls k (⟨#[97]⟩ : ByteArray) 7 t140 _ A13.out).mono ?_); rintro e w26 ⟨rfl, hb⟩; have n0_ := Aside0.mk (Kd.R_below (by (with_reducible repeat (first | apply Kd.R_alloc | apply Kd.R_drewN | apply Kd.R_drew)); exact HO133.out) hb); have n1_ := Aside0.mk (blk_below (g := gb130) (o := .cells #[.int .i64 4, .int .i64 2, .int .i64 8] 23 (0, 0)) (by (with_reducible repeat (first | apply bN | apply bD | apply bA)); exact BK130.out) hb); have n2_ := Aside0.mk (below_step (by repeat (first | (with_reducible first | exact HB.out | apply below_alloc | apply pw_below_drewN | apply below_drew1 | refine below_set ?_ GE130.out) | exact HB.out)) hb); clear HO133; clear BK130; clear HB; have HO133 := n0_; have BK130 := n1_; have HB := n2_; clear n0_ n1_ n2_; (try clear hb); (try clear hb2); (try clear hk); (try clear hi); obtain ⟨hcz27_0, hcz27_1, hcz27_2⟩ := blkC3 w26 gb130 (.int .i64 4) (.int .i64 2) (.int .i64 8) BK130.out; obtain ⟨hfz27_0, hfz27_1, hfz27_2⟩ := blkF3 BK130.out) | (go_at_call 20; (with_reducible refine (stripe_Fit.calls 4 2 8 t141 _ A15.out).mono ?_); rintro e w28 ⟨rfl, hb⟩; have n0_ := Aside0.mk (Kd.R_below (by (with_reducible repeat (first | apply Kd.R_alloc | apply Kd.R_drewN | apply Kd.R_drew)); exact HO133.out) hb); have n1_ := Aside0.mk (blk_below (g := gb130) (o := .cells #[.int .i64 4, .int .i64 2, .int .i64 8] 23 (0, 0)) (by (with_reducible repeat (first | apply bN | apply bD | apply bA)); exact BK130.out) hb); have n2_ := Aside0.mk (below_step (by repeat (first | (with_reducible first | exact HB.out | apply below_alloc | apply pw_below_drewN | apply below_drew1 | refine below_set ?_ GE130.out) | exact HB.out)) hb); clear HO133; clear BK130; clear HB; have HO133 := n0_; have BK130 := n1_; have HB := n2_; clear n0_ n1_ n2_; (try clear hb); (try clear hb2); (try clear hk); (try clear hi)))
          go_ret
          exact ⟨by first | rfl | (simp [errW_none, errW_some] <;> rfl) | (simp [*, errW_none, errW_some] <;> rfl), by repeat (first | (with_reducible first | exact HB.out | apply below_alloc | apply pw_below_drewN | apply below_drew1 | refine below_set ?_ GE130.out) | exact HB.out)⟩
         ·rw [if_neg c14] at H
          exact absurd H (by simp)
        ·rw [if_neg c12] at H
         exact absurd H (by simp)
       ·rw [if_neg c10] at H
        exact absurd H (by simp)
      ·rw [if_neg c8] at H
       exact absurd H (by simp)
     ·rw [if_neg c7] at H
      exact absurd H (by simp)
    ·rw [if_neg c6] at H
     exact absurd H (by simp)
   ·rw [if_neg c5] at H
    exact absurd H (by simp)
  ·rw [if_neg c4] at H
   exact absurd H (by simp)
 ·rw [if_neg c3] at H
  exact absurd H (by simp)

end Go.Proofs.YteajaofcgcgodaaDoor.P
