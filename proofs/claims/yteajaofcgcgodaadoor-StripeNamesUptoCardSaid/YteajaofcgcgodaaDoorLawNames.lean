/- The law StripeNames: printed by gprint.py, under what is laid (names28.py). -/
import Derived.Test.YteajaofcgcgodaaDoorP0
import Derived.Test.YteajaofcgcgodaaDoorP25
import Derived.Test.YteajaofcgcgodaaDoorRefParse
namespace Go.Proofs.YteajaofcgcgodaaDoor.P
open Go.RowKit Go.Proofs.YteajaofcgcgodaaDoorW.PrintWords Go.Proofs.YteajaofcgcgodaaDoorW.PrintLast Go.Proofs.YteajaofcgcgodaaDoorW.PrintMore
attribute [local go_sem] max2_int min2_int max_two min_two max_three min_three max_four min_four   -- for this text's walks alone
set_option linter.unusedVariables false
set_option linter.unusedSimpArgs false

/-! ### reeflaw28_StripeNames: function 10 -/
def reeflaw28_StripeNames.j0 : Nat → ByteArray → Int → ByteArray → Bool → Option (Bool)
 | 0, _, _, _, _ => none
 | k + 1, x0, x1, x13, x51 => if x51 = true then (none) else (if x13.toList = ([] : List UInt8) then ((reeflaw28_awake.f k).bind fun t320 => (some t320)) else ((stripe_ParseL.f x13).bind fun bt321 => (if bt321.2.2 = true then (if bt321.1.toList = x0.toList then (if bt321.2.1 = x1 then ((reeflaw28_awake.f k).bind fun t324 => (some t324)) else (none)) else (none)) else (none))))
def reeflaw28_StripeNames.f (k : Nat) (a0 : ByteArray) (a1 : Int) (a2 : ByteArray) : Option (Bool) := (stripe_ParseL.f a2).bind fun bt312 => ((reefref28_ParseL.f k a2).bind fun bt315 => ((stripe_NameL.f a0 a1).bind fun t318 => (if bt312.1.toList = bt315.1.toList then (if bt312.2.1 = bt315.2.1 then (if (bt312.2.2 != bt315.2.2) = true then (none) else ((reefref28_NameL.f a0 a1).bind fun t319 => (reeflaw28_StripeNames.j0 k a0 a1 t318 (t318.toList != t319.toList)))) else (none)) else (none))))
theorem reeflaw28_StripeNames.mono_l : ∀ k, (∀ y0 y1 y2 y3, LeO (reeflaw28_StripeNames.j0 k y0 y1 y2 y3) (reeflaw28_StripeNames.j0 (k + 1) y0 y1 y2 y3))
 | 0 => fun _ _ _ _ r h => by simp [reeflaw28_StripeNames.j0] at h
 | k + 1 => by
  have ih0 := reeflaw28_StripeNames.mono_l k
  ·intro y0 y1 y2 y3
   unfold reeflaw28_StripeNames.j0
   repeat' first
   | (with_reducible exact ih0 _ _ _ _)
   | (with_reducible exact reeflaw28_awake.mono _)
   | (with_reducible exact reefref28_ParseL.mono _ _)
   | (with_reducible exact LeO.refl _)
   | (with_reducible exact LeO.none _)
   | (with_reducible refine LeO.ite ?_ ?_)
   | (with_reducible refine LeO.bind ?_ (fun _ => ?_))
   | exact ih0 _ _ _ _
   | exact reeflaw28_awake.mono _
   | exact reefref28_ParseL.mono _ _
   | exact LeO.none _
   | refine LeO.ite ?_ ?_
   | refine LeO.bind ?_ (fun _ => ?_)
theorem reeflaw28_StripeNames.mono : ∀ a0 a1 a2 k, LeO (reeflaw28_StripeNames.f k a0 a1 a2) (reeflaw28_StripeNames.f (k + 1) a0 a1 a2) := by
 intro a0 a1 a2 k
 have ih0 := reeflaw28_StripeNames.mono_l k
 unfold reeflaw28_StripeNames.f
 repeat' first
   | (with_reducible exact ih0 _ _ _ _)
   | (with_reducible exact reeflaw28_awake.mono _)
   | (with_reducible exact reefref28_ParseL.mono _ _)
   | (with_reducible exact LeO.refl _)
   | (with_reducible exact LeO.none _)
   | (with_reducible refine LeO.ite ?_ ?_)
   | (with_reducible refine LeO.bind ?_ (fun _ => ?_))
   | exact ih0 _ _ _ _
   | exact reeflaw28_awake.mono _
   | exact reefref28_ParseL.mono _ _
   | exact LeO.none _
   | refine LeO.ite ?_ ?_
   | refine LeO.bind ?_ (fun _ => ?_)
set_option maxHeartbeats 8000000 in
set_option maxRecDepth 100000 in
theorem reeflaw28_StripeNames.calls (k : Nat) (a0 : ByteArray) (a1 : Int) (a2 : ByteArray) (r : Bool) (w : World) (hT : LT w) (h : reeflaw28_StripeNames.f k a0 a1 a2 = some r) :
  Calls Tryd.prog 10 #[.string a0, .int .i64 a1, .string a2] w fun e w' => e = .returned (.bool r) ∧ Below w.heap.size w w' := by
 have HLT := Aside0.mk hT
 clear hT
 have HB := Aside0.mk (Below.refl w.heap.size w)
 have H : ((stripe_ParseL.f a2).bind fun bt312 => ((reefref28_ParseL.f k a2).bind fun bt315 => ((stripe_NameL.f a0 a1).bind fun t318 => (if bt312.1.toList = bt315.1.toList then (if bt312.2.1 = bt315.2.1 then (if (bt312.2.2 != bt315.2.2) = true then (none) else ((reefref28_NameL.f a0 a1).bind fun t319 => (reeflaw28_StripeNames.j0 k a0 a1 t318 (t318.toList != t319.toList)))) else (none)) else (none))))) = some r := h
 clear h
 replace H := Option.bind_eq_some_iff.mp H
 obtain ⟨⟨t312, t313, t314⟩, A40, H⟩ := H
 replace H : ((reefref28_ParseL.f k a2).bind fun bt315 => ((stripe_NameL.f a0 a1).bind fun t318 => (if t312.toList = bt315.1.toList then (if t313 = bt315.2.1 then (if (t314 != bt315.2.2) = true then (none) else ((reefref28_NameL.f a0 a1).bind fun t319 => (reeflaw28_StripeNames.j0 k a0 a1 t318 (t318.toList != t319.toList)))) else (none)) else (none)))) = some r := H
 have A4 := Aside0.mk A40
 clear A40
 replace H := Option.bind_eq_some_iff.mp H
 obtain ⟨⟨t315, t316, t317⟩, A50, H⟩ := H
 replace H : ((stripe_NameL.f a0 a1).bind fun t318 => (if t312.toList = t315.toList then (if t313 = t316 then (if (t314 != t317) = true then (none) else ((reefref28_NameL.f a0 a1).bind fun t319 => (reeflaw28_StripeNames.j0 k a0 a1 t318 (t318.toList != t319.toList)))) else (none)) else (none))) = some r := H
 have A5 := Aside0.mk A50
 clear A50
 replace H := Option.bind_eq_some_iff.mp H
 obtain ⟨t318, A60, H⟩ := H
 replace H : (if t312.toList = t315.toList then (if t313 = t316 then (if (t314 != t317) = true then (none) else ((reefref28_NameL.f a0 a1).bind fun t319 => (reeflaw28_StripeNames.j0 k a0 a1 t318 (t318.toList != t319.toList)))) else (none)) else (none)) = some r := H
 have A6 := Aside0.mk A60
 clear A60
 have HC7 := Aside0.mk H
 clear H
 go_enter Tryd.func10, Tryd.ntmps10
 go_upto_region 4 with (first | ((with_reducible refine gate_callee (f := 30) rfl ?_); refine goesL_ (some 19) rfl rfl Tryd.func30 (by kernel_rfl) rfl #[.string a2] rfl (by (try simp only [List.map_toArray, List.map_cons, List.map_nil]); first | done | rfl | (simp only [List.length_drop, List.length_take]; rfl)) ?_; (with_reducible refine (stripe_ParseL.calls a2 t312 t313 t314 _ ?sideLT A4.out).mono ?_); (case sideLT => exact LT.below HLT.out (by repeat (first | (with_reducible first | exact HB.out | apply below_alloc | apply pw_below_drewN | apply below_drew1) | exact HB.out))); rintro e w8 ⟨rfl, hb⟩; refine ⟨_, rfl, ?_⟩; have n0_ := Aside0.mk (below_step (by repeat (first | (with_reducible first | exact HB.out | apply below_alloc | apply pw_below_drewN | apply below_drew1) | exact HB.out)) hb); clear HB; have HB := n0_; clear n0_; (try clear hb); (try clear hb2); (try clear hk); (try clear hi)) | ((with_reducible refine gate_callee (f := 31) rfl ?_); refine goesL_ (some 25) rfl rfl Tryd.func31 (by kernel_rfl) rfl #[.string a2] rfl (by (try simp only [List.map_toArray, List.map_cons, List.map_nil]); first | done | rfl | (simp only [List.length_drop, List.length_take]; rfl)) ?_; (with_reducible refine (reefref28_ParseL.calls k a2 t315 t316 t317 _ ?sideLT A5.out).mono ?_); (case sideLT => exact LT.below HLT.out (by repeat (first | (with_reducible first | exact HB.out | apply below_alloc | apply pw_below_drewN | apply below_drew1) | exact HB.out))); rintro e w9 ⟨rfl, hb⟩; refine ⟨_, rfl, ?_⟩; have n0_ := Aside0.mk (below_step (by repeat (first | (with_reducible first | exact HB.out | apply below_alloc | apply pw_below_drewN | apply below_drew1) | exact HB.out)) hb); clear HB; have HB := n0_; clear n0_; (try clear hb); (try clear hb2); (try clear hk); (try clear hi)) | ((with_reducible refine gate_callee (f := 32) rfl ?_); refine goesL_ (some 31) rfl rfl Tryd.func32 (by kernel_rfl) rfl #[.string a0, .int .i64 a1] rfl (by (try simp only [List.map_toArray, List.map_cons, List.map_nil]); first | done | rfl | (simp only [List.length_drop, List.length_take]; rfl)) ?_; (with_reducible refine (stripe_NameL.calls a0 a1 t318 _ ?sideLT A6.out).mono ?_); (case sideLT => exact LT.below HLT.out (by repeat (first | (with_reducible first | exact HB.out | apply below_alloc | apply pw_below_drewN | apply below_drew1) | exact HB.out))); rintro e w10 ⟨rfl, hb⟩; refine ⟨_, rfl, ?_⟩; have n0_ := Aside0.mk (below_step (by repeat (first | (with_reducible first | exact HB.out | apply below_alloc | apply pw_below_drewN | apply below_drew1) | exact HB.out)) hb); clear HB; have HB := n0_; clear n0_; (try clear hb); (try clear hb2); (try clear hk); (try clear hi)))
 (try simp only [Act.put, List.setIfInBounds_toArray, List.set_cons_zero, List.set_cons_succ])
 go_cut [51] (fun v51 wc => ∃ (kq : Nat) (x51_6 : Bool), v51 = .bool x51_6 ∧ Aside0 (reeflaw28_StripeNames.j0 kq a0 a1 t318 x51_6 = some r) ∧ Aside0 (kq ≤ k) ∧ Aside0 (Below w.heap.size w wc))
 case first =>
  have H := HC7.out
  clear HC7
  by_cases c11 : t312.toList = t315.toList
  ·rw [if_pos c11] at H
   have c11b0 : (t312.toList == t315.toList) = true := beq_iff_eq.mpr c11
   have c11b1 : (t312.toList != t315.toList) = false := bne_eq_false_iff_eq.mpr c11
   clear c11
   (first | rw [c11b0] | (simp only [i64_w, i32_w]; rw [c11b0]) | skip)
   by_cases c12 : t313 = t316
   ·rw [if_pos c12] at H
    have c12b0 : (t313 == t316) = true := beq_iff_eq.mpr c12
    have c12b1 : (t313 != t316) = false := bne_eq_false_iff_eq.mpr c12
    clear c12
    by_cases c13 : (t314 != t317) = true
    ·rw [if_pos c13] at H
     exact absurd H (by simp)
    ·rw [if_neg c13] at H
     have c13b0 : (t314 != t317) = false := by simpa using c13
     (try (have c13b1 : decide (t314 = t317) = true := by simpa using c13))
     (try (have c13b2 : (t314 == t317) = true := by simpa using c13))
     clear c13
     replace H := Option.bind_eq_some_iff.mp H
     obtain ⟨t319, A140, H⟩ := H
     replace H : (reeflaw28_StripeNames.j0 k a0 a1 t318 (t318.toList != t319.toList)) = some r := H
     have A14 := Aside0.mk A140
     clear A140
     have H' := Aside0.mk H
     clear H
     go_wp2_with (first | (go_at_call 33; (with_reducible refine (reefref28_NameL.calls a0 a1 t319 _ ?sideLT A14.out).mono ?_); (case sideLT => exact LT.below HLT.out (by repeat (first | (with_reducible first | exact HB.out | apply below_alloc | apply pw_below_drewN | apply below_drew1) | exact HB.out))); rintro e w15 ⟨rfl, hb⟩; have n0_ := Aside0.mk (below_step (by repeat (first | (with_reducible first | exact HB.out | apply below_alloc | apply pw_below_drewN | apply below_drew1) | exact HB.out)) hb); clear HB; have HB := n0_; clear n0_; (try clear hb); (try clear hb2); (try clear hk); (try clear hi)))
     go_meet
     case rel => exact ⟨_, ((t318.toList != t319.toList)), (by first | rfl | (simp; done) | (simp [*]; done)), H', ⟨by first | omega | exact Nat.le_refl _⟩, ⟨by repeat (first | (with_reducible first | exact HB.out | apply below_alloc | apply pw_below_drewN | apply below_drew1) | exact HB.out)⟩⟩
   ·rw [if_neg c12] at H
    exact absurd H (by simp)
  ·rw [if_neg c11] at H
   exact absurd H (by simp)
 case rest =>
  clear HC7
  try clear c1
  try clear p2
  try clear c3
  try clear c10
  try clear c11
  try clear c11b0
  try clear c11b1
  try clear c12
  try clear c12b0
  try clear c12b1
  try clear c13
  try clear c13b0
  try clear c13b1
  try clear c13b2
  obtain ⟨kq, x51_6, rfl, HA, HJ6, HB⟩ := hcut
  cases kq with
  | zero => exact absurd HA.out (by simp [reeflaw28_StripeNames.j0])
  | succ kj6 =>
   have H := HA.out
   clear HA
   simp only [reeflaw28_StripeNames.j0] at H
   by_cases c16 : x51_6 = true
   ·subst c16
    have H1 : (none) = some r := by rw [if_pos rfl] at H; exact H
    clear H
    have H := H1
    clear H1
    exact absurd H (by simp)
   ·replace c16 := Bool.eq_false_iff.mpr c16
    subst c16
    have H1 : (if t318.toList = ([] : List UInt8) then ((reeflaw28_awake.f kj6).bind fun t320 => (some t320)) else ((stripe_ParseL.f t318).bind fun bt321 => (if bt321.2.2 = true then (if bt321.1.toList = a0.toList then (if bt321.2.1 = a1 then ((reeflaw28_awake.f kj6).bind fun t324 => (some t324)) else (none)) else (none)) else (none)))) = some r := by rw [if_neg (show ¬ (false = true) by decide)] at H; exact H
    clear H
    have H := H1
    clear H1
    by_cases c17 : t318.toList = ([] : List UInt8)
    ·rw [if_pos c17] at H
     have c17b0 : (t318.toList == ([] : List UInt8)) = true := beq_iff_eq.mpr c17
     have c17b1 : (t318.toList != ([] : List UInt8)) = false := bne_eq_false_iff_eq.mpr c17
     clear c17
     replace H := Option.bind_eq_some_iff.mp H
     obtain ⟨t320, A180, H⟩ := H
     replace H : (some t320) = some r := H
     have A18 := Aside0.mk A180
     clear A180
     obtain rfl := Option.some.inj H
     go_wp2_with (first | ((with_reducible refine gate_callee (f := 12) rfl ?_); refine goesL_ (some 54) rfl rfl Tryd.func12 (by kernel_rfl) rfl #[] rfl (by (try simp only [List.map_toArray, List.map_cons, List.map_nil]); first | done | rfl | (simp only [List.length_drop, List.length_take]; rfl)) ?_; (with_reducible refine (reeflaw28_awake.calls kj6  t320 _ A18.out).mono ?_); rintro e w19 ⟨rfl, hb⟩; refine ⟨_, rfl, ?_⟩; have n0_ := Aside0.mk (below_step (by repeat (first | (with_reducible first | exact HB.out | apply below_alloc | apply pw_below_drewN | apply below_drew1) | exact HB.out)) hb); clear HB; have HB := n0_; clear n0_; (try clear hb); (try clear hb2); (try clear hk); (try clear hi)))
     go_ret
     exact ⟨by first | rfl | (simp [errW_none, errW_some] <;> rfl) | (simp [*, errW_none, errW_some] <;> rfl), by repeat (first | (with_reducible first | exact HB.out | apply below_alloc | apply pw_below_drewN | apply below_drew1) | exact HB.out)⟩
    ·rw [if_neg c17] at H
     have c17b0 : (t318.toList == ([] : List UInt8)) = false := beq_eq_false_iff_ne.mpr c17
     have c17b1 : (t318.toList != ([] : List UInt8)) = true := bne_iff_ne.mpr c17
     replace H := Option.bind_eq_some_iff.mp H
     obtain ⟨⟨t321, t322, t323⟩, A200, H⟩ := H
     replace H : (if t323 = true then (if t321.toList = a0.toList then (if t322 = a1 then ((reeflaw28_awake.f kj6).bind fun t324 => (some t324)) else (none)) else (none)) else (none)) = some r := H
     have A20 := Aside0.mk A200
     clear A200
     by_cases c21 : t323 = true
     ·subst c21
      have H1 : (if t321.toList = a0.toList then (if t322 = a1 then ((reeflaw28_awake.f kj6).bind fun t324 => (some t324)) else (none)) else (none)) = some r := by rw [if_pos rfl] at H; exact H
      clear H
      have H := H1
      clear H1
      by_cases c22 : t321.toList = a0.toList
      ·rw [if_pos c22] at H
       have c22b0 : (t321.toList == a0.toList) = true := beq_iff_eq.mpr c22
       have c22b1 : (t321.toList != a0.toList) = false := bne_eq_false_iff_eq.mpr c22
       clear c22
       by_cases c23 : t322 = a1
       ·rw [if_pos c23] at H
        have c23b0 : (t322 == a1) = true := beq_iff_eq.mpr c23
        have c23b1 : (t322 != a1) = false := bne_eq_false_iff_eq.mpr c23
        clear c23
        replace H := Option.bind_eq_some_iff.mp H
        obtain ⟨t324, A240, H⟩ := H
        replace H : (some t324) = some r := H
        have A24 := Aside0.mk A240
        clear A240
        obtain rfl := Option.some.inj H
        go_wp2_with (first | ((with_reducible refine gate_callee (f := 30) rfl ?_); refine goesL_ (some 57) rfl rfl Tryd.func30 (by kernel_rfl) rfl #[.string t318] rfl (by (try simp only [List.map_toArray, List.map_cons, List.map_nil]); first | done | rfl | (simp only [List.length_drop, List.length_take]; rfl)) ?_; (with_reducible refine (stripe_ParseL.calls t318 t321 t322 true _ ?sideLT A20.out).mono ?_); (case sideLT => exact LT.below HLT.out (by repeat (first | (with_reducible first | exact HB.out | apply below_alloc | apply pw_below_drewN | apply below_drew1) | exact HB.out))); rintro e w25 ⟨rfl, hb⟩; refine ⟨_, rfl, ?_⟩; have n0_ := Aside0.mk (below_step (by repeat (first | (with_reducible first | exact HB.out | apply below_alloc | apply pw_below_drewN | apply below_drew1) | exact HB.out)) hb); clear HB; have HB := n0_; clear n0_; (try clear hb); (try clear hb2); (try clear hk); (try clear hi)) | (go_at_call 12; (with_reducible refine (reeflaw28_awake.calls kj6  t324 _ A24.out).mono ?_); rintro e w26 ⟨rfl, hb⟩; have n0_ := Aside0.mk (below_step (by repeat (first | (with_reducible first | exact HB.out | apply below_alloc | apply pw_below_drewN | apply below_drew1) | exact HB.out)) hb); clear HB; have HB := n0_; clear n0_; (try clear hb); (try clear hb2); (try clear hk); (try clear hi)))
        go_ret
        exact ⟨by first | rfl | (simp [errW_none, errW_some] <;> rfl) | (simp [*, errW_none, errW_some] <;> rfl), by repeat (first | (with_reducible first | exact HB.out | apply below_alloc | apply pw_below_drewN | apply below_drew1) | exact HB.out)⟩
       ·rw [if_neg c23] at H
        exact absurd H (by simp)
      ·rw [if_neg c22] at H
       exact absurd H (by simp)
     ·replace c21 := Bool.eq_false_iff.mpr c21
      subst c21
      have H1 : (none) = some r := by rw [if_neg (show ¬ (false = true) by decide)] at H; exact H
      clear H
      have H := H1
      clear H1
      exact absurd H (by simp)

end Go.Proofs.YteajaofcgcgodaaDoor.P
