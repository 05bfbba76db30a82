-- Printed by gprint.py, a program of this session, over the kit's print.py
import Derived.Test.YtpdpjcpmpppadaaP0
import Derived.Test.YtpdpjcpmpppadaaP3
import Derived.Test.YtpdpjcpmpppadaaP26
namespace Go.Proofs.Ytpdpjcpmpppadaa.P
open Go.RowKit Go.Proofs.YtpdpjcpmpppadaaW.PrintWords Go.Proofs.YtpdpjcpmpppadaaW.PrintLast Go.Proofs.YtpdpjcpmpppadaaW.PrintMore
attribute [local go_sem] max2_int min2_int max_two min_two max_three min_three max_four min_four   -- for this text's walks alone
set_option linter.unusedVariables false
set_option linter.unusedSimpArgs false

/-! ### reeflaw16_LeadMajorities: function 4 -/
def reeflaw16_LeadMajorities.l0 : Nat → Int → Int → Int → Int → Int → Int → Int → Int → Option (Bool)
 | 0, _, _, _, _, _, _, _, _ => none
 | k + 1, x0, x1, x2, x7, x8, x9, x10, x11 => if x11 < x0 then (if 0 ≤ (IntKind.u64.wrap (x11)) then (reeflaw16_LeadMajorities.l0 k x0 x1 x2 x7 (wrap64 (x8 + (wrap64 (Go.bits .and .u32 (shr .u32 x1 (IntKind.u64.wrap (x11))) 1)))) (wrap64 (x9 + (wrap64 (Go.bits .and .u32 (shr .u32 x2 (IntKind.u64.wrap (x11))) 1)))) (wrap64 (x10 + (wrap64 ((wrap64 (Go.bits .and .u32 (shr .u32 x1 (IntKind.u64.wrap (x11))) 1)) * (wrap64 (Go.bits .and .u32 (shr .u32 x2 (IntKind.u64.wrap (x11))) 1)))))) (wrap64 (x11 + 1))) else (none)) else (if (wrap64 (2 * x7)) > x0 then (if (wrap64 (2 * (wrap64 (x7 - 1)))) ≤ x0 then (if x8 < x7 then ((reeflaw16_awake.f k).bind fun t199 => (some t199)) else (if x9 < x7 then ((reeflaw16_awake.f k).bind fun t200 => (some t200)) else (if x10 > 0 then ((reeflaw16_awake.f k).bind fun t201 => (some t201)) else (none)))) else (none)) else (none))
def reeflaw16_LeadMajorities.f (k : Nat) (a0 : Int) (a1 : Int) (a2 : Int) : Option (Bool) := (lead_Most.f (wrap64 (1 + (wrap64 (Int.tmod (IntKind.u64.wrap (a0)) 20))))).bind fun t198 => (reeflaw16_LeadMajorities.l0 k (wrap64 (1 + (wrap64 (Int.tmod (IntKind.u64.wrap (a0)) 20)))) a1 a2 t198 0 0 0 0)
theorem reeflaw16_LeadMajorities.mono_l : ∀ k, (∀ y0 y1 y2 y3 y4 y5 y6 y7, LeO (reeflaw16_LeadMajorities.l0 k y0 y1 y2 y3 y4 y5 y6 y7) (reeflaw16_LeadMajorities.l0 (k + 1) y0 y1 y2 y3 y4 y5 y6 y7))
 | 0 => fun _ _ _ _ _ _ _ _ r h => by simp [reeflaw16_LeadMajorities.l0] at h
 | k + 1 => by
  have ih0 := reeflaw16_LeadMajorities.mono_l k
  ·intro y0 y1 y2 y3 y4 y5 y6 y7
   unfold reeflaw16_LeadMajorities.l0
   repeat' first
   | (with_reducible exact ih0 _ _ _ _ _ _ _ _)
   | (with_reducible exact reeflaw16_awake.mono _)
   | (with_reducible exact LeO.refl _)
   | (with_reducible exact LeO.none _)
   | (with_reducible refine LeO.ite ?_ ?_)
   | (with_reducible refine LeO.bind ?_ (fun _ => ?_))
   | exact ih0 _ _ _ _ _ _ _ _
   | exact reeflaw16_awake.mono _
   | exact LeO.none _
   | refine LeO.ite ?_ ?_
   | refine LeO.bind ?_ (fun _ => ?_)
theorem reeflaw16_LeadMajorities.mono : ∀ a0 a1 a2 k, LeO (reeflaw16_LeadMajorities.f k a0 a1 a2) (reeflaw16_LeadMajorities.f (k + 1) a0 a1 a2) := by
 intro a0 a1 a2 k
 have ih0 := reeflaw16_LeadMajorities.mono_l k
 unfold reeflaw16_LeadMajorities.f
 repeat' first
   | (with_reducible exact ih0 _ _ _ _ _ _ _ _)
   | (with_reducible exact reeflaw16_awake.mono _)
   | (with_reducible exact LeO.refl _)
   | (with_reducible exact LeO.none _)
   | (with_reducible refine LeO.ite ?_ ?_)
   | (with_reducible refine LeO.bind ?_ (fun _ => ?_))
   | exact ih0 _ _ _ _ _ _ _ _
   | exact reeflaw16_awake.mono _
   | exact LeO.none _
   | refine LeO.ite ?_ ?_
   | refine LeO.bind ?_ (fun _ => ?_)
set_option maxHeartbeats 8000000 in
set_option maxRecDepth 100000 in
theorem reeflaw16_LeadMajorities.calls (k : Nat) (a0 : Int) (a1 : Int) (a2 : Int) (r : Bool) (w : World) (h : reeflaw16_LeadMajorities.f k a0 a1 a2 = some r) :
  Calls Try.prog 4 #[.int .i64 a0, .int .u32 a1, .int .u32 a2] w fun e w' => e = .returned (.bool r) ∧ Below w.heap.size w w' := by
 have HB := Aside0.mk (Below.refl w.heap.size w)
 have H : ((lead_Most.f (wrap64 (1 + (wrap64 (Int.tmod (IntKind.u64.wrap (a0)) 20))))).bind fun t198 => (reeflaw16_LeadMajorities.l0 k (wrap64 (1 + (wrap64 (Int.tmod (IntKind.u64.wrap (a0)) 20)))) a1 a2 t198 0 0 0 0)) = some r := h
 clear h
 replace H := Option.bind_eq_some_iff.mp H
 obtain ⟨t198, A40, H⟩ := H
 replace H : (reeflaw16_LeadMajorities.l0 k (wrap64 (1 + (wrap64 (Int.tmod (IntKind.u64.wrap (a0)) 20)))) a1 a2 t198 0 0 0 0) = some r := H
 have A4 := Aside0.mk A40
 clear A40
 have H' := Aside0.mk H
 clear H
 go_enter Try.func4, Try.ntmps4
 go_wp2_with (first | ((with_reducible refine gate_callee (f := 10) rfl ?_); refine goesL_ (some 20) rfl rfl Try.func10 (by kernel_rfl) rfl #[.int .i64 (wrap64 (1 + (wrap64 (Int.tmod (IntKind.u64.wrap (a0)) 20))))] rfl (by (try simp only [List.map_toArray, List.map_cons, List.map_nil]); first | done | rfl | (simp only [List.length_drop, List.length_take]; rfl)) ?_; (with_reducible refine (lead_Most.calls (wrap64 (1 + (wrap64 (Int.tmod (IntKind.u64.wrap (a0)) 20)))) t198 _ A4.out).mono ?_); rintro e w' ⟨rfl, ⟨nd, rfl⟩⟩; refine ⟨_, rfl, ?_⟩))
 go_loopg [8, 9, 10, 11] k (fun kq v8 v9 v10 v11 w' => ∃ (x8_1 : Int) (x9_1 : Int) (x10_1 : Int) (x11_1 : Int), v8 = .int .i64 x8_1 ∧ v9 = .int .i64 x9_1 ∧ v10 = .int .i64 x10_1 ∧ v11 = .int .i64 x11_1 ∧ Aside0 (reeflaw16_LeadMajorities.l0 kq (wrap64 (1 + (wrap64 (Int.tmod (IntKind.u64.wrap (a0)) 20)))) a1 a2 t198 x8_1 x9_1 x10_1 x11_1 = some r) ∧ Aside0 (kq ≤ k) ∧ Aside0 (Below w.heap.size w w'))
 case atStart => exact ⟨(0), (0), (0), (0), (by first | rfl | (simp; done) | (simp [*]; done)), (by first | rfl | (simp; done) | (simp [*]; done)), (by first | rfl | (simp; done) | (simp [*]; done)), (by first | rfl | (simp; done) | (simp [*]; done)), H', ⟨Nat.le_refl _⟩, ⟨by repeat (first | (with_reducible first | exact HB.out | apply below_alloc | apply pw_below_drewN | apply below_drew1) | exact HB.out)⟩⟩
 case round =>
  clear H'
  try clear c1
  try clear p2
  try clear c4
  obtain ⟨x8_1, x9_1, x10_1, x11_1, rfl, rfl, rfl, rfl, HA, HK1, HB⟩ := hrel
  cases gk with
  | zero => exact absurd HA.out (by simp [reeflaw16_LeadMajorities.l0])
  | succ k1 =>
   have H := HA.out
   clear HA
   simp only [reeflaw16_LeadMajorities.l0] at H
   by_cases c5 : x11_1 < (wrap64 (1 + (wrap64 (Int.tmod (IntKind.u64.wrap (a0)) 20))))
   ·rw [if_pos c5] at H
    have c5b0 : decide (x11_1 < (wrap64 (1 + (wrap64 (Int.tmod (IntKind.u64.wrap (a0)) 20))))) = true := decide_eq_true c5
    clear c5
    obtain ⟨ji6, hji6⟩ : ∃ j_ : Int, (IntKind.u64.wrap (x11_1)) = j_ := ⟨_, rfl⟩
    replace H : (if 0 ≤ (ji6) then (reeflaw16_LeadMajorities.l0 k1 (wrap64 (1 + (wrap64 (Int.tmod (IntKind.u64.wrap (a0)) 20)))) a1 a2 t198 (wrap64 (x8_1 + (wrap64 (Go.bits .and .u32 (shr .u32 a1 (ji6)) 1)))) (wrap64 (x9_1 + (wrap64 (Go.bits .and .u32 (shr .u32 a2 (ji6)) 1)))) (wrap64 (x10_1 + (wrap64 ((wrap64 (Go.bits .and .u32 (shr .u32 a1 (ji6)) 1)) * (wrap64 (Go.bits .and .u32 (shr .u32 a2 (ji6)) 1)))))) (wrap64 (x11_1 + 1))) else (none)) = some r := by first | (rw [hji6] at H; exact H) | (simp only [hji6] at H ⊢; exact H)
    by_cases c7 : 0 ≤ (ji6)
    ·rw [if_pos c7] at H
     have c7b0 := eq_true c7
     have c7b1 : decide (0 ≤ (ji6)) = true := decide_eq_true c7
     clear c7
     obtain ⟨ji8, hji8⟩ : ∃ j_ : Int, (shr .u32 a1 (ji6)) = j_ := ⟨_, rfl⟩
     replace H : (reeflaw16_LeadMajorities.l0 k1 (wrap64 (1 + (wrap64 (Int.tmod (IntKind.u64.wrap (a0)) 20)))) a1 a2 t198 (wrap64 (x8_1 + (wrap64 (Go.bits .and .u32 (ji8) 1)))) (wrap64 (x9_1 + (wrap64 (Go.bits .and .u32 (shr .u32 a2 (ji6)) 1)))) (wrap64 (x10_1 + (wrap64 ((wrap64 (Go.bits .and .u32 (ji8) 1)) * (wrap64 (Go.bits .and .u32 (shr .u32 a2 (ji6)) 1)))))) (wrap64 (x11_1 + 1))) = some r := by first | (rw [hji8] at H; exact H) | (simp only [hji8] at H ⊢; exact H)
     have hji8_ : (a1 / 2 ^ min (ji6).toNat 32) = ji8 := hji8
     have hji8z : (ji6) ≤ 32 → (a1 / 2 ^ (ji6).toNat) = ji8 := shr_small hji8
     have c9b0 := eq_true (of_decide_eq_true (by first | (with_reducible assumption) | assumption) : 0 ≤ (ji6))
     obtain ⟨ji10, hji10⟩ : ∃ j_ : Int, (shr .u32 a2 (ji6)) = j_ := ⟨_, rfl⟩
     replace H : (reeflaw16_LeadMajorities.l0 k1 (wrap64 (1 + (wrap64 (Int.tmod (IntKind.u64.wrap (a0)) 20)))) a1 a2 t198 (wrap64 (x8_1 + (wrap64 (Go.bits .and .u32 (ji8) 1)))) (wrap64 (x9_1 + (wrap64 (Go.bits .and .u32 (ji10) 1)))) (wrap64 (x10_1 + (wrap64 ((wrap64 (Go.bits .and .u32 (ji8) 1)) * (wrap64 (Go.bits .and .u32 (ji10) 1)))))) (wrap64 (x11_1 + 1))) = some r := by first | (rw [hji10] at H; exact H) | (simp only [hji10] at H ⊢; exact H)
     have hji10_ : (a2 / 2 ^ min (ji6).toNat 32) = ji10 := hji10
     have hji10z : (ji6) ≤ 32 → (a2 / 2 ^ (ji6).toNat) = ji10 := shr_small hji10
     have H' := Aside0.mk H
     clear H
     go_wp2
     go_roundg k1
     case measure => have := HK1.out; omega
     case rel => exact ⟨(wrap64 (x8_1 + (wrap64 (Go.bits .and .u32 (ji8) 1)))), (wrap64 (x9_1 + (wrap64 (Go.bits .and .u32 (ji10) 1)))), (wrap64 (x10_1 + (wrap64 ((wrap64 (Go.bits .and .u32 (ji8) 1)) * (wrap64 (Go.bits .and .u32 (ji10) 1)))))), (wrap64 (x11_1 + 1)), (by first | rfl | (simp; done) | (simp only [← hji8] <;> (first | rfl | simp)) | (simp [*]; done)), (by first | rfl | (simp; done) | (simp only [← hji10] <;> (first | rfl | simp)) | (simp [*]; done)), (by first | rfl | (simp; done) | (simp only [← hji8, ← hji10] <;> (first | rfl | simp)) | (simp [*]; done)), (by first | rfl | (simp; done) | (simp [*]; done)), H', ⟨by have := HK1.out; omega⟩, ⟨by repeat (first | (with_reducible first | exact HB.out | apply below_alloc | apply pw_below_drewN | apply below_drew1) | exact HB.out)⟩⟩
    ·rw [if_neg c7] at H
     exact absurd H (by simp)
   ·rw [if_neg c5] at H
    have c5b0 : decide (x11_1 < (wrap64 (1 + (wrap64 (Int.tmod (IntKind.u64.wrap (a0)) 20))))) = false := decide_eq_false c5
    clear c5
    by_cases c11 : (wrap64 (2 * t198)) > (wrap64 (1 + (wrap64 (Int.tmod (IntKind.u64.wrap (a0)) 20))))
    ·rw [if_pos c11] at H
     have c11b0 : decide ((wrap64 (1 + (wrap64 (Int.tmod (IntKind.u64.wrap (a0)) 20)))) < (wrap64 (2 * t198))) = true := decide_eq_true c11
     clear c11
     by_cases c12 : (wrap64 (2 * (wrap64 (t198 - 1)))) ≤ (wrap64 (1 + (wrap64 (Int.tmod (IntKind.u64.wrap (a0)) 20))))
     ·rw [if_pos c12] at H
      have c12b0 : decide ((wrap64 (2 * (wrap64 (t198 - 1)))) ≤ (wrap64 (1 + (wrap64 (Int.tmod (IntKind.u64.wrap (a0)) 20))))) = true := decide_eq_true c12
      clear c12
      by_cases c13 : x8_1 < t198
      ·rw [if_pos c13] at H
       have c13b0 : decide (x8_1 < t198) = true := decide_eq_true c13
       clear c13
       replace H := Option.bind_eq_some_iff.mp H
       obtain ⟨t199, A140, H⟩ := H
       replace H : (some t199) = some r := H
       have A14 := Aside0.mk A140
       clear A140
       obtain rfl := Option.some.inj H
       go_wp2_with (first | (go_at_call 13; (with_reducible refine (reeflaw16_awake.calls k1  t199 _ A14.out).mono ?_); rintro e w15 ⟨rfl, hb⟩; have n0_ := Aside0.mk (below_step (by repeat (first | (with_reducible first | exact HB.out | apply below_alloc | apply pw_below_drewN | apply below_drew1) | exact HB.out)) hb); clear HB; have HB := n0_; clear n0_; (try clear hb); (try clear hb2); (try clear hk); (try clear hi)))
       go_ret
       exact ⟨by first | rfl | (simp [errW_none, errW_some] <;> rfl) | (simp [*, errW_none, errW_some] <;> rfl), by repeat (first | (with_reducible first | exact HB.out | apply below_alloc | apply pw_below_drewN | apply below_drew1) | exact HB.out)⟩
      ·rw [if_neg c13] at H
       have c13b0 : decide (x8_1 < t198) = false := decide_eq_false c13
       clear c13
       by_cases c16 : x9_1 < t198
       ·rw [if_pos c16] at H
        have c16b0 : decide (x9_1 < t198) = true := decide_eq_true c16
        clear c16
        replace H := Option.bind_eq_some_iff.mp H
        obtain ⟨t200, A170, H⟩ := H
        replace H : (some t200) = some r := H
        have A17 := Aside0.mk A170
        clear A170
        obtain rfl := Option.some.inj H
        go_wp2_with (first | (go_at_call 13; (with_reducible refine (reeflaw16_awake.calls k1  t200 _ A17.out).mono ?_); rintro e w18 ⟨rfl, hb⟩; have n0_ := Aside0.mk (below_step (by repeat (first | (with_reducible first | exact HB.out | apply below_alloc | apply pw_below_drewN | apply below_drew1) | exact HB.out)) hb); clear HB; have HB := n0_; clear n0_; (try clear hb); (try clear hb2); (try clear hk); (try clear hi)))
        go_ret
        exact ⟨by first | rfl | (simp [errW_none, errW_some] <;> rfl) | (simp [*, errW_none, errW_some] <;> rfl), by repeat (first | (with_reducible first | exact HB.out | apply below_alloc | apply pw_below_drewN | apply below_drew1) | exact HB.out)⟩
       ·rw [if_neg c16] at H
        have c16b0 : decide (x9_1 < t198) = false := decide_eq_false c16
        clear c16
        by_cases c19 : x10_1 > 0
        ·rw [if_pos c19] at H
         have c19b0 : decide (0 < x10_1) = true := decide_eq_true c19
         clear c19
         replace H := Option.bind_eq_some_iff.mp H
         obtain ⟨t201, A200, H⟩ := H
         replace H : (some t201) = some r := H
         have A20 := Aside0.mk A200
         clear A200
         obtain rfl := Option.some.inj H
         go_wp2_with (first | (go_at_call 13; (with_reducible refine (reeflaw16_awake.calls k1  t201 _ A20.out).mono ?_); rintro e w21 ⟨rfl, hb⟩; have n0_ := Aside0.mk (below_step (by repeat (first | (with_reducible first | exact HB.out | apply below_alloc | apply pw_below_drewN | apply below_drew1) | exact HB.out)) hb); clear HB; have HB := n0_; clear n0_; (try clear hb); (try clear hb2); (try clear hk); (try clear hi)))
         go_ret
         exact ⟨by first | rfl | (simp [errW_none, errW_some] <;> rfl) | (simp [*, errW_none, errW_some] <;> rfl), by repeat (first | (with_reducible first | exact HB.out | apply below_alloc | apply pw_below_drewN | apply below_drew1) | exact HB.out)⟩
        ·rw [if_neg c19] at H
         exact absurd H (by simp)
     ·rw [if_neg c12] at H
      exact absurd H (by simp)
    ·rw [if_neg c11] at H
     exact absurd H (by simp)

/-- THE ONE PURE STATEMENT of reeflaw16_LeadMajorities: yours. -/
def reeflaw16_LeadMajorities.Pure : Prop := ∀ (a0 : Int) (a1 : Int) (a2 : Int), (Lit.int .i64 a0).wf = true → (Lit.int .u32 a1).wf = true → (Lit.int .u32 a2).wf = true → ∃ k, reeflaw16_LeadMajorities.f k a0 a1 a2 = some true
theorem reeflaw16_LeadMajorities.walk (P : reeflaw16_LeadMajorities.Pure) (a0 : Int) (a1 : Int) (a2 : Int) (w : World) (w0 : (Lit.int .i64 a0).wf = true) (w1 : (Lit.int .u32 a1).wf = true) (w2 : (Lit.int .u32 a2).wf = true) :
  Calls Try.prog 4 #[.int .i64 a0, .int .u32 a1, .int .u32 a2] w fun e w' => e = .returned (.bool true) ∧ Below w.heap.size w w' := by
 obtain ⟨k, h⟩ := P a0 a1 a2 w0 w1 w2
 refine (reeflaw16_LeadMajorities.calls k a0 a1 a2 true w h).mono ?_
 rintro e w' ⟨rfl, hd⟩
 exact ⟨rfl, hd⟩

end Go.Proofs.Ytpdpjcpmpppadaa.P
