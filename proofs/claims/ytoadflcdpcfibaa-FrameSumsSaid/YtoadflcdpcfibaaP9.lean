-- Printed by gprint.py, a program of this session, over the kit's print.py
import Derived.Test.YtoadflcdpcfibaaP0
import Derived.Test.YtoadflcdpcfibaaP1
import Derived.Test.YtoadflcdpcfibaaP2
import Derived.Test.YtoadflcdpcfibaaP3
import Derived.Test.YtoadflcdpcfibaaP5
import Derived.Test.YtoadflcdpcfibaaAwake
import Derived.Test.YtoadflcdpcfibaaOpenF
namespace Go.Proofs.Ytoadflcdpcfibaa.P
open Go.RowKit Go.Proofs.YtoadflcdpcfibaaW.PrintWords Go.Proofs.YtoadflcdpcfibaaW.PrintLast Go.Proofs.YtoadflcdpcfibaaW.PrintMore
attribute [local go_sem] max2_int min2_int max_two min_two max_three min_three max_four min_four   -- for this text's walks alone
set_option linter.unusedVariables false
set_option linter.unusedSimpArgs false

-- GIVEN: function 13 (reeflaw03_awake)

/-! ### reeflaw03_FrameSums: function 3 -/
def reeflaw03_FrameSums.j0 : Nat → List Int → Bool → Option (Bool)
 | 0, _, _ => none
 | k + 1, x1, x43 => if x43 = true then (none) else ((frame_Open.f k x1).bind fun bt172 => ((reefref03_Open.f k x1).bind fun bt178 => (if bt172.1 = bt178.1 then (if (strOfNums bt172.2.1).toList = (strOfNums bt178.2.1).toList then (if bt172.2.2.1 = bt178.2.2.1 then (if bt172.2.2.2 = bt178.2.2.2 then ((reeflaw03_awake.f k).bind fun t184 => (some t184)) else (none)) else (none)) else (none)) else (none))))
def reeflaw03_FrameSums.f (k : Nat) (a0 : Int) (l1 : List Int) : Option (Bool) := (frame_Seal.f k a0 l1).bind fun bt162 => ((reefref03_Seal.f k a0 l1).bind fun bt166 => (if (strOfNums bt162.1).toList = (strOfNums bt166.1).toList then (if bt162.2 = bt166.2 then ((frame_Sum.f k l1).bind fun t170 => ((reefref03_Sum.f k l1).bind fun t171 => (reeflaw03_FrameSums.j0 k l1 (t170 != t171)))) else (none)) else (none)))
theorem reeflaw03_FrameSums.mono_l : ∀ k, (∀ y0 y1, LeO (reeflaw03_FrameSums.j0 k y0 y1) (reeflaw03_FrameSums.j0 (k + 1) y0 y1))
 | 0 => fun _ _ r h => by simp [reeflaw03_FrameSums.j0] at h
 | k + 1 => by
  have ih0 := reeflaw03_FrameSums.mono_l k
  ·intro y0 y1
   unfold reeflaw03_FrameSums.j0
   repeat' first
   | (with_reducible exact ih0 _ _)
   | (with_reducible exact frame_Open.mono _ _)
   | (with_reducible exact frame_Seal.mono _ _ _)
   | (with_reducible exact frame_Sum.mono _ _)
   | (with_reducible exact reeflaw03_awake.mono _)
   | (with_reducible exact reefref03_Open.mono _ _)
   | (with_reducible exact reefref03_Seal.mono _ _ _)
   | (with_reducible exact reefref03_Sum.mono _ _)
   | (with_reducible exact LeO.refl _)
   | (with_reducible exact LeO.none _)
   | (with_reducible refine LeO.ite ?_ ?_)
   | (with_reducible refine LeO.bind ?_ (fun _ => ?_))
   | exact ih0 _ _
   | exact frame_Open.mono _ _
   | exact frame_Seal.mono _ _ _
   | exact frame_Sum.mono _ _
   | exact reeflaw03_awake.mono _
   | exact reefref03_Open.mono _ _
   | exact reefref03_Seal.mono _ _ _
   | exact reefref03_Sum.mono _ _
   | exact LeO.none _
   | refine LeO.ite ?_ ?_
   | refine LeO.bind ?_ (fun _ => ?_)
theorem reeflaw03_FrameSums.mono : ∀ a0 a1 k, LeO (reeflaw03_FrameSums.f k a0 a1) (reeflaw03_FrameSums.f (k + 1) a0 a1) := by
 intro a0 a1 k
 have ih0 := reeflaw03_FrameSums.mono_l k
 unfold reeflaw03_FrameSums.f
 repeat' first
   | (with_reducible exact ih0 _ _)
   | (with_reducible exact frame_Open.mono _ _)
   | (with_reducible exact frame_Seal.mono _ _ _)
   | (with_reducible exact frame_Sum.mono _ _)
   | (with_reducible exact reeflaw03_awake.mono _)
   | (with_reducible exact reefref03_Open.mono _ _)
   | (with_reducible exact reefref03_Seal.mono _ _ _)
   | (with_reducible exact reefref03_Sum.mono _ _)
   | (with_reducible exact LeO.refl _)
   | (with_reducible exact LeO.none _)
   | (with_reducible refine LeO.ite ?_ ?_)
   | (with_reducible refine LeO.bind ?_ (fun _ => ?_))
   | exact ih0 _ _
   | exact frame_Open.mono _ _
   | exact frame_Seal.mono _ _ _
   | exact frame_Sum.mono _ _
   | exact reeflaw03_awake.mono _
   | exact reefref03_Open.mono _ _
   | exact reefref03_Seal.mono _ _ _
   | exact reefref03_Sum.mono _ _
   | exact LeO.none _
   | refine LeO.ite ?_ ?_
   | refine LeO.bind ?_ (fun _ => ?_)
set_option maxHeartbeats 8000000 in
set_option maxRecDepth 100000 in
theorem reeflaw03_FrameSums.calls (k : Nat) (a0 : Int) (A1 : Option Addr) (c1 : Nat) (l1 : List Int) (r : Bool) (w : World) (hr1 : Kd.C (Kd.int .u8) w A1 l1.length l1) (hc1 : l1.length ≤ c1) (h : reeflaw03_FrameSums.f k a0 l1 = some r) :
  Calls Try.prog 3 #[.int .u8 a0, .slice A1 l1.length c1] w fun e w' => e = .returned (.bool r) ∧ Below w.heap.size w w' := by
 have HR1 := Aside0.mk hr1
 have HC1 := Aside0.mk hc1
 clear hr1 hc1
 have HB := Aside0.mk (Below.refl w.heap.size w)
 have H : ((frame_Seal.f k a0 l1).bind fun bt162 => ((reefref03_Seal.f k a0 l1).bind fun bt166 => (if (strOfNums bt162.1).toList = (strOfNums bt166.1).toList then (if bt162.2 = bt166.2 then ((frame_Sum.f k l1).bind fun t170 => ((reefref03_Sum.f k l1).bind fun t171 => (reeflaw03_FrameSums.j0 k l1 (t170 != t171)))) else (none)) else (none)))) = some r := h
 clear h
 replace H := Option.bind_eq_some_iff.mp H
 obtain ⟨⟨t162, t163⟩, A30, H⟩ := H
 replace H : ((reefref03_Seal.f k a0 l1).bind fun bt166 => (if (strOfNums t162).toList = (strOfNums bt166.1).toList then (if t163 = bt166.2 then ((frame_Sum.f k l1).bind fun t170 => ((reefref03_Sum.f k l1).bind fun t171 => (reeflaw03_FrameSums.j0 k l1 (t170 != t171)))) else (none)) else (none))) = some r := H
 have A3 := Aside0.mk A30
 clear A30
 replace H := Option.bind_eq_some_iff.mp H
 obtain ⟨⟨t166, t167⟩, A40, H⟩ := H
 replace H : (if (strOfNums t162).toList = (strOfNums t166).toList then (if t163 = t167 then ((frame_Sum.f k l1).bind fun t170 => ((reefref03_Sum.f k l1).bind fun t171 => (reeflaw03_FrameSums.j0 k l1 (t170 != t171)))) else (none)) else (none)) = some r := H
 have A4 := Aside0.mk A40
 clear A40
 have HC5 := Aside0.mk H
 clear H
 go_enter Try.func3, Try.ntmps3
 go_upto_region 3 with (first | ((with_reducible refine gate_callee (f := 7) rfl ?_); refine goesL_ (some 18) rfl rfl Try.func7 (by kernel_rfl) rfl #[.int .u8 a0, .slice A1 l1.length c1] rfl (by (try simp only [List.map_toArray, List.map_cons, List.map_nil]); first | done | rfl | (simp only [List.length_drop, List.length_take]; rfl)) ?_; (with_reducible refine (frame_Seal.calls k a0 _ _ l1 t162 t163 _ ?side1 ?side2 A3.out).mono ?_); (case side1 => repeat (first | exact HR1.out | (with_reducible refine Kd.C_alloc ?_ _) | (with_reducible refine Kd.C_drewN ?_ _) | (with_reducible refine Kd.C_drew ?_))); (case side2 => exact HC1.out); rintro e w6 ⟨v164, rfl, ho0, hb⟩; refine ⟨_, rfl, ?_⟩; have n0_ := Aside0.mk (Kd.R_lower ho0 (below_size (by repeat (first | (with_reducible first | exact HB.out | apply below_alloc | apply pw_below_drewN | apply below_drew1) | exact HB.out)))); have n1_ := Aside0.mk (below_step (by repeat (first | (with_reducible first | exact HB.out | apply below_alloc | apply pw_below_drewN | apply below_drew1) | exact HB.out)) hb); clear HB; have HO165 := n0_; have HB := n1_; clear n0_ n1_; (try clear hb); (try clear hb2); (try clear hk); (try clear hi); (try clear ho0)) | ((with_reducible refine gate_callee (f := 8) rfl ?_); refine goesL_ (some 24) rfl rfl Try.func8 (by kernel_rfl) rfl #[.int .u8 a0, .slice A1 l1.length c1] rfl (by (try simp only [List.map_toArray, List.map_cons, List.map_nil]); first | done | rfl | (simp only [List.length_drop, List.length_take]; rfl)) ?_; (with_reducible refine (reefref03_Seal.calls k a0 _ _ l1 t166 t167 _ ?side1 ?side2 A4.out).mono ?_); (case side1 => repeat (first | exact (Kd.C_below HR1.out HB.out) | (with_reducible refine Kd.C_alloc ?_ _) | (with_reducible refine Kd.C_drewN ?_ _) | (with_reducible refine Kd.C_drew ?_))); (case side2 => exact HC1.out); rintro e w7 ⟨v168, rfl, ho0, hb⟩; refine ⟨_, rfl, ?_⟩; have n0_ := Aside0.mk (Kd.R_elder' (by (with_reducible repeat (first | apply Kd.R_alloc | apply Kd.R_drewN | apply Kd.R_drew)); exact HO165.out) (Kd.R_base ho0) hb); have n1_ := Aside0.mk (Kd.R_lower (Kd.R_new' ho0 (Kd.R_lt (by (with_reducible repeat (first | apply Kd.R_alloc | apply Kd.R_drewN | apply Kd.R_drew)); exact HO165.out))) (below_size (by repeat (first | (with_reducible first | exact HB.out | apply below_alloc | apply pw_below_drewN | apply below_drew1) | exact HB.out)))); have n2_ := Aside0.mk (below_step (by repeat (first | (with_reducible first | exact HB.out | apply below_alloc | apply pw_below_drewN | apply below_drew1) | exact HB.out)) hb); clear HO165; clear HB; have HO165 := n0_; have HO169 := n1_; have HB := n2_; clear n0_ n1_ n2_; (try clear hb); (try clear hb2); (try clear hk); (try clear hi); (try clear ho0)))
 (try simp only [Act.put, List.setIfInBounds_toArray, List.set_cons_zero, List.set_cons_succ])
 go_cut [43] (fun v43 wc => ∃ (kq : Nat) (x43_4 : Bool), v43 = .bool x43_4 ∧ Aside0 (reeflaw03_FrameSums.j0 kq l1 x43_4 = some r) ∧ Aside0 (kq ≤ k) ∧ Aside0 (Below w.heap.size w wc))
 case first =>
  have H := HC5.out
  clear HC5
  by_cases c8 : (strOfNums t162).toList = (strOfNums t166).toList
  ·rw [if_pos c8] at H
   have c8b0 : ((strOfNums t162).toList == (strOfNums t166).toList) = true := beq_iff_eq.mpr c8
   have c8b1 : ((strOfNums t162).toList != (strOfNums t166).toList) = false := bne_eq_false_iff_eq.mpr c8
   clear c8
   (first | rw [c8b0] | (simp only [i64_w, i32_w]; rw [c8b0]) | skip)
   by_cases c9 : t163 = t167
   ·rw [if_pos c9] at H
    have c9b0 : (t163 == t167) = true := beq_iff_eq.mpr c9
    have c9b1 : (t163 != t167) = false := bne_eq_false_iff_eq.mpr c9
    clear c9
    replace H := Option.bind_eq_some_iff.mp H
    obtain ⟨t170, A100, H⟩ := H
    replace H : ((reefref03_Sum.f k l1).bind fun t171 => (reeflaw03_FrameSums.j0 k l1 (t170 != t171))) = some r := H
    have A10 := Aside0.mk A100
    clear A100
    replace H := Option.bind_eq_some_iff.mp H
    obtain ⟨t171, A110, H⟩ := H
    replace H : (reeflaw03_FrameSums.j0 k l1 (t170 != t171)) = some r := H
    have A11 := Aside0.mk A110
    clear A110
    have H' := Aside0.mk H
    clear H
    have hcv12 := own_string (P := Try.prog) Try.underlying22 Try.underlying5 Try.underlying9 (Kd.own_of_R HO165.out)
    have hcv13 := own_string (P := Try.prog) Try.underlying22 Try.underlying5 Try.underlying9 (Kd.own_of_R HO169.out)
    go_wp2_with (first | (go_at_call 9; (with_reducible refine (frame_Sum.calls k _ _ l1 t170 _ ?side1 ?side2 A10.out).mono ?_); (case side1 => repeat (first | exact (Kd.C_below HR1.out HB.out) | (with_reducible refine Kd.C_alloc ?_ _) | (with_reducible refine Kd.C_drewN ?_ _) | (with_reducible refine Kd.C_drew ?_))); (case side2 => exact HC1.out); rintro e w' ⟨rfl, ⟨nd, rfl⟩⟩) | (go_at_call 10; (with_reducible refine (reefref03_Sum.calls k _ _ l1 t171 _ ?side1 ?side2 A11.out).mono ?_); (case side1 => repeat (first | exact (Kd.C_below HR1.out (by repeat (first | (with_reducible first | exact HB.out | apply below_alloc | apply pw_below_drewN | apply below_drew1) | exact HB.out))) | (with_reducible refine Kd.C_alloc ?_ _) | (with_reducible refine Kd.C_drewN ?_ _) | (with_reducible refine Kd.C_drew ?_))); (case side2 => exact HC1.out); rintro e w' ⟨rfl, ⟨nd, rfl⟩⟩))
    go_meet
    case rel => exact ⟨_, ((t170 != t171)), (by first | rfl | (simp; done) | (simp [*]; done)), H', ⟨by first | omega | exact Nat.le_refl _⟩, ⟨by repeat (first | (with_reducible first | exact HB.out | apply below_alloc | apply pw_below_drewN | apply below_drew1) | exact HB.out)⟩⟩
   ·rw [if_neg c9] at H
    exact absurd H (by simp)
  ·rw [if_neg c8] at H
   exact absurd H (by simp)
 case rest =>
  clear HC5
  try clear c1
  try clear hcv1
  try clear p2
  try clear c3
  try clear c7
  try clear c8
  try clear c8b0
  try clear c8b1
  try clear c9
  try clear c9b0
  try clear c9b1
  try clear hcv12
  try clear hcv13
  obtain ⟨kq, x43_4, rfl, HA, HJ4, HB⟩ := hcut
  cases kq with
  | zero => exact absurd HA.out (by simp [reeflaw03_FrameSums.j0])
  | succ kj4 =>
   have H := HA.out
   clear HA
   simp only [reeflaw03_FrameSums.j0] at H
   by_cases c14 : x43_4 = true
   ·subst c14
    have H1 : (none) = some r := by rw [if_pos rfl] at H; exact H
    clear H
    have H := H1
    clear H1
    exact absurd H (by simp)
   ·replace c14 := Bool.eq_false_iff.mpr c14
    subst c14
    have H1 : ((frame_Open.f kj4 l1).bind fun bt172 => ((reefref03_Open.f kj4 l1).bind fun bt178 => (if bt172.1 = bt178.1 then (if (strOfNums bt172.2.1).toList = (strOfNums bt178.2.1).toList then (if bt172.2.2.1 = bt178.2.2.1 then (if bt172.2.2.2 = bt178.2.2.2 then ((reeflaw03_awake.f kj4).bind fun t184 => (some t184)) else (none)) else (none)) else (none)) else (none)))) = some r := by rw [if_neg (show ¬ (false = true) by decide)] at H; exact H
    clear H
    have H := H1
    clear H1
    replace H := Option.bind_eq_some_iff.mp H
    obtain ⟨⟨t172, t173, t174, t175⟩, A150, H⟩ := H
    replace H : ((reefref03_Open.f kj4 l1).bind fun bt178 => (if t172 = bt178.1 then (if (strOfNums t173).toList = (strOfNums bt178.2.1).toList then (if t174 = bt178.2.2.1 then (if t175 = bt178.2.2.2 then ((reeflaw03_awake.f kj4).bind fun t184 => (some t184)) else (none)) else (none)) else (none)) else (none))) = some r := H
    have A15 := Aside0.mk A150
    clear A150
    replace H := Option.bind_eq_some_iff.mp H
    obtain ⟨⟨t178, t179, t180, t181⟩, A160, H⟩ := H
    replace H : (if t172 = t178 then (if (strOfNums t173).toList = (strOfNums t179).toList then (if t174 = t180 then (if t175 = t181 then ((reeflaw03_awake.f kj4).bind fun t184 => (some t184)) else (none)) else (none)) else (none)) else (none)) = some r := H
    have A16 := Aside0.mk A160
    clear A160
    by_cases c17 : t172 = t178
    ·rw [if_pos c17] at H
     have c17b0 : (t172 == t178) = true := beq_iff_eq.mpr c17
     have c17b1 : (t172 != t178) = false := bne_eq_false_iff_eq.mpr c17
     clear c17
     by_cases c18 : (strOfNums t173).toList = (strOfNums t179).toList
     ·rw [if_pos c18] at H
      have c18b0 : ((strOfNums t173).toList == (strOfNums t179).toList) = true := beq_iff_eq.mpr c18
      have c18b1 : ((strOfNums t173).toList != (strOfNums t179).toList) = false := bne_eq_false_iff_eq.mpr c18
      clear c18
      by_cases c19 : t174 = t180
      ·rw [if_pos c19] at H
       have c19b0 : (t174 == t180) = true := beq_iff_eq.mpr c19
       have c19b1 : (t174 != t180) = false := bne_eq_false_iff_eq.mpr c19
       clear c19
       by_cases c20 : t175 = t181
       ·rw [if_pos c20] at H
        have c20b0 : (t175 == t181) = true := beq_iff_eq.mpr c20
        have c20b1 : (t175 != t181) = false := bne_eq_false_iff_eq.mpr c20
        clear c20
        replace H := Option.bind_eq_some_iff.mp H
        obtain ⟨t184, A210, H⟩ := H
        replace H : (some t184) = some r := H
        have A21 := Aside0.mk A210
        clear A210
        obtain rfl := Option.some.inj H
        go_wp2_with (first | ((with_reducible refine gate_callee (f := 11) rfl ?_); refine goesL_ (some 46) rfl rfl Try.func11 (by kernel_rfl) rfl #[.slice A1 l1.length c1] rfl (by (try simp only [List.map_toArray, List.map_cons, List.map_nil]); first | done | rfl | (simp only [List.length_drop, List.length_take]; rfl)) ?_; (with_reducible refine (frame_Open.calls kj4 _ _ l1 t172 t173 t174 t175 _ ?side1 ?side2 A15.out).mono ?_); (case side1 => repeat (first | exact (Kd.C_below HR1.out HB.out) | (with_reducible refine Kd.C_alloc ?_ _) | (with_reducible refine Kd.C_drewN ?_ _) | (with_reducible refine Kd.C_drew ?_))); (case side2 => exact HC1.out); rintro e w22 ⟨v176, rfl, ho0, hb⟩; refine ⟨_, rfl, ?_⟩; have n0_ := Aside0.mk (Kd.R_lower ho0 (below_size (by repeat (first | (with_reducible first | exact HB.out | apply below_alloc | apply pw_below_drewN | apply below_drew1) | exact HB.out)))); have n1_ := Aside0.mk (below_step (by repeat (first | (with_reducible first | exact HB.out | apply below_alloc | apply pw_below_drewN | apply below_drew1) | exact HB.out)) hb); clear HB; have HO177 := n0_; have HB := n1_; clear n0_ n1_; (try clear hb); (try clear hb2); (try clear hk); (try clear hi); (try clear ho0)) | ((with_reducible refine gate_callee (f := 12) rfl ?_); refine goesL_ (some 53) rfl rfl Try.func12 (by kernel_rfl) rfl #[.slice A1 l1.length c1] rfl (by (try simp only [List.map_toArray, List.map_cons, List.map_nil]); first | done | rfl | (simp only [List.length_drop, List.length_take]; rfl)) ?_; (with_reducible refine (reefref03_Open.calls kj4 _ _ l1 t178 t179 t180 t181 _ ?side1 ?side2 A16.out).mono ?_); (case side1 => repeat (first | exact (Kd.C_below HR1.out HB.out) | (with_reducible refine Kd.C_alloc ?_ _) | (with_reducible refine Kd.C_drewN ?_ _) | (with_reducible refine Kd.C_drew ?_))); (case side2 => exact HC1.out); rintro e w23 ⟨v182, rfl, ho0, hb⟩; refine ⟨_, rfl, ?_⟩; have n0_ := Aside0.mk (Kd.R_elder' (by (with_reducible repeat (first | apply Kd.R_alloc | apply Kd.R_drewN | apply Kd.R_drew)); exact HO177.out) (Kd.R_base ho0) hb); have n1_ := Aside0.mk (Kd.R_lower (Kd.R_new' ho0 (Kd.R_lt (by (with_reducible repeat (first | apply Kd.R_alloc | apply Kd.R_drewN | apply Kd.R_drew)); exact HO177.out))) (below_size (by repeat (first | (with_reducible first | exact HB.out | apply below_alloc | apply pw_below_drewN | apply below_drew1) | exact HB.out)))); have n2_ := Aside0.mk (below_step (by repeat (first | (with_reducible first | exact HB.out | apply below_alloc | apply pw_below_drewN | apply below_drew1) | exact HB.out)) hb); clear HO177; clear HB; have HO177 := n0_; have HO183 := n1_; have HB := n2_; clear n0_ n1_ n2_; (try clear hb); (try clear hb2); (try clear hk); (try clear hi); (try clear ho0); have hcv24 := own_string (P := Try.prog) Try.underlying22 Try.underlying5 Try.underlying9 (Kd.own_of_R HO177.out); have hcv24d := fun m_ : Nat => own_string (P := Try.prog) Try.underlying22 Try.underlying5 Try.underlying9 (Kd.own_of_R (Kd.R_drewN HO177.out m_)); have hcv25 := own_string (P := Try.prog) Try.underlying22 Try.underlying5 Try.underlying9 (Kd.own_of_R HO183.out); have hcv25d := fun m_ : Nat => own_string (P := Try.prog) Try.underlying22 Try.underlying5 Try.underlying9 (Kd.own_of_R (Kd.R_drewN HO183.out m_))) | (go_at_call 13; (with_reducible refine (reeflaw03_awake.calls kj4  t184 _ A21.out).mono ?_); rintro e w26 ⟨rfl, hb⟩; have n0_ := Aside0.mk (Kd.R_below (by (with_reducible repeat (first | apply Kd.R_alloc | apply Kd.R_drewN | apply Kd.R_drew)); exact HO177.out) hb); have n1_ := Aside0.mk (Kd.R_below (by (with_reducible repeat (first | apply Kd.R_alloc | apply Kd.R_drewN | apply Kd.R_drew)); exact HO183.out) hb); have n2_ := Aside0.mk (below_step (by repeat (first | (with_reducible first | exact HB.out | apply below_alloc | apply pw_below_drewN | apply below_drew1) | exact HB.out)) hb); clear HO177; clear HO183; clear HB; have HO177 := n0_; have HO183 := n1_; have HB := n2_; clear n0_ n1_ n2_; (try clear hb); (try clear hb2); (try clear hk); (try clear hi)))
        go_ret
        exact ⟨by first | rfl | (simp [errW_none, errW_some] <;> rfl) | (simp [*, errW_none, errW_some] <;> rfl), by repeat (first | (with_reducible first | exact HB.out | apply below_alloc | apply pw_below_drewN | apply below_drew1) | exact HB.out)⟩
       ·rw [if_neg c20] at H
        exact absurd H (by simp)
      ·rw [if_neg c19] at H
       exact absurd H (by simp)
     ·rw [if_neg c18] at H
      exact absurd H (by simp)
    ·rw [if_neg c17] at H
     exact absurd H (by simp)

/-- THE ONE PURE STATEMENT of reeflaw03_FrameSums: yours. -/
def reeflaw03_FrameSums.Pure : Prop := ∀ (a0 : Int) (l1 : List Int), (Lit.int .u8 a0).wf = true → l1.length ≤ maxLen → l1.length * 1 ≤ 140737488351232 → (∀ x ∈ l1, (Lit.int .u8 x).wf = true) → ∃ k, reeflaw03_FrameSums.f k a0 l1 = some true
theorem reeflaw03_FrameSums.walk (P : reeflaw03_FrameSums.Pure) (a0 : Int) (a1 : Option Addr) (len1 cap1 : Nat) (z1 : List Int) (w : World) (w0 : (Lit.int .u8 a0).wf = true) (w1 : (a1 = none ∧ len1 = 0 ∧ cap1 = 0 ∧ z1 = []) ∨ ∃ x, a1 = some x ∧ len1 ≤ cap1 ∧ cap1 ≤ maxLen ∧ z1.length = cap1 ∧ (∀ i, i < z1.length → w.cell? (x.add i) = some (.int .u8 (z1.getD i 0))) ∧ ∀ n ∈ z1, (Lit.int .u8 n).wf = true) (y1 : len1 * 1 ≤ 140737488351232) :
  Calls Try.prog 3 #[.int .u8 a0, .slice a1 len1 cap1] w fun e w' => e = .returned (.bool true) ∧ Below w.heap.size w w' := by
 obtain ⟨l1, rfl, hr1, hm1, hw1, hc1⟩ := ReadsInt.ofRowC w1
 obtain ⟨k, h⟩ := P a0 l1 w0 hm1 y1 hw1
 refine (reeflaw03_FrameSums.calls k a0 _ _ l1 true w (Kd.C_of_reads (d := (0 : Int)) (h1 := fun _ => rfl) hr1) hc1 h).mono ?_
 rintro e w' ⟨rfl, hd⟩
 exact ⟨rfl, hd⟩

end Go.Proofs.Ytoadflcdpcfibaa.P
