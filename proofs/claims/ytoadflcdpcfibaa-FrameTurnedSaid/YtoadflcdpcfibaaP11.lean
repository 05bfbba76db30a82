-- Printed by gprint.py, a program of this session, over the kit's print.py
import Derived.Test.YtoadflcdpcfibaaP0
import Derived.Test.YtoadflcdpcfibaaP2
import Derived.Test.YtoadflcdpcfibaaAwake
import Derived.Test.YtoadflcdpcfibaaOpenF
namespace Go.Proofs.Ytoadflcdpcfibaa.P
open Go.RowKit Go.Proofs.YtoadflcdpcfibaaW.PrintWords Go.Proofs.YtoadflcdpcfibaaW.PrintLast Go.Proofs.YtoadflcdpcfibaaW.PrintMore
attribute [local go_sem] max2_int min2_int max_two min_two max_three min_three max_four min_four   -- for this text's walks alone
set_option linter.unusedVariables false
set_option linter.unusedSimpArgs false

/-! ### reeflaw03_FrameTurned: function 5 -/
def reeflaw03_FrameTurned.l0 : Nat → Int → List Int → List Int → Int → Int → Option (Bool)
 | 0, _, _, _, _, _ => none
 | k + 1, x3, x9, x11, x12, x40 => if x40 < 32 then (if 0 ≤ (IntKind.u64.wrap (x40)) then (if (Go.bits .and .u32 (shr .u32 x3 (IntKind.u64.wrap (x40))) 1) = 1 then (if (wrap64 (x12 + x40)) < (wrap64 (8 * (x9.length : Int))) then (if 0 ≤ (wrap64 (Int.tdiv (wrap64 (x12 + x40)) 8)) then (if (wrap64 (Int.tdiv (wrap64 (x12 + x40)) 8)) < (x11.length : Int) then (if 0 ≤ (IntKind.u64.wrap (Int.tmod (wrap64 (x12 + x40)) 8)) then (reeflaw03_FrameTurned.l0 k x3 x9 (x11.set ((wrap64 (Int.tdiv (wrap64 (x12 + x40)) 8)) : Int).toNat (Go.bits .xor .u8 (rd x11 (wrap64 (Int.tdiv (wrap64 (x12 + x40)) 8))) (shl .u8 1 (IntKind.u64.wrap (Int.tmod (wrap64 (x12 + x40)) 8))))) x12 (wrap64 (x40 + 1))) else (none)) else (none)) else (none)) else (reeflaw03_FrameTurned.l0 k x3 x9 x11 x12 (wrap64 (x40 + 1)))) else (reeflaw03_FrameTurned.l0 k x3 x9 x11 x12 (wrap64 (x40 + 1)))) else (none)) else ((frame_Open.f k x11).bind fun bt229 => (if (strOfNums x11).toList = (strOfNums x9).toList then ((reeflaw03_awake.f k).bind fun t235 => (some t235)) else (if bt229.2.2.2 = 0 then (if bt229.2.2.1 = (x9.length : Int) then (none) else ((reeflaw03_awake.f k).bind fun t236 => (some t236))) else ((reeflaw03_awake.f k).bind fun t237 => (some t237)))))
def reeflaw03_FrameTurned.f (k : Nat) (a0 : Int) (l1 : List Int) (a2 : Int) (a3 : Int) : Option (Bool) := (frame_Seal.f k a0 l1).bind fun bt216 => (if bt216.2 = 0 then ((some (([] : List Int) : List Int)).bind fun y221 => (if y221.length + bt216.1.length < 140737488355328 then (if (IntKind.u64.wrap (wrap64 (8 * (wrap64 ((bt216.1.length : Int) - 1))))) = 0 then (none) else (reeflaw03_FrameTurned.l0 k a3 bt216.1 (y221 ++ bt216.1) (wrap64 (8 + (wrap64 (Int.tmod (IntKind.u64.wrap (a2)) (IntKind.u64.wrap (wrap64 (8 * (wrap64 ((bt216.1.length : Int) - 1))))))))) 0)) else (none))) else ((reeflaw03_awake.f k).bind fun t220 => (some t220)))
theorem reeflaw03_FrameTurned.mono_l : ∀ k, (∀ y0 y1 y2 y3 y4, LeO (reeflaw03_FrameTurned.l0 k y0 y1 y2 y3 y4) (reeflaw03_FrameTurned.l0 (k + 1) y0 y1 y2 y3 y4))
 | 0 => fun _ _ _ _ _ r h => by simp [reeflaw03_FrameTurned.l0] at h
 | k + 1 => by
  have ih0 := reeflaw03_FrameTurned.mono_l k
  ·intro y0 y1 y2 y3 y4
   unfold reeflaw03_FrameTurned.l0
   repeat' first
   | (with_reducible exact ih0 _ _ _ _ _)
   | (with_reducible exact frame_Open.mono _ _)
   | (with_reducible exact frame_Seal.mono _ _ _)
   | (with_reducible exact reeflaw03_awake.mono _)
   | (with_reducible exact LeO.refl _)
   | (with_reducible exact LeO.none _)
   | (with_reducible refine LeO.ite ?_ ?_)
   | (with_reducible refine LeO.bind ?_ (fun _ => ?_))
   | exact ih0 _ _ _ _ _
   | exact frame_Open.mono _ _
   | exact frame_Seal.mono _ _ _
   | exact reeflaw03_awake.mono _
   | exact LeO.none _
   | refine LeO.ite ?_ ?_
   | refine LeO.bind ?_ (fun _ => ?_)
theorem reeflaw03_FrameTurned.mono : ∀ a0 a1 a2 a3 k, LeO (reeflaw03_FrameTurned.f k a0 a1 a2 a3) (reeflaw03_FrameTurned.f (k + 1) a0 a1 a2 a3) := by
 intro a0 a1 a2 a3 k
 have ih0 := reeflaw03_FrameTurned.mono_l k
 unfold reeflaw03_FrameTurned.f
 repeat' first
   | (with_reducible exact ih0 _ _ _ _ _)
   | (with_reducible exact frame_Open.mono _ _)
   | (with_reducible exact frame_Seal.mono _ _ _)
   | (with_reducible exact reeflaw03_awake.mono _)
   | (with_reducible exact LeO.refl _)
   | (with_reducible exact LeO.none _)
   | (with_reducible refine LeO.ite ?_ ?_)
   | (with_reducible refine LeO.bind ?_ (fun _ => ?_))
   | exact ih0 _ _ _ _ _
   | exact frame_Open.mono _ _
   | exact frame_Seal.mono _ _ _
   | exact reeflaw03_awake.mono _
   | exact LeO.none _
   | refine LeO.ite ?_ ?_
   | refine LeO.bind ?_ (fun _ => ?_)
set_option maxHeartbeats 8000000 in
set_option maxRecDepth 100000 in
theorem reeflaw03_FrameTurned.calls (k : Nat) (a0 : Int) (A1 : Option Addr) (c1 : Nat) (l1 : List Int) (a2 : Int) (a3 : Int) (r : Bool) (w : World) (hr1 : Kd.C (Kd.int .u8) w A1 l1.length l1) (hc1 : l1.length ≤ c1) (h : reeflaw03_FrameTurned.f k a0 l1 a2 a3 = some r) :
  Calls Try.prog 5 #[.int .u8 a0, .slice A1 l1.length c1, .int .i64 a2, .int .u32 a3] w fun e w' => e = .returned (.bool r) ∧ Below w.heap.size w w' := by
 have HR1 := Aside0.mk hr1
 have HC1 := Aside0.mk hc1
 clear hr1 hc1
 have HB := Aside0.mk (Below.refl w.heap.size w)
 have H : ((frame_Seal.f k a0 l1).bind fun bt216 => (if bt216.2 = 0 then ((some (([] : List Int) : List Int)).bind fun y221 => (if y221.length + bt216.1.length < 140737488355328 then (if (IntKind.u64.wrap (wrap64 (8 * (wrap64 ((bt216.1.length : Int) - 1))))) = 0 then (none) else (reeflaw03_FrameTurned.l0 k a3 bt216.1 (y221 ++ bt216.1) (wrap64 (8 + (wrap64 (Int.tmod (IntKind.u64.wrap (a2)) (IntKind.u64.wrap (wrap64 (8 * (wrap64 ((bt216.1.length : Int) - 1))))))))) 0)) else (none))) else ((reeflaw03_awake.f k).bind fun t220 => (some t220)))) = some r := h
 clear h
 replace H := Option.bind_eq_some_iff.mp H
 obtain ⟨⟨t216, t217⟩, A50, H⟩ := H
 replace H : (if t217 = 0 then ((some (([] : List Int) : List Int)).bind fun y221 => (if y221.length + t216.length < 140737488355328 then (if (IntKind.u64.wrap (wrap64 (8 * (wrap64 ((t216.length : Int) - 1))))) = 0 then (none) else (reeflaw03_FrameTurned.l0 k a3 t216 (y221 ++ t216) (wrap64 (8 + (wrap64 (Int.tmod (IntKind.u64.wrap (a2)) (IntKind.u64.wrap (wrap64 (8 * (wrap64 ((t216.length : Int) - 1))))))))) 0)) else (none))) else ((reeflaw03_awake.f k).bind fun t220 => (some t220))) = some r := H
 have A5 := Aside0.mk A50
 clear A50
 by_cases c6 : t217 = 0
 ·rw [if_pos c6] at H
  have c6b0 : (t217 == 0) = true := beq_iff_eq.mpr c6
  have c6b1 : (t217 != 0) = false := bne_eq_false_iff_eq.mpr c6
  clear c6
  obtain ⟨y221, hy221⟩ : ∃ y_ : List Int, y_ = (([] : List Int)) := ⟨_, rfl⟩
  replace H : (if y221.length + t216.length < 140737488355328 then (if (IntKind.u64.wrap (wrap64 (8 * (wrap64 ((t216.length : Int) - 1))))) = 0 then (none) else (reeflaw03_FrameTurned.l0 k a3 t216 (y221 ++ t216) (wrap64 (8 + (wrap64 (Int.tmod (IntKind.u64.wrap (a2)) (IntKind.u64.wrap (wrap64 (8 * (wrap64 ((t216.length : Int) - 1))))))))) 0)) else (none)) = some r := by first | (rw [hy221]; with_reducible exact H) | (have H2_ := (Option.bind_some _ _).symm.trans H; rw [hy221]; with_reducible exact H2_) | (have H2_ := (Option.bind_some _ _).symm.trans H; with_reducible exact H2_) | with_reducible exact H | (rw [hy221]; exact H) | exact H
  have Ny221 := Aside0.mk hy221
  clear hy221
  by_cases c7 : y221.length + t216.length < 140737488355328
  ·rw [if_pos c7] at H
   have LMc7 := Aside0.mk c7
   clear c7
   obtain ⟨y224, hy224⟩ : ∃ y_ : List Int, y_ = (y221 ++ t216) := ⟨_, rfl⟩
   replace H : (if (IntKind.u64.wrap (wrap64 (8 * (wrap64 ((t216.length : Int) - 1))))) = 0 then (none) else (reeflaw03_FrameTurned.l0 k a3 t216 y224 (wrap64 (8 + (wrap64 (Int.tmod (IntKind.u64.wrap (a2)) (IntKind.u64.wrap (wrap64 (8 * (wrap64 ((t216.length : Int) - 1))))))))) 0)) = some r := by first | (rw [hy224]; with_reducible exact H) | (have H2_ := (Option.bind_some _ _).symm.trans H; rw [hy224]; with_reducible exact H2_) | (have H2_ := (Option.bind_some _ _).symm.trans H; with_reducible exact H2_) | with_reducible exact H | (rw [hy224]; exact H) | exact H
   have Ny224 := Aside0.mk hy224
   clear hy224
   by_cases c8 : (IntKind.u64.wrap (wrap64 (8 * (wrap64 ((t216.length : Int) - 1))))) = 0
   ·rw [if_pos c8] at H
    exact absurd H (by simp)
   ·rw [if_neg c8] at H
    have c8b0 : ((IntKind.u64.wrap (wrap64 (8 * (wrap64 ((t216.length : Int) - 1))))) == 0) = false := beq_eq_false_iff_ne.mpr c8
    have c8b1 : ((IntKind.u64.wrap (wrap64 (8 * (wrap64 ((t216.length : Int) - 1))))) != 0) = true := bne_iff_ne.mpr c8
    have H' := Aside0.mk H
    clear H
    go_enter Try.func5, Try.ntmps5
    go_wp2_with (first | ((with_reducible refine gate_callee (f := 7) rfl ?_); refine goesL_ (some 21) rfl rfl Try.func7 (by kernel_rfl) rfl #[.int .u8 a0, .slice A1 l1.length c1] rfl (by (try simp only [List.map_toArray, List.map_cons, List.map_nil]); first | done | rfl | (simp only [List.length_drop, List.length_take]; rfl)) ?_; (with_reducible refine (frame_Seal.calls k a0 _ _ l1 t216 t217 _ ?side1 ?side2 A5.out).mono ?_); (case side1 => repeat (first | exact HR1.out | (with_reducible refine Kd.C_alloc ?_ _) | (with_reducible refine Kd.C_drewN ?_ _) | (with_reducible refine Kd.C_drew ?_))); (case side2 => exact HC1.out); rintro e w9 ⟨v218, rfl, ho0, hb⟩; refine ⟨_, rfl, ?_⟩; have n0_ := Aside0.mk (Kd.R_lower ho0 (below_size (by repeat (first | (with_reducible first | exact HB.out | apply below_alloc | apply pw_below_drewN | apply below_drew1) | exact HB.out)))); have n1_ := Aside0.mk (below_step (by repeat (first | (with_reducible first | exact HB.out | apply below_alloc | apply pw_below_drewN | apply below_drew1) | exact HB.out)) hb); clear HB; have HO219 := n0_; have HB := n1_; clear n0_ n1_; (try clear hb); (try clear hb2); (try clear hk); (try clear hi); (try clear ho0)) | ((with_reducible refine gate_dst (N := 27) rfl ?_); (try (refine gate_guard (by rfl) ?_; dsimp only)); refine Kd.R_lit (Kd.int .u8) _ 5 ?hg (N := 27) ?hd (xs := ([] : List Int)) (inner := []) (ok := fun _ => True) (okp := fun _ => True) ?hr ?hp (fun _ hk => hk) trivial (Below.refl _ _) (Nat.le_refl _) (by simp) ?_; (case hd => rfl); (case hg => rfl); (case hr => first | (go_simp; done) | (go_simp; rfl)); (case hp => exact (Reps.none _ _)); intro v222 w10 ho11 hb hg_ hnew_; clear hg_ hnew_; (first | rw [← Ny221.out] at ho11 | (simp only [Int.reduceToNat] at ho11; rw [← Ny221.out] at ho11)); have n0_ := Aside0.mk (Kd.R_elder' (by (with_reducible repeat (first | apply Kd.R_alloc | apply Kd.R_drewN | apply Kd.R_drew)); exact HO219.out) (Kd.R_base ho11) hb); have n1_ := Aside0.mk (Kd.R_lower (Kd.R_new' ho11 (Kd.R_lt (by (with_reducible repeat (first | apply Kd.R_alloc | apply Kd.R_drewN | apply Kd.R_drew)); exact HO219.out))) (below_size (by repeat (first | (with_reducible first | exact HB.out | apply below_alloc | apply pw_below_drewN | apply below_drew1) | exact HB.out)))); have n2_ := Aside0.mk (below_step (by repeat (first | (with_reducible first | exact HB.out | apply below_alloc | apply pw_below_drewN | apply below_drew1) | exact HB.out)) hb); clear HO219; clear HB; have HO219 := n0_; have HO223 := n1_; have HB := n2_; clear n0_ n1_ n2_; clear hb ho11; obtain ⟨Ao13, co13, eo13⟩ := Kd.R_slice HO219.out; subst eo13) | ((with_reducible refine gate_builtin (b := .append) (xs := #[.tmp 27, .tmp 28]) rfl ?_); (try (refine gate_guard (by rfl) ?_; dsimp only)); at_builtin; refine Kd.R_append_rows (Kd.int .u8) (w0 := w) w.heap.size rfl (.tmp 27) (.tmp 28) 22 5 (.int .u8 0) 1 rfl Try.underlying22 info5 rfl (by decide) (by omega) v222 y221 t216 _ _ _ (fun k_ => some k_ ≠ (.slice Ao13 t216.length co13 : Value).ownBlock) (fun _ => False) rfl rfl ?aO ?aR (fun _ _ h => h) (fun _ h => h.elim) ?aF ?aB ?aS ?aL ?_; (case aR => repeat (first | exact (Kd.R_reads' HO219.out).2.2 | (with_reducible refine Kd.C_alloc ?_ _) | (with_reducible refine Kd.C_drewN ?_ _) | (with_reducible refine Kd.C_drew ?_))); (case aB => exact (by repeat (first | (with_reducible first | exact HB.out | apply below_alloc | apply pw_below_drewN | apply below_drew1) | exact HB.out))); (case aF => exact (fun k_ hk => Kd.fresh' (Kd.R_lt (by (with_reducible repeat (first | apply Kd.R_alloc | apply Kd.R_drewN | apply Kd.R_drew)); exact HO219.out)) k_ hk)); (case aO => exact (by (with_reducible repeat (first | apply Kd.R_alloc | apply Kd.R_drewN | apply Kd.R_drew)); exact Kd.R_mono HO223.out (fun _ hk => hk.2))); (case aS => exact (below_size (by repeat (first | (with_reducible first | exact HB.out | apply below_alloc | apply pw_below_drewN | apply below_drew1) | exact HB.out)))); (case aL => have := LMc7.out; omega); intro v225 w12 ho hb hg hat; rw [← Ny224.out] at ho; have n0_ := Aside0.mk (Kd.R_after (ok := (fun _ => True)) (by (with_reducible repeat (first | apply Kd.R_alloc | apply Kd.R_drewN | apply Kd.R_drew)); exact HO219.out) hg hat); have n1_ := Aside0.mk (hb); have n2_ := Aside0.mk (ho); clear HO219; clear HB; clear HO223; have HO219 := n0_; have HB := n1_; have HO226 := n2_; clear n0_ n1_ n2_; clear ho hb hg hat))
    go_loopg [40] k (fun kq v40 w' => ∃ (x11_1 : List Int) (x40_1 : Int), v40 = .int .i64 x40_1 ∧ Aside0 (reeflaw03_FrameTurned.l0 kq a3 t216 x11_1 (wrap64 (8 + (wrap64 (Int.tmod (IntKind.u64.wrap (a2)) (IntKind.u64.wrap (wrap64 (8 * (wrap64 ((t216.length : Int) - 1))))))))) x40_1 = some r) ∧ Aside0 (kq ≤ k) ∧ Aside0 (Kd.R (Kd.int .u8) 5 w' w.heap.size (fun k_ => some k_ ≠ (v225 : Value).ownBlock) (.slice Ao13 t216.length co13) t216) ∧ Aside0 (Kd.R (Kd.int .u8) 5 w' w.heap.size (fun k_ => some k_ ≠ ((.slice Ao13 t216.length co13) : Value).ownBlock) v225 x11_1) ∧ Aside0 (Below w.heap.size w w'))
    case atStart => exact ⟨(y224), (0), (by first | rfl | (simp; done) | (simp [*]; done)), H', ⟨Nat.le_refl _⟩, ⟨by (with_reducible repeat (first | apply Kd.R_alloc | apply Kd.R_drewN | apply Kd.R_drew)); exact Kd.R_mono HO219.out (fun _ hk => hk.2)⟩, ⟨by (with_reducible repeat (first | apply Kd.R_alloc | apply Kd.R_drewN | apply Kd.R_drew)); exact HO226.out⟩, ⟨by repeat (first | (with_reducible first | exact HB.out | apply below_alloc | apply pw_below_drewN | apply below_drew1) | exact HB.out)⟩⟩
    case round =>
     clear H'
     try clear c1
     try clear p2
     try clear c5
     try clear c6
     try clear c6b0
     try clear c6b1
     try clear p6
     try clear c7
     try clear c8
     try clear c8b0
     try clear c8b1
     obtain ⟨x11_1, x40_1, rfl, HA, HK1, HO_9, HO_11, HB⟩ := hrel
     cases gk with
     | zero => exact absurd HA.out (by simp [reeflaw03_FrameTurned.l0])
     | succ k1 =>
      have H := HA.out
      clear HA
      simp only [reeflaw03_FrameTurned.l0] at H
      by_cases c14 : x40_1 < 32
      ·rw [if_pos c14] at H
       have c14b0 : decide (x40_1 < 32) = true := decide_eq_true c14
       clear c14
       obtain ⟨ji15, hji15⟩ : ∃ j_ : Int, (IntKind.u64.wrap (x40_1)) = j_ := ⟨_, rfl⟩
       replace H : (if 0 ≤ (ji15) then (if (Go.bits .and .u32 (shr .u32 a3 (ji15)) 1) = 1 then (if (wrap64 ((wrap64 (8 + (wrap64 (Int.tmod (IntKind.u64.wrap (a2)) (IntKind.u64.wrap (wrap64 (8 * (wrap64 ((t216.length : Int) - 1))))))))) + x40_1)) < (wrap64 (8 * (t216.length : Int))) then (if 0 ≤ (wrap64 (Int.tdiv (wrap64 ((wrap64 (8 + (wrap64 (Int.tmod (IntKind.u64.wrap (a2)) (IntKind.u64.wrap (wrap64 (8 * (wrap64 ((t216.length : Int) - 1))))))))) + x40_1)) 8)) then (if (wrap64 (Int.tdiv (wrap64 ((wrap64 (8 + (wrap64 (Int.tmod (IntKind.u64.wrap (a2)) (IntKind.u64.wrap (wrap64 (8 * (wrap64 ((t216.length : Int) - 1))))))))) + x40_1)) 8)) < (x11_1.length : Int) then (if 0 ≤ (IntKind.u64.wrap (Int.tmod (wrap64 ((wrap64 (8 + (wrap64 (Int.tmod (IntKind.u64.wrap (a2)) (IntKind.u64.wrap (wrap64 (8 * (wrap64 ((t216.length : Int) - 1))))))))) + x40_1)) 8)) then (reeflaw03_FrameTurned.l0 k1 a3 t216 (x11_1.set ((wrap64 (Int.tdiv (wrap64 ((wrap64 (8 + (wrap64 (Int.tmod (IntKind.u64.wrap (a2)) (IntKind.u64.wrap (wrap64 (8 * (wrap64 ((t216.length : Int) - 1))))))))) + x40_1)) 8)) : Int).toNat (Go.bits .xor .u8 (rd x11_1 (wrap64 (Int.tdiv (wrap64 ((wrap64 (8 + (wrap64 (Int.tmod (IntKind.u64.wrap (a2)) (IntKind.u64.wrap (wrap64 (8 * (wrap64 ((t216.length : Int) - 1))))))))) + x40_1)) 8))) (shl .u8 1 (IntKind.u64.wrap (Int.tmod (wrap64 ((wrap64 (8 + (wrap64 (Int.tmod (IntKind.u64.wrap (a2)) (IntKind.u64.wrap (wrap64 (8 * (wrap64 ((t216.length : Int) - 1))))))))) + x40_1)) 8))))) (wrap64 (8 + (wrap64 (Int.tmod (IntKind.u64.wrap (a2)) (IntKind.u64.wrap (wrap64 (8 * (wrap64 ((t216.length : Int) - 1))))))))) (wrap64 (x40_1 + 1))) else (none)) else (none)) else (none)) else (reeflaw03_FrameTurned.l0 k1 a3 t216 x11_1 (wrap64 (8 + (wrap64 (Int.tmod (IntKind.u64.wrap (a2)) (IntKind.u64.wrap (wrap64 (8 * (wrap64 ((t216.length : Int) - 1))))))))) (wrap64 (x40_1 + 1)))) else (reeflaw03_FrameTurned.l0 k1 a3 t216 x11_1 (wrap64 (8 + (wrap64 (Int.tmod (IntKind.u64.wrap (a2)) (IntKind.u64.wrap (wrap64 (8 * (wrap64 ((t216.length : Int) - 1))))))))) (wrap64 (x40_1 + 1)))) else (none)) = some r := by first | (rw [hji15] at H; exact H) | (simp only [hji15] at H ⊢; exact H)
       by_cases c16 : 0 ≤ (ji15)
       ·rw [if_pos c16] at H
        have c16b0 := eq_true c16
        have c16b1 : decide (0 ≤ (ji15)) = true := decide_eq_true c16
        clear c16
        obtain ⟨ji17, hji17⟩ : ∃ j_ : Int, (shr .u32 a3 (ji15)) = j_ := ⟨_, rfl⟩
        replace H : (if (Go.bits .and .u32 (ji17) 1) = 1 then (if (wrap64 ((wrap64 (8 + (wrap64 (Int.tmod (IntKind.u64.wrap (a2)) (IntKind.u64.wrap (wrap64 (8 * (wrap64 ((t216.length : Int) - 1))))))))) + x40_1)) < (wrap64 (8 * (t216.length : Int))) then (if 0 ≤ (wrap64 (Int.tdiv (wrap64 ((wrap64 (8 + (wrap64 (Int.tmod (IntKind.u64.wrap (a2)) (IntKind.u64.wrap (wrap64 (8 * (wrap64 ((t216.length : Int) - 1))))))))) + x40_1)) 8)) then (if (wrap64 (Int.tdiv (wrap64 ((wrap64 (8 + (wrap64 (Int.tmod (IntKind.u64.wrap (a2)) (IntKind.u64.wrap (wrap64 (8 * (wrap64 ((t216.length : Int) - 1))))))))) + x40_1)) 8)) < (x11_1.length : Int) then (if 0 ≤ (IntKind.u64.wrap (Int.tmod (wrap64 ((wrap64 (8 + (wrap64 (Int.tmod (IntKind.u64.wrap (a2)) (IntKind.u64.wrap (wrap64 (8 * (wrap64 ((t216.length : Int) - 1))))))))) + x40_1)) 8)) then (reeflaw03_FrameTurned.l0 k1 a3 t216 (x11_1.set ((wrap64 (Int.tdiv (wrap64 ((wrap64 (8 + (wrap64 (Int.tmod (IntKind.u64.wrap (a2)) (IntKind.u64.wrap (wrap64 (8 * (wrap64 ((t216.length : Int) - 1))))))))) + x40_1)) 8)) : Int).toNat (Go.bits .xor .u8 (rd x11_1 (wrap64 (Int.tdiv (wrap64 ((wrap64 (8 + (wrap64 (Int.tmod (IntKind.u64.wrap (a2)) (IntKind.u64.wrap (wrap64 (8 * (wrap64 ((t216.length : Int) - 1))))))))) + x40_1)) 8))) (shl .u8 1 (IntKind.u64.wrap (Int.tmod (wrap64 ((wrap64 (8 + (wrap64 (Int.tmod (IntKind.u64.wrap (a2)) (IntKind.u64.wrap (wrap64 (8 * (wrap64 ((t216.length : Int) - 1))))))))) + x40_1)) 8))))) (wrap64 (8 + (wrap64 (Int.tmod (IntKind.u64.wrap (a2)) (IntKind.u64.wrap (wrap64 (8 * (wrap64 ((t216.length : Int) - 1))))))))) (wrap64 (x40_1 + 1))) else (none)) else (none)) else (none)) else (reeflaw03_FrameTurned.l0 k1 a3 t216 x11_1 (wrap64 (8 + (wrap64 (Int.tmod (IntKind.u64.wrap (a2)) (IntKind.u64.wrap (wrap64 (8 * (wrap64 ((t216.length : Int) - 1))))))))) (wrap64 (x40_1 + 1)))) else (reeflaw03_FrameTurned.l0 k1 a3 t216 x11_1 (wrap64 (8 + (wrap64 (Int.tmod (IntKind.u64.wrap (a2)) (IntKind.u64.wrap (wrap64 (8 * (wrap64 ((t216.length : Int) - 1))))))))) (wrap64 (x40_1 + 1)))) = some r := by first | (rw [hji17] at H; exact H) | (simp only [hji17] at H ⊢; exact H)
        have hji17_ : (a3 / 2 ^ min (ji15).toNat 32) = ji17 := hji17
        have hji17z : (ji15) ≤ 32 → (a3 / 2 ^ (ji15).toNat) = ji17 := shr_small hji17
        by_cases c18 : (Go.bits .and .u32 (ji17) 1) = 1
        ·rw [if_pos c18] at H
         have c18b0 : ((Go.bits .and .u32 (ji17) 1) == 1) = true := beq_iff_eq.mpr c18
         have c18b1 : ((Go.bits .and .u32 (ji17) 1) != 1) = false := bne_eq_false_iff_eq.mpr c18
         clear c18
         by_cases c19 : (wrap64 ((wrap64 (8 + (wrap64 (Int.tmod (IntKind.u64.wrap (a2)) (IntKind.u64.wrap (wrap64 (8 * (wrap64 ((t216.length : Int) - 1))))))))) + x40_1)) < (wrap64 (8 * (t216.length : Int)))
         ·rw [if_pos c19] at H
          have c19b0 : decide ((wrap64 ((wrap64 (8 + (wrap64 (Int.tmod (IntKind.u64.wrap (a2)) (IntKind.u64.wrap (wrap64 (8 * (wrap64 ((t216.length : Int) - 1))))))))) + x40_1)) < (wrap64 (8 * (t216.length : Int)))) = true := decide_eq_true c19
          clear c19
          obtain ⟨ji20, hji20⟩ : ∃ j_ : Int, (wrap64 (Int.tdiv (wrap64 ((wrap64 (8 + (wrap64 (Int.tmod (IntKind.u64.wrap (a2)) (IntKind.u64.wrap (wrap64 (8 * (wrap64 ((t216.length : Int) - 1))))))))) + x40_1)) 8)) = j_ := ⟨_, rfl⟩
          replace H : (if 0 ≤ (ji20) then (if (ji20) < (x11_1.length : Int) then (if 0 ≤ (IntKind.u64.wrap (Int.tmod (wrap64 ((wrap64 (8 + (wrap64 (Int.tmod (IntKind.u64.wrap (a2)) (IntKind.u64.wrap (wrap64 (8 * (wrap64 ((t216.length : Int) - 1))))))))) + x40_1)) 8)) then (reeflaw03_FrameTurned.l0 k1 a3 t216 (x11_1.set ((ji20) : Int).toNat (Go.bits .xor .u8 (rd x11_1 (ji20)) (shl .u8 1 (IntKind.u64.wrap (Int.tmod (wrap64 ((wrap64 (8 + (wrap64 (Int.tmod (IntKind.u64.wrap (a2)) (IntKind.u64.wrap (wrap64 (8 * (wrap64 ((t216.length : Int) - 1))))))))) + x40_1)) 8))))) (wrap64 (8 + (wrap64 (Int.tmod (IntKind.u64.wrap (a2)) (IntKind.u64.wrap (wrap64 (8 * (wrap64 ((t216.length : Int) - 1))))))))) (wrap64 (x40_1 + 1))) else (none)) else (none)) else (none)) = some r := by first | (rw [hji20] at H; exact H) | (simp only [hji20] at H ⊢; exact H)
          have hji20w : (IntKind.i64.wrap (Int.tdiv (wrap64 ((wrap64 (8 + (wrap64 (Int.tmod (IntKind.u64.wrap (a2)) (IntKind.u64.wrap (wrap64 (8 * (wrap64 ((t216.length : Int) - 1))))))))) + x40_1)) 8)) = ji20 := (i64_w _).trans hji20
          by_cases c21 : 0 ≤ (ji20)
          ·rw [if_pos c21] at H
           have c21b0 : decide (0 ≤ (ji20)) = true := decide_eq_true c21
           clear c21
           by_cases c22 : (ji20) < (x11_1.length : Int)
           ·rw [if_pos c22] at H
            have c22b0 : decide ((ji20) < (x11_1.length : Int)) = true := decide_eq_true c22
            clear c22
            obtain ⟨ji23, hji23⟩ : ∃ j_ : Int, (IntKind.u64.wrap (Int.tmod (wrap64 ((wrap64 (8 + (wrap64 (Int.tmod (IntKind.u64.wrap (a2)) (IntKind.u64.wrap (wrap64 (8 * (wrap64 ((t216.length : Int) - 1))))))))) + x40_1)) 8)) = j_ := ⟨_, rfl⟩
            replace H : (if 0 ≤ (ji23) then (reeflaw03_FrameTurned.l0 k1 a3 t216 (x11_1.set ((ji20) : Int).toNat (Go.bits .xor .u8 (rd x11_1 (ji20)) (shl .u8 1 (ji23)))) (wrap64 (8 + (wrap64 (Int.tmod (IntKind.u64.wrap (a2)) (IntKind.u64.wrap (wrap64 (8 * (wrap64 ((t216.length : Int) - 1))))))))) (wrap64 (x40_1 + 1))) else (none)) = some r := by first | (rw [hji23] at H; exact H) | (simp only [hji23] at H ⊢; exact H)
            by_cases c24 : 0 ≤ (ji23)
            ·rw [if_pos c24] at H
             have c24b0 := eq_true c24
             have c24b1 : decide (0 ≤ (ji23)) = true := decide_eq_true c24
             clear c24
             obtain ⟨ji25, hji25⟩ : ∃ j_ : Int, (shl .u8 1 (ji23)) = j_ := ⟨_, rfl⟩
             replace H : (reeflaw03_FrameTurned.l0 k1 a3 t216 (x11_1.set ((ji20) : Int).toNat (Go.bits .xor .u8 (rd x11_1 (ji20)) (ji25))) (wrap64 (8 + (wrap64 (Int.tmod (IntKind.u64.wrap (a2)) (IntKind.u64.wrap (wrap64 (8 * (wrap64 ((t216.length : Int) - 1))))))))) (wrap64 (x40_1 + 1))) = some r := by first | (rw [hji25] at H; exact H) | (simp only [hji25] at H ⊢; exact H)
             have hji25_ : (IntKind.u8.wrap (1 * 2 ^ min (ji23).toNat 8)) = ji25 := hji25
             have hji25z : (ji23) ≤ 8 → (IntKind.u8.wrap (1 * 2 ^ (ji23).toNat)) = ji25 := shl_small hji25
             have hji25u : (IntKind.u8.wrap (2 ^ min (ji23).toNat 8)) = ji25 := by have h_ := hji25_; rw [Int.one_mul] at h_; exact h_
             have hji25v : (ji23) ≤ 8 → (IntKind.u8.wrap (2 ^ (ji23).toNat)) = ji25 := fun hle_ => by have h_ := hji25z hle_; rw [Int.one_mul] at h_; exact h_
             obtain ⟨y228, hy228⟩ : ∃ y_ : List Int, y_ = (x11_1.set ((ji20) : Int).toNat (Go.bits .xor .u8 (rd x11_1 (ji20)) (ji25))) := ⟨_, rfl⟩
             replace H : (reeflaw03_FrameTurned.l0 k1 a3 t216 y228 (wrap64 (8 + (wrap64 (Int.tmod (IntKind.u64.wrap (a2)) (IntKind.u64.wrap (wrap64 (8 * (wrap64 ((t216.length : Int) - 1))))))))) (wrap64 (x40_1 + 1))) = some r := by first | (rw [hy228]; with_reducible exact H) | (have H2_ := (Option.bind_some _ _).symm.trans H; rw [hy228]; with_reducible exact H2_) | (have H2_ := (Option.bind_some _ _).symm.trans H; with_reducible exact H2_) | with_reducible exact H | (rw [hy228]; exact H) | exact H
             have Ny228 := Aside0.mk hy228
             clear hy228
             have H' := Aside0.mk H
             clear H
             obtain ⟨Ao27, co27, eo27⟩ := Kd.R_slice HO_11.out
             subst eo27
             have p227 : 0 ≤ ((ji20) : Int) := of_decide_eq_true (by first | (with_reducible assumption) | assumption)
             have q227 : (ji20) < (x11_1.length : Int) := of_decide_eq_true (by first | (with_reducible assumption) | assumption)
             obtain ⟨ad227, e227, hx227_0⟩ := Kd.at_int (Kd.R_reads' HO_11.out).2.2 (ji20) p227 q227
             cases e227
             replace p227 := eq_true p227
             replace q227 := eq_true q227
             have p26 : 0 ≤ ((ji20) : Int) := of_decide_eq_true (by first | (with_reducible assumption) | assumption)
             have q26 : ((ji20) : Int) < ((x11_1.length : Int) : Int) := of_decide_eq_true (by first | (with_reducible assumption) | assumption)
             obtain ⟨go26, co26, eo26, gb26, gl26, cl26, HG26⟩ := Kd.R_form HO_11.out (by omega)
             (first | cases eo26 | (injection eo26 with ea_ en_ ec_; (first | subst ea_ | (injection ea_ with ea_; subst ea_)); subst ec_; clear en_))
             have GB26 := Aside0.mk gb26
             have GG26 := Aside0.mk HG26
             clear gb26 gl26 HG26
             (first | simp only [add_plain] at hx227_0 | skip)
             obtain ⟨hx26_0, hf26_0⟩ := Kd.R_celln 0 HO_11.out ((ji20) : Int) p26 q26
             replace p26 := eq_true p26
             replace q26 := eq_true q26
             have HP28 := Kd.R_putg HO_11.out ((ji20) : Int) (Go.bits .xor .u8 (rd x11_1 (ji20)) (ji25))
             go_wp2_with (first | ((with_reducible refine gate_store (t := 5) (p := 69) rfl ?_); refine store_event (t := 5) (p := 69) (v := ?vo_w29) (w1 := (wr.setCell ⟨go26, ((ji20) : Int).toNat, none⟩ (.int .u8 (Go.bits .xor .u8 (rd x11_1 (ji20)) (ji25))))) ?hg ?ho ?hn ?hr ?_; (case ho => rfl); (case hg => rfl); (case hn => rfl); (case hr => first | (go_simp; done) | (go_simp; rfl)); intro w29 hw; have hg : wr.grownBy w29 (some go26) := (by rw [hw]; exact HP28.2); have hp_ : Kd.R (Kd.int .u8) 5 w29 w.heap.size (fun k_ => some k_ ≠ (.slice Ao13 t216.length co13 : Value).ownBlock) (.slice (some ⟨go26, 0, none⟩) x11_1.length co27) y228 := (by rw [hw, Ny228.out]; exact HP28.1); clear HP28; have n0_ := Aside0.mk (Kd.R_after (v := (.slice (some ⟨go26, 0, none⟩) x11_1.length co27)) (v1 := (.slice (some ⟨go26, 0, none⟩) x11_1.length co27)) (ok := (fun _ => True)) (by (with_reducible repeat (first | apply Kd.R_alloc | apply Kd.R_drewN | apply Kd.R_drew)); exact Kd.R_mono HO_9.out (fun _ hk => ⟨trivial, hk⟩)) hg (.inl rfl)); have n1_ := Aside0.mk (hp_); have n2_ := Aside0.mk ((by rw [hw]; exact below_set (HB.out) GB26.out : Below w.heap.size w w29)); clear HO_9; clear HO_11; clear HB; have HO_9 := n0_; have HO_11 := n1_; have HB := n2_; clear n0_ n1_ n2_; clear hg hw hp_))
             go_roundg k1
             case measure => have := HK1.out; omega
             case rel => exact ⟨(y228), (wrap64 (x40_1 + 1)), (by first | rfl | (simp; done) | (simp [*]; done)), H', ⟨by have := HK1.out; omega⟩, ⟨by (with_reducible repeat (first | apply Kd.R_alloc | apply Kd.R_drewN | apply Kd.R_drew)); exact Kd.R_mono HO_9.out (fun _ hk => hk.2)⟩, ⟨by (with_reducible repeat (first | apply Kd.R_alloc | apply Kd.R_drewN | apply Kd.R_drew)); exact HO_11.out⟩, ⟨by repeat (first | (with_reducible first | exact HB.out | apply below_alloc | apply pw_below_drewN | apply below_drew1) | exact HB.out)⟩⟩
            ·rw [if_neg c24] at H
             exact absurd H (by simp)
           ·rw [if_neg c22] at H
            exact absurd H (by simp)
          ·rw [if_neg c21] at H
           exact absurd H (by simp)
         ·rw [if_neg c19] at H
          have c19b0 : decide ((wrap64 ((wrap64 (8 + (wrap64 (Int.tmod (IntKind.u64.wrap (a2)) (IntKind.u64.wrap (wrap64 (8 * (wrap64 ((t216.length : Int) - 1))))))))) + x40_1)) < (wrap64 (8 * (t216.length : Int)))) = false := decide_eq_false c19
          clear c19
          have H' := Aside0.mk H
          clear H
          go_wp2
          go_roundg k1
          case measure => have := HK1.out; omega
          case rel => exact ⟨(x11_1), (wrap64 (x40_1 + 1)), (by first | rfl | (simp; done) | (simp [*]; done)), H', ⟨by have := HK1.out; omega⟩, ⟨by (with_reducible repeat (first | apply Kd.R_alloc | apply Kd.R_drewN | apply Kd.R_drew)); exact HO_9.out⟩, ⟨by (with_reducible repeat (first | apply Kd.R_alloc | apply Kd.R_drewN | apply Kd.R_drew)); exact HO_11.out⟩, ⟨by repeat (first | (with_reducible first | exact HB.out | apply below_alloc | apply pw_below_drewN | apply below_drew1) | exact HB.out)⟩⟩
        ·rw [if_neg c18] at H
         have c18b0 : ((Go.bits .and .u32 (ji17) 1) == 1) = false := beq_eq_false_iff_ne.mpr c18
         have c18b1 : ((Go.bits .and .u32 (ji17) 1) != 1) = true := bne_iff_ne.mpr c18
         have H' := Aside0.mk H
         clear H
         go_wp2
         go_roundg k1
         case measure => have := HK1.out; omega
         case rel => exact ⟨(x11_1), (wrap64 (x40_1 + 1)), (by first | rfl | (simp; done) | (simp [*]; done)), H', ⟨by have := HK1.out; omega⟩, ⟨by (with_reducible repeat (first | apply Kd.R_alloc | apply Kd.R_drewN | apply Kd.R_drew)); exact HO_9.out⟩, ⟨by (with_reducible repeat (first | apply Kd.R_alloc | apply Kd.R_drewN | apply Kd.R_drew)); exact HO_11.out⟩, ⟨by repeat (first | (with_reducible first | exact HB.out | apply below_alloc | apply pw_below_drewN | apply below_drew1) | exact HB.out)⟩⟩
       ·rw [if_neg c16] at H
        exact absurd H (by simp)
      ·rw [if_neg c14] at H
       have c14b0 : decide (x40_1 < 32) = false := decide_eq_false c14
       clear c14
       replace H := Option.bind_eq_some_iff.mp H
       obtain ⟨⟨t229, t230, t231, t232⟩, A300, H⟩ := H
       replace H : (if (strOfNums x11_1).toList = (strOfNums t216).toList then ((reeflaw03_awake.f k1).bind fun t235 => (some t235)) else (if t232 = 0 then (if t231 = (t216.length : Int) then (none) else ((reeflaw03_awake.f k1).bind fun t236 => (some t236))) else ((reeflaw03_awake.f k1).bind fun t237 => (some t237)))) = some r := H
       have A30 := Aside0.mk A300
       clear A300
       by_cases c31 : (strOfNums x11_1).toList = (strOfNums t216).toList
       ·rw [if_pos c31] at H
        have c31b0 : ((strOfNums x11_1).toList == (strOfNums t216).toList) = true := beq_iff_eq.mpr c31
        have c31b1 : ((strOfNums x11_1).toList != (strOfNums t216).toList) = false := bne_eq_false_iff_eq.mpr c31
        clear c31
        replace H := Option.bind_eq_some_iff.mp H
        obtain ⟨t235, A320, H⟩ := H
        replace H : (some t235) = some r := H
        have A32 := Aside0.mk A320
        clear A320
        obtain rfl := Option.some.inj H
        obtain ⟨Ao33, co33, eo33⟩ := Kd.R_slice HO_11.out
        subst eo33
        go_wp2_with (first | ((with_reducible refine gate_callee (f := 11) rfl ?_); refine goesL_ (some 73) rfl rfl Try.func11 (by kernel_rfl) rfl #[.slice Ao33 x11_1.length co33] rfl (by (try simp only [List.map_toArray, List.map_cons, List.map_nil]); first | done | rfl | (simp only [List.length_drop, List.length_take]; rfl)) ?_; (with_reducible refine (frame_Open.calls k1 _ _ x11_1 t229 t230 t231 t232 _ ?side1 ?side2 A30.out).mono ?_); (case side1 => repeat (first | exact (Kd.R_reads' HO_11.out).2.2 | (with_reducible refine Kd.C_alloc ?_ _) | (with_reducible refine Kd.C_drewN ?_ _) | (with_reducible refine Kd.C_drew ?_))); (case side2 => exact (Kd.R_reads' HO_11.out).2.1); rintro e w34 ⟨v233, rfl, ho0, hb⟩; refine ⟨_, rfl, ?_⟩; have n0_ := Aside0.mk (Kd.R_elder' (by (with_reducible repeat (first | apply Kd.R_alloc | apply Kd.R_drewN | apply Kd.R_drew)); exact HO_9.out) (Kd.R_base ho0) hb); have n1_ := Aside0.mk (Kd.R_elder' (by (with_reducible repeat (first | apply Kd.R_alloc | apply Kd.R_drewN | apply Kd.R_drew)); exact HO_11.out) (Kd.R_base ho0) hb); have n2_ := Aside0.mk (Kd.R_lower (Kd.R_new' (Kd.R_new' ho0 (Kd.R_lt (by (with_reducible repeat (first | apply Kd.R_alloc | apply Kd.R_drewN | apply Kd.R_drew)); exact HO_9.out))) (Kd.R_lt (by (with_reducible repeat (first | apply Kd.R_alloc | apply Kd.R_drewN | apply Kd.R_drew)); exact HO_11.out))) (below_size (by repeat (first | (with_reducible first | exact HB.out | apply below_alloc | apply pw_below_drewN | apply below_drew1) | exact HB.out)))); have n3_ := Aside0.mk (below_step (by repeat (first | (with_reducible first | exact HB.out | apply below_alloc | apply pw_below_drewN | apply below_drew1) | exact HB.out)) hb); clear HO_9; clear HO_11; clear HB; have HO_9 := n0_; have HO_11 := n1_; have HO234 := n2_; have HB := n3_; clear n0_ n1_ n2_ n3_; (try clear hb); (try clear hb2); (try clear hk); (try clear hi); (try clear ho0); have hcv35 := own_string (P := Try.prog) Try.underlying22 Try.underlying5 Try.underlying9 (Kd.own_of_R HO_11.out); have hcv36 := own_string (P := Try.prog) Try.underlying22 Try.underlying5 Try.underlying9 (Kd.own_of_R HO_9.out)) | (go_at_call 13; (with_reducible refine (reeflaw03_awake.calls k1  t235 _ A32.out).mono ?_); rintro e w37 ⟨rfl, hb⟩; have n0_ := Aside0.mk (Kd.R_below (by (with_reducible repeat (first | apply Kd.R_alloc | apply Kd.R_drewN | apply Kd.R_drew)); exact HO_9.out) hb); have n1_ := Aside0.mk (Kd.R_below (by (with_reducible repeat (first | apply Kd.R_alloc | apply Kd.R_drewN | apply Kd.R_drew)); exact HO_11.out) hb); have n2_ := Aside0.mk (Kd.R_below (by (with_reducible repeat (first | apply Kd.R_alloc | apply Kd.R_drewN | apply Kd.R_drew)); exact HO234.out) hb); have n3_ := Aside0.mk (below_step (by repeat (first | (with_reducible first | exact HB.out | apply below_alloc | apply pw_below_drewN | apply below_drew1) | exact HB.out)) hb); clear HO_9; clear HO_11; clear HO234; clear HB; have HO_9 := n0_; have HO_11 := n1_; have HO234 := n2_; have HB := n3_; clear n0_ n1_ n2_ n3_; (try clear hb); (try clear hb2); (try clear hk); (try clear hi)))
        go_ret
        exact ⟨by first | rfl | (simp [errW_none, errW_some] <;> rfl) | (simp [*, errW_none, errW_some] <;> rfl), by repeat (first | (with_reducible first | exact HB.out | apply below_alloc | apply pw_below_drewN | apply below_drew1) | exact HB.out)⟩
       ·rw [if_neg c31] at H
        have c31b0 : ((strOfNums x11_1).toList == (strOfNums t216).toList) = false := beq_eq_false_iff_ne.mpr c31
        have c31b1 : ((strOfNums x11_1).toList != (strOfNums t216).toList) = true := bne_iff_ne.mpr c31
        by_cases c38 : t232 = 0
        ·rw [if_pos c38] at H
         have c38b0 : (t232 == 0) = true := beq_iff_eq.mpr c38
         have c38b1 : (t232 != 0) = false := bne_eq_false_iff_eq.mpr c38
         clear c38
         by_cases c39 : t231 = (t216.length : Int)
         ·rw [if_pos c39] at H
          exact absurd H (by simp)
         ·rw [if_neg c39] at H
          have c39b0 : (t231 == (t216.length : Int)) = false := beq_eq_false_iff_ne.mpr c39
          have c39b1 : (t231 != (t216.length : Int)) = true := bne_iff_ne.mpr c39
          replace H := Option.bind_eq_some_iff.mp H
          obtain ⟨t236, A400, H⟩ := H
          replace H : (some t236) = some r := H
          have A40 := Aside0.mk A400
          clear A400
          obtain rfl := Option.some.inj H
          obtain ⟨Ao41, co41, eo41⟩ := Kd.R_slice HO_11.out
          subst eo41
          go_wp2_with (first | ((with_reducible refine gate_callee (f := 11) rfl ?_); refine goesL_ (some 73) rfl rfl Try.func11 (by kernel_rfl) rfl #[.slice Ao41 x11_1.length co41] rfl (by (try simp only [List.map_toArray, List.map_cons, List.map_nil]); first | done | rfl | (simp only [List.length_drop, List.length_take]; rfl)) ?_; (with_reducible refine (frame_Open.calls k1 _ _ x11_1 t229 t230 t231 t232 _ ?side1 ?side2 A30.out).mono ?_); (case side1 => repeat (first | exact (Kd.R_reads' HO_11.out).2.2 | (with_reducible refine Kd.C_alloc ?_ _) | (with_reducible refine Kd.C_drewN ?_ _) | (with_reducible refine Kd.C_drew ?_))); (case side2 => exact (Kd.R_reads' HO_11.out).2.1); rintro e w42 ⟨v233, rfl, ho0, hb⟩; refine ⟨_, rfl, ?_⟩; have n0_ := Aside0.mk (Kd.R_elder' (by (with_reducible repeat (first | apply Kd.R_alloc | apply Kd.R_drewN | apply Kd.R_drew)); exact HO_9.out) (Kd.R_base ho0) hb); have n1_ := Aside0.mk (Kd.R_elder' (by (with_reducible repeat (first | apply Kd.R_alloc | apply Kd.R_drewN | apply Kd.R_drew)); exact HO_11.out) (Kd.R_base ho0) hb); have n2_ := Aside0.mk (Kd.R_lower (Kd.R_new' (Kd.R_new' ho0 (Kd.R_lt (by (with_reducible repeat (first | apply Kd.R_alloc | apply Kd.R_drewN | apply Kd.R_drew)); exact HO_9.out))) (Kd.R_lt (by (with_reducible repeat (first | apply Kd.R_alloc | apply Kd.R_drewN | apply Kd.R_drew)); exact HO_11.out))) (below_size (by repeat (first | (with_reducible first | exact HB.out | apply below_alloc | apply pw_below_drewN | apply below_drew1) | exact HB.out)))); have n3_ := Aside0.mk (below_step (by repeat (first | (with_reducible first | exact HB.out | apply below_alloc | apply pw_below_drewN | apply below_drew1) | exact HB.out)) hb); clear HO_9; clear HO_11; clear HB; have HO_9 := n0_; have HO_11 := n1_; have HO234 := n2_; have HB := n3_; clear n0_ n1_ n2_ n3_; (try clear hb); (try clear hb2); (try clear hk); (try clear hi); (try clear ho0); have hcv43 := own_string (P := Try.prog) Try.underlying22 Try.underlying5 Try.underlying9 (Kd.own_of_R HO_11.out); have hcv44 := own_string (P := Try.prog) Try.underlying22 Try.underlying5 Try.underlying9 (Kd.own_of_R HO_9.out)) | (go_at_call 13; (with_reducible refine (reeflaw03_awake.calls k1  t236 _ A40.out).mono ?_); rintro e w45 ⟨rfl, hb⟩; have n0_ := Aside0.mk (Kd.R_below (by (with_reducible repeat (first | apply Kd.R_alloc | apply Kd.R_drewN | apply Kd.R_drew)); exact HO_9.out) hb); have n1_ := Aside0.mk (Kd.R_below (by (with_reducible repeat (first | apply Kd.R_alloc | apply Kd.R_drewN | apply Kd.R_drew)); exact HO_11.out) hb); have n2_ := Aside0.mk (Kd.R_below (by (with_reducible repeat (first | apply Kd.R_alloc | apply Kd.R_drewN | apply Kd.R_drew)); exact HO234.out) hb); have n3_ := Aside0.mk (below_step (by repeat (first | (with_reducible first | exact HB.out | apply below_alloc | apply pw_below_drewN | apply below_drew1) | exact HB.out)) hb); clear HO_9; clear HO_11; clear HO234; clear HB; have HO_9 := n0_; have HO_11 := n1_; have HO234 := n2_; have HB := n3_; clear n0_ n1_ n2_ n3_; (try clear hb); (try clear hb2); (try clear hk); (try clear hi)))
          go_ret
          exact ⟨by first | rfl | (simp [errW_none, errW_some] <;> rfl) | (simp [*, errW_none, errW_some] <;> rfl), by repeat (first | (with_reducible first | exact HB.out | apply below_alloc | apply pw_below_drewN | apply below_drew1) | exact HB.out)⟩
        ·rw [if_neg c38] at H
         have c38b0 : (t232 == 0) = false := beq_eq_false_iff_ne.mpr c38
         have c38b1 : (t232 != 0) = true := bne_iff_ne.mpr c38
         replace H := Option.bind_eq_some_iff.mp H
         obtain ⟨t237, A460, H⟩ := H
         replace H : (some t237) = some r := H
         have A46 := Aside0.mk A460
         clear A460
         obtain rfl := Option.some.inj H
         obtain ⟨Ao47, co47, eo47⟩ := Kd.R_slice HO_11.out
         subst eo47
         go_wp2_with (first | ((with_reducible refine gate_callee (f := 11) rfl ?_); refine goesL_ (some 73) rfl rfl Try.func11 (by kernel_rfl) rfl #[.slice Ao47 x11_1.length co47] rfl (by (try simp only [List.map_toArray, List.map_cons, List.map_nil]); first | done | rfl | (simp only [List.length_drop, List.length_take]; rfl)) ?_; (with_reducible refine (frame_Open.calls k1 _ _ x11_1 t229 t230 t231 t232 _ ?side1 ?side2 A30.out).mono ?_); (case side1 => repeat (first | exact (Kd.R_reads' HO_11.out).2.2 | (with_reducible refine Kd.C_alloc ?_ _) | (with_reducible refine Kd.C_drewN ?_ _) | (with_reducible refine Kd.C_drew ?_))); (case side2 => exact (Kd.R_reads' HO_11.out).2.1); rintro e w48 ⟨v233, rfl, ho0, hb⟩; refine ⟨_, rfl, ?_⟩; have n0_ := Aside0.mk (Kd.R_elder' (by (with_reducible repeat (first | apply Kd.R_alloc | apply Kd.R_drewN | apply Kd.R_drew)); exact HO_9.out) (Kd.R_base ho0) hb); have n1_ := Aside0.mk (Kd.R_elder' (by (with_reducible repeat (first | apply Kd.R_alloc | apply Kd.R_drewN | apply Kd.R_drew)); exact HO_11.out) (Kd.R_base ho0) hb); have n2_ := Aside0.mk (Kd.R_lower (Kd.R_new' (Kd.R_new' ho0 (Kd.R_lt (by (with_reducible repeat (first | apply Kd.R_alloc | apply Kd.R_drewN | apply Kd.R_drew)); exact HO_9.out))) (Kd.R_lt (by (with_reducible repeat (first | apply Kd.R_alloc | apply Kd.R_drewN | apply Kd.R_drew)); exact HO_11.out))) (below_size (by repeat (first | (with_reducible first | exact HB.out | apply below_alloc | apply pw_below_drewN | apply below_drew1) | exact HB.out)))); have n3_ := Aside0.mk (below_step (by repeat (first | (with_reducible first | exact HB.out | apply below_alloc | apply pw_below_drewN | apply below_drew1) | exact HB.out)) hb); clear HO_9; clear HO_11; clear HB; have HO_9 := n0_; have HO_11 := n1_; have HO234 := n2_; have HB := n3_; clear n0_ n1_ n2_ n3_; (try clear hb); (try clear hb2); (try clear hk); (try clear hi); (try clear ho0); have hcv49 := own_string (P := Try.prog) Try.underlying22 Try.underlying5 Try.underlying9 (Kd.own_of_R HO_11.out); have hcv50 := own_string (P := Try.prog) Try.underlying22 Try.underlying5 Try.underlying9 (Kd.own_of_R HO_9.out)) | (go_at_call 13; (with_reducible refine (reeflaw03_awake.calls k1  t237 _ A46.out).mono ?_); rintro e w51 ⟨rfl, hb⟩; have n0_ := Aside0.mk (Kd.R_below (by (with_reducible repeat (first | apply Kd.R_alloc | apply Kd.R_drewN | apply Kd.R_drew)); exact HO_9.out) hb); have n1_ := Aside0.mk (Kd.R_below (by (with_reducible repeat (first | apply Kd.R_alloc | apply Kd.R_drewN | apply Kd.R_drew)); exact HO_11.out) hb); have n2_ := Aside0.mk (Kd.R_below (by (with_reducible repeat (first | apply Kd.R_alloc | apply Kd.R_drewN | apply Kd.R_drew)); exact HO234.out) hb); have n3_ := Aside0.mk (below_step (by repeat (first | (with_reducible first | exact HB.out | apply below_alloc | apply pw_below_drewN | apply below_drew1) | exact HB.out)) hb); clear HO_9; clear HO_11; clear HO234; clear HB; have HO_9 := n0_; have HO_11 := n1_; have HO234 := n2_; have HB := n3_; clear n0_ n1_ n2_ n3_; (try clear hb); (try clear hb2); (try clear hk); (try clear hi)))
         go_ret
         exact ⟨by first | rfl | (simp [errW_none, errW_some] <;> rfl) | (simp [*, errW_none, errW_some] <;> rfl), by repeat (first | (with_reducible first | exact HB.out | apply below_alloc | apply pw_below_drewN | apply below_drew1) | exact HB.out)⟩
  ·rw [if_neg c7] at H
   exact absurd H (by simp)
 ·rw [if_neg c6] at H
  have c6b0 : (t217 == 0) = false := beq_eq_false_iff_ne.mpr c6
  have c6b1 : (t217 != 0) = true := bne_iff_ne.mpr c6
  replace H := Option.bind_eq_some_iff.mp H
  obtain ⟨t220, A520, H⟩ := H
  replace H : (some t220) = some r := H
  have A52 := Aside0.mk A520
  clear A520
  obtain rfl := Option.some.inj H
  go_enter Try.func5, Try.ntmps5
  go_wp2_with (first | ((with_reducible refine gate_callee (f := 7) rfl ?_); refine goesL_ (some 21) rfl rfl Try.func7 (by kernel_rfl) rfl #[.int .u8 a0, .slice A1 l1.length c1] rfl (by (try simp only [List.map_toArray, List.map_cons, List.map_nil]); first | done | rfl | (simp only [List.length_drop, List.length_take]; rfl)) ?_; (with_reducible refine (frame_Seal.calls k a0 _ _ l1 t216 t217 _ ?side1 ?side2 A5.out).mono ?_); (case side1 => repeat (first | exact HR1.out | (with_reducible refine Kd.C_alloc ?_ _) | (with_reducible refine Kd.C_drewN ?_ _) | (with_reducible refine Kd.C_drew ?_))); (case side2 => exact HC1.out); rintro e w53 ⟨v218, rfl, ho0, hb⟩; refine ⟨_, rfl, ?_⟩; have n0_ := Aside0.mk (Kd.R_lower ho0 (below_size (by repeat (first | (with_reducible first | exact HB.out | apply below_alloc | apply pw_below_drewN | apply below_drew1) | exact HB.out)))); have n1_ := Aside0.mk (below_step (by repeat (first | (with_reducible first | exact HB.out | apply below_alloc | apply pw_below_drewN | apply below_drew1) | exact HB.out)) hb); clear HB; have HO219 := n0_; have HB := n1_; clear n0_ n1_; (try clear hb); (try clear hb2); (try clear hk); (try clear hi); (try clear ho0)) | ((with_reducible refine gate_callee (f := 13) rfl ?_); refine goesL_ (some 26) rfl rfl Try.func13 (by kernel_rfl) rfl #[] rfl (by (try simp only [List.map_toArray, List.map_cons, List.map_nil]); first | done | rfl | (simp only [List.length_drop, List.length_take]; rfl)) ?_; (with_reducible refine (reeflaw03_awake.calls k  t220 _ A52.out).mono ?_); rintro e w54 ⟨rfl, hb⟩; refine ⟨_, rfl, ?_⟩; have n0_ := Aside0.mk (Kd.R_below (by (with_reducible repeat (first | apply Kd.R_alloc | apply Kd.R_drewN | apply Kd.R_drew)); exact HO219.out) hb); have n1_ := Aside0.mk (below_step (by repeat (first | (with_reducible first | exact HB.out | apply below_alloc | apply pw_below_drewN | apply below_drew1) | exact HB.out)) hb); clear HO219; clear HB; have HO219 := n0_; have HB := n1_; clear n0_ n1_; (try clear hb); (try clear hb2); (try clear hk); (try clear hi)))
  go_ret
  exact ⟨by first | rfl | (simp [errW_none, errW_some] <;> rfl) | (simp [*, errW_none, errW_some] <;> rfl), by repeat (first | (with_reducible first | exact HB.out | apply below_alloc | apply pw_below_drewN | apply below_drew1) | exact HB.out)⟩

/-- THE ONE PURE STATEMENT of reeflaw03_FrameTurned: yours. -/
def reeflaw03_FrameTurned.Pure : Prop := ∀ (a0 : Int) (l1 : List Int) (a2 : Int) (a3 : Int), (Lit.int .u8 a0).wf = true → l1.length ≤ maxLen → l1.length * 1 ≤ 140737488351232 → (∀ x ∈ l1, (Lit.int .u8 x).wf = true) → (Lit.int .i64 a2).wf = true → (Lit.int .u32 a3).wf = true → ∃ k, reeflaw03_FrameTurned.f k a0 l1 a2 a3 = some true
theorem reeflaw03_FrameTurned.walk (P : reeflaw03_FrameTurned.Pure) (a0 : Int) (a1 : Option Addr) (len1 cap1 : Nat) (z1 : List Int) (a2 : Int) (a3 : Int) (w : World) (w0 : (Lit.int .u8 a0).wf = true) (w1 : (a1 = none ∧ len1 = 0 ∧ cap1 = 0 ∧ z1 = []) ∨ ∃ x, a1 = some x ∧ len1 ≤ cap1 ∧ cap1 ≤ maxLen ∧ z1.length = cap1 ∧ (∀ i, i < z1.length → w.cell? (x.add i) = some (.int .u8 (z1.getD i 0))) ∧ ∀ n ∈ z1, (Lit.int .u8 n).wf = true) (y1 : len1 * 1 ≤ 140737488351232) (w2 : (Lit.int .i64 a2).wf = true) (w3 : (Lit.int .u32 a3).wf = true) :
  Calls Try.prog 5 #[.int .u8 a0, .slice a1 len1 cap1, .int .i64 a2, .int .u32 a3] w fun e w' => e = .returned (.bool true) ∧ Below w.heap.size w w' := by
 obtain ⟨l1, rfl, hr1, hm1, hw1, hc1⟩ := ReadsInt.ofRowC w1
 obtain ⟨k, h⟩ := P a0 l1 a2 a3 w0 hm1 y1 hw1 w2 w3
 refine (reeflaw03_FrameTurned.calls k a0 _ _ l1 a2 a3 true w (Kd.C_of_reads (d := (0 : Int)) (h1 := fun _ => rfl) hr1) hc1 h).mono ?_
 rintro e w' ⟨rfl, hd⟩
 exact ⟨rfl, hd⟩

end Go.Proofs.Ytoadflcdpcfibaa.P
