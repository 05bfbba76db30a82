/- What was sealed is opened again, whatever stands behind it, and nothing that is cut off is. -/
import Derived.Test.YtoadflcdpcfibaaOfreeflaw03FrameBack
import Derived.Test.YtoadflcdpcfibaaPure0
namespace Go.Proofs.Ytoadflcdpcfibaa.Pure
open Go.RowKit Go.Proofs.Ytoadflcdpcfibaa.P Go.Proofs.YtoadflcdpcfibaaW.PrintWords Go.Proofs.YtoadflcdpcfibaaW.PrintLast
set_option linter.unusedVariables false

theorem wrap_u64 (x : Int) : IntKind.u64.wrap x = x % 18446744073709551616 := by simp [IntKind.wrap, IntKind.bits, IntKind.signed]
theorem sealL_length (a : Int) (l : List Int) : (sealL a l).length = l.length + 9 := by simp [sealL, headL, tailL]
theorem rd_app (l m : List Int) (i : Nat) (h : i < l.length) : rd (l ++ m) (i : Int) = rd l (i : Int) := by
  unfold rd
  simp [List.getD_eq_getElem?_getD, List.getElem?_append_left h]
theorem rd_app_right (l m : List Int) (i : Nat) : rd (l ++ m) ((l.length + i : Nat) : Int) = rd m (i : Int) := by
  unfold rd
  rw [Int.toNat_natCast, Int.toNat_natCast, List.getD_eq_getElem?_getD, List.getD_eq_getElem?_getD, List.getElem?_append_right (by omega), Nat.add_sub_cancel_left]
theorem seal_low (a : Int) (l more : List Int) (hl : l.length ≤ 1048575) : low3 (sealL a l ++ more) 2 = l.length := by
  have h2 : rd (sealL a l ++ more) 2 = (l.length : Int) % 256 := rfl
  have h3 : rd (sealL a l ++ more) (2 + 1) = (l.length : Int) / 256 % 256 := rfl
  have h4 : rd (sealL a l ++ more) (2 + 2) = (l.length : Int) / 65536 % 256 := rfl
  unfold low3
  rw [h2, h3, h4]
  omega
theorem seal_sum (a : Int) (l more : List Int) : low4 (sealL a l ++ more) (5 + (l.length : Int)) = sumI ((headL a l).drop 1) := by
  have hr := sumI_range ((headL a l).drop 1)
  have e : sealL a l ++ more = headL a l ++ (tailL (sumI ((headL a l).drop 1)) ++ more) := by simp [sealL]
  generalize sumI ((headL a l).drop 1) = s at *
  have hh := headL_length a l
  have r0 : rd (sealL a l ++ more) (5 + (l.length : Int)) = s % 256 := by
    rw [e, show (5 : Int) + (l.length : Int) = (((headL a l).length + 0 : Nat) : Int) by omega, rd_app_right]; rfl
  have r1 : rd (sealL a l ++ more) (5 + (l.length : Int) + 1) = s / 256 % 256 := by
    rw [e, show (5 : Int) + (l.length : Int) + 1 = (((headL a l).length + 1 : Nat) : Int) by omega, rd_app_right]; rfl
  have r2 : rd (sealL a l ++ more) (5 + (l.length : Int) + 2) = s / 65536 % 256 := by
    rw [e, show (5 : Int) + (l.length : Int) + 2 = (((headL a l).length + 2 : Nat) : Int) by omega, rd_app_right]; rfl
  have r3 : rd (sealL a l ++ more) (5 + (l.length : Int) + 3) = s / 16777216 % 256 := by
    rw [e, show (5 : Int) + (l.length : Int) + 3 = (((headL a l).length + 3 : Nat) : Int) by omega, rd_app_right]; rfl
  unfold low4
  rw [r0, r1, r2, r3]
  omega
theorem seal_head (a : Int) (l more : List Int) : (sealL a l ++ more).take (5 + (l.length : Int)).toNat = headL a l := by
  rw [show (5 + (l.length : Int)).toNat = (headL a l).length by rw [headL_length]; omega]
  unfold sealL
  rw [List.append_assoc, List.take_left]
theorem open_seal (a : Int) (l more : List Int) (hl : l.length ≤ 1048575) : openS (sealL a l ++ more) = (a, l, (l.length : Int) + 9, 0) := by
  have h0 : rd (sealL a l ++ more) 0 = 167 := rfl
  have h1 : rd (sealL a l ++ more) 1 = a := rfl
  have hn := sealL_length a l
  unfold openS
  rw [if_neg (fun h => h.2 h0), if_neg (by rw [List.length_append]; omega), seal_low a l more hl, if_neg (by omega), if_neg (by rw [List.length_append]; omega), seal_head, seal_sum, if_pos rfl, h1]
  rfl
theorem low3_take (q : List Int) (n : Nat) (h : 5 ≤ n) (hq : n ≤ q.length) : low3 (q.take n) 2 = low3 q 2 := by
  have t : ∀ i : Nat, i < n → rd (q.take n) (i : Int) = rd q (i : Int) := fun i hi => by
    unfold rd
    simp [List.getD_eq_getElem?_getD, List.getElem?_take, hi]
  unfold low3
  rw [show (2 : Int) + 2 = ((4 : Nat) : Int) by omega, show (2 : Int) + 1 = ((3 : Nat) : Int) by omega, show (2 : Int) = ((2 : Nat) : Int) by omega, t 4 (by omega), t 3 (by omega), t 2 (by omega)]
theorem open_cut (a : Int) (l : List Int) (hl : l.length ≤ 1048575) (n : Nat) (hn : n < l.length + 9) : openS ((sealL a l).take n) = (0, [], 0, 11) := by
  have hs := sealL_length a l
  have hlen : ((sealL a l).take n).length = n := by rw [List.length_take]; omega
  unfold openS
  have h0 : ¬ (1 ≤ ((sealL a l).take n).length ∧ rd ((sealL a l).take n) 0 ≠ 167) := fun h => by
    obtain ⟨m, rfl⟩ : ∃ m, n = m + 1 := ⟨n - 1, by omega⟩
    exact h.2 rfl
  rw [if_neg h0, hlen]
  by_cases h5 : n < 5
  · rw [if_pos h5]
  · have := seal_low a l [] hl
    rw [List.append_nil] at this
    rw [if_neg h5, low3_take _ n (by omega) (by omega), this, if_neg (by omega), if_pos (by omega)]
theorem FrameBackU : ∀ (a0 : Int) (l1 : List Int) (l2 : List Int) (a3 : Int), (Lit.int .u8 a0).wf = true → l1.length ≤ maxLen → l1.length * 1 ≤ 140737488351232 → (∀ x ∈ l1, (Lit.int .u8 x).wf = true) → l2.length ≤ maxLen → l2.length * 1 ≤ 140737488351232 → (∀ x ∈ l2, (Lit.int .u8 x).wf = true) → (Lit.int .i64 a3).wf = true → l1.length ≤ 1048576 → l2.length ≤ 1048576 → ∃ k, reeflaw03_FrameBack.f k a0 l1 l2 a3 = some true := by
  intro a l more cut ha hm1 hl1 hw1 hm2 hl2 hw2 hcut hs1 hs2
  have hb := bytes_of hw1
  have hb2 := bytes_of hw2
  have ha := wf_u8 ha
  refine Ev.rounds (g := fun k => reeflaw03_FrameBack.f k a l more cut) ?_
  unfold reeflaw03_FrameBack.f
  by_cases h : l.length ≤ 1048575
  · refine Ev.bind (seal_ev a l ha hb h) ?_
    have hn := sealL_length a l
    have hsb : bytes (sealL a l) := by
      intro x hx
      simp only [sealL, List.mem_append] at hx
      rcases hx with hx | hx
      · exact headL_bytes ha hb x hx
      · simp only [tailL, List.mem_cons, List.not_mem_nil, or_false] at hx
        rcases hx with rfl | rfl | rfl | rfl <;> omega
    have q1 : 0 + (sealL a l).length < 140737488355328 := by omega
    have q2 : (sealL a l).length + more.length < 140737488355328 := by omega
    have q5 : wrap64 ((sealL a l).length : Int) = ((sealL a l).length : Int) := by
      rw [hn]
      exact wrap_of (by omega) (by omega)
    have q6 : (((sealL a l).length : Int) != wrap64 ((sealL a l).length : Int)) = false := by rw [q5, bne_self_eq_false]
    simp only [if_true, Option.bind_some, List.nil_append, List.length_nil, if_pos q1, if_pos q2]
    refine Ev.bind (g := fun k => frame_Open.f k (sealL a l ++ more)) (open_ev (sealL a l ++ more) (fun x hx => (List.mem_append.1 hx).elim (hsb x) (hb2 x)) (by rw [List.length_append]; omega)) ?_
    rw [open_seal a l more h]
    have q3 : (l.length : Int) + 9 = ((sealL a l).length : Int) := by omega
    have q4 : wrap64 ((l.length : Int) + 9) = (l.length : Int) + 9 := wrap_of (by omega) (by omega)
    simp only [if_true, if_pos q3, q4, q3, bne_self_eq_false]
    have hlen : IntKind.u64.wrap (((sealL a l).length : Nat) : Int) = ((sealL a l).length : Int) := by rw [wrap_u64]; omega
    have hU : 0 ≤ IntKind.u64.wrap cut := by rw [wrap_u64]; omega
    obtain ⟨m, hm, hmn⟩ : ∃ m : Nat, wrap64 (Int.tmod (IntKind.u64.wrap cut) ((sealL a l).length : Int)) = (m : Int) ∧ m < (sealL a l).length := by
      have h1 : Int.tmod (IntKind.u64.wrap cut) ((sealL a l).length : Int) = (IntKind.u64.wrap cut) % ((sealL a l).length : Int) := Int.tmod_eq_emod_of_nonneg hU
      have h2 := Int.emod_nonneg (IntKind.u64.wrap cut) (show ((sealL a l).length : Int) ≠ 0 by omega)
      have h3 := Int.emod_lt_of_pos (IntKind.u64.wrap cut) (show 0 < ((sealL a l).length : Int) by omega)
      rw [h1, wrap_of (by omega) (by omega)]
      exact ⟨((IntKind.u64.wrap cut) % ((sealL a l).length : Int)).toNat, by omega, by omega⟩
    refine Ev.step (f := fun k => (frame_Open.f k ((sealL a l).take m)).bind fun bt => (if bt.2.2.2 = 11 then ((reeflaw03_awake.f k).bind fun t => (some t)) else (none))) (fun k => ?_) ?_
    · simp only [reeflaw03_FrameBack.j0, hlen, hm]
      rw [q6, if_neg Bool.false_ne_true, if_neg (by omega), if_pos (by omega), if_pos (by omega), Int.toNat_natCast]
    · refine Ev.bind (g := fun k => frame_Open.f k ((sealL a l).take m)) (open_ev _ (bytes_take hsb m) (by rw [List.length_take]; omega)) ?_
      rw [open_cut a l h m (by omega)]
      simp only [if_true]
      exact Ev.bind awake_ev (Ev.now _)
  · refine Ev.bind (seal_long a l (by omega)) ?_
    have q : (l.length : Int) > 1048575 := by omega
    simp only [if_pos q]
    exact Ev.bind awake_ev (Ev.now _)
end Go.Proofs.Ytoadflcdpcfibaa.Pure
