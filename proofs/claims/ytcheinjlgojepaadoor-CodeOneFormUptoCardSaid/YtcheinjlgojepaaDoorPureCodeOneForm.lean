-- left of the seat's texts by prune.py, a program of this session
import Derived.Test.YtcheinjlgojepaaDoorP30
import Derived.Test.YtcheinjlgojepaaDoorPureWrite
import Derived.Test.YtcheinjlgojepaaDoorPureNum
import Derived.Test.YtcheinjlgojepaaDoorOps
namespace Go.Proofs.YtcheinjlgojepaaDoor.Pure
open Go.RowKit Go.Proofs.YtcheinjlgojepaaDoor.P Go.Proofs.YtcheinjlgojepaaDoorW.PrintWords Go.Proofs.YtcheinjlgojepaaDoorW.PrintLast Go.Proofs.YtcheinjlgojepaaDoorW.PrintMore
set_option linter.unusedVariables false
theorem ones_sum (l : List Int) : (List.map (fun _ => 1) l).sum = l.length := by
  induction l with
  | nil => rfl
  | cons a l ih => rw [List.map_cons, List.sum_cons, ih, List.length_cons]; omega
theorem bulk31 (l : List Int) (h : B31 l ≤ 1048576) : l.length < 1048576 := by
  have e : B31 l = (List.map (fun _ => 1) l).sum + 1 := rfl
  rw [e, ones_sum] at h
  omega
theorem bulk37 (l : List Int) (h : B37 l ≤ 1048576) : l.length < 1048576 := by
  have e : B37 l = (List.map (fun _ => 1) l).sum + 1 := rfl
  rw [e, ones_sum] at h
  omega
theorem isB_of (l : List Int) (h : ∀ x ∈ l, (Lit.int .u8 x).wf = true) : IsB l := fun n hn => by
  have := bounds_u8 (h n hn)
  omega
theorem one_key (l1 : List Int) (a2 : ByteArray) (h1 : l1.length < 1048576) (h2 : a2.size ≤ 1048576) : Ev (fun k => reeflaw02_CodeOneForm.j0 k l1 a2 false) true := by
  refine Ev.step (f := fun k => (code_ReadKey.f k a2 l1).bind fun bt => (if bt.2 = 0 then ((code_Key.f k bt.1).bind fun t => (if t.toList = a2.toList then ((reeflaw02_awake.f k).bind fun t => (some t)) else (none))) else ((reeflaw02_awake.f k).bind fun t => (some t)))) (fun k => ?_) ?_
  · simp only [reeflaw02_CodeOneForm.j0]
    rw [if_neg Bool.false_ne_true]
  · refine Ev.bind (readKey_ev a2 (by omega) l1 (by omega)) ?_
    by_cases he : (rkR a2 l1).2 = 0
    · obtain ⟨r1, r2, r3, r4, r5⟩ := rkR_read a2 l1 (by omega) he
      simp only [if_pos he]
      refine Ev.bind (key_ev _ (by omega) r2 (by omega)) ?_
      have hk : keyV (rkR a2 l1).1 = a2 := by
        unfold keyV
        rw [if_pos r1, r3, strOf_bytes]
      rw [hk]
      exact Ev.congr (fun k => if_pos rfl) (Ev.bind awake_evr (Ev.now _))
    · simp only [if_neg he]
      exact Ev.bind awake_evr (Ev.now _)
theorem codeOneForm_ev (l0 l1 : List Int) (a2 : ByteArray) (g0 : G31 l0) (b0 : B31 l0 ≤ 1048576) (b1 : B37 l1 ≤ 1048576) (b2 : a2.size ≤ 1048576) : Ev (fun k => reeflaw02_CodeOneForm.f k l0 l1 a2) true := by
  have h0 := bulk31 l0 b0
  have h1 := bulk37 l1 b1
  have hB := isB_of l0 g0.2.2
  unfold reeflaw02_CodeOneForm.f
  refine Ev.bind (read_ev l0 hB (by omega) l1 (by omega)) ?_
  by_cases he : (rdV l1 l0).2.2 = 0
  · obtain ⟨n, r1, r2, r3, r4, r5, r6, r7⟩ := rd_read l1 l0 hB (by omega) he
    simp only [if_pos he]
    have q0 : ¬ (rdV l1 l0).2.1 < 0 := by omega
    have q1 : ¬ (rdV l1 l0).2.1 > (l0.length : Int) := by omega
    have q2 : 0 ≤ (rdV l1 l0).2.1 := by omega
    have q3 : (rdV l1 l0).2.1 ≤ (l0.length : Int) := by omega
    simp only [if_neg q0, if_neg q1, if_pos q2, if_pos q3]
    refine Ev.bind (cfields_ev _ (by omega) r4 (by omega)) ?_
    have hw : wrs (rdV l1 l0).1 = l0.take (rdV l1 l0).2.1.toNat := by
      unfold wrs
      rw [if_pos r3, r5, r1, Int.toNat_natCast]
    rw [hw]
    have e : ((strOfNums (l0.take (rdV l1 l0).2.1.toNat)).toList != (strOfNums (l0.take (rdV l1 l0).2.1.toNat)).toList) = false := bne_self_eq_false _
    rw [e]
    exact one_key l1 a2 h1 b2
  · simp only [if_neg he]
    exact one_key l1 a2 h1 b2
end Go.Proofs.YtcheinjlgojepaaDoor.Pure
namespace Go.Proofs.YtcheinjlgojepaaDoor.P
open Go.RowKit Go.Proofs.YtcheinjlgojepaaDoorW.PrintWords Go.Proofs.YtcheinjlgojepaaDoorW.PrintLast Go.Proofs.YtcheinjlgojepaaDoorW.PrintMore
theorem reeflaw02_CodeOneForm.walkU (A0 : Option Addr) (c0 : Nat) (l0 : List Int) (A1 : Option Addr) (c1 : Nat) (l1 : List Int) (a2 : ByteArray) (w : World) (hr0 : Kd.C (Kd.int .u8) w A0 l0.length l0) (hc0 : l0.length ≤ c0) (g0 : G31 l0) (hr1 : Kd.C (Kd.int .i64) w A1 l1.length l1) (hc1 : l1.length ≤ c1) (g1 : G37 l1) (w2 : a2.size ≤ 140737488351232) (b0 : B31 l0 ≤ 1048576) (b1 : B37 l1 ≤ 1048576) (b2 : a2.size ≤ 1048576) :
    Calls Tryd.prog 6 #[.slice A0 l0.length c0, .slice A1 l1.length c1, .string a2] w fun e w' => e = .returned (.bool true) ∧ Below w.heap.size w w' := by
  obtain ⟨k, hk⟩ := (Pure.codeOneForm_ev l0 l1 a2 g0 b0 b1 b2).rounds
  exact reeflaw02_CodeOneForm.calls k A0 c0 l0 A1 c1 l1 a2 true w hr0 hc0 hr1 hc1 hk
end Go.Proofs.YtcheinjlgojepaaDoor.P
