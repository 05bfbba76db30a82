-- left of the seat's texts by prune.py, a program of this session
import Derived.Test.YtcheinjlgojepaaDoorP0
import Derived.Test.YtcheinjlgojepaaDoorP4
import Derived.Test.YtcheinjlgojepaaDoorP14
import Derived.Test.YtcheinjlgojepaaDoorP15
namespace Go.Proofs.YtcheinjlgojepaaDoor.P
open Go.RowKit Go.Proofs.YtcheinjlgojepaaDoorW.PrintWords Go.Proofs.YtcheinjlgojepaaDoorW.PrintLast Go.Proofs.YtcheinjlgojepaaDoorW.PrintMore
attribute [local go_sem] max2_int min2_int max_two min_two max_three min_three max_four min_four   -- for this text's walks alone
set_option linter.unusedVariables false
set_option linter.unusedSimpArgs false
mutual
def code_Order.l0 : Nat → List (S29) → List (S29) → List (List (S29)) → Int → Int → Option (Int)
 | 0, _, _, _, _, _ => none
 | k + 1, x0, x1, x15, x16, x17 => if x17 < x16 then (if 0 ≤ x17 then (if x17 < (x15.length : Int) then (code_Order.l1 k x0 x1 x15 x16 x17 (rd_L8 x15 x17) ((rd_L8 x15 x17).length : Int) 0) else (none)) else (none)) else (code_Order.l2 k x0 x1 (mn (x0.length : Int) (x1.length : Int)) 0)
def code_Order.l1 : Nat → List (S29) → List (S29) → List (List (S29)) → Int → Int → List (S29) → Int → Int → Option (Int)
 | 0, _, _, _, _, _, _, _, _ => none
 | k + 1, x0, x1, x15, x16, x17, x21, x22, x23 => if x23 < x22 then (if 0 ≤ x23 then (if x23 < (x21.length : Int) then ((code_Fit.f k ((rd_T29 x21 x23).f0) ((rd_T29 x21 x23).f1) ((rd_T29 x21 x23).f2) ((rd_T29 x21 x23).f3)).bind fun t305 => (if t305 = true then (code_Order.l1 k x0 x1 x15 x16 x17 x21 x22 (wrap64 (x23 + 1))) else (some 0))) else (none)) else (none)) else (code_Order.l0 k x0 x1 x15 x16 (wrap64 (x17 + 1)))
def code_Order.l2 : Nat → List (S29) → List (S29) → Int → Int → Option (Int)
 | 0, _, _, _, _ => none
 | k + 1, x0, x1, x36, x37 => if x37 < x36 then (if 0 ≤ x37 then (if x37 < (x0.length : Int) then (if x37 < (x1.length : Int) then ((cmp_Compare_int.f ((rd_T29 x0 x37).f0) ((rd_T29 x1 x37).f0)).bind fun t311 => ((cmp_Compare_int64.f ((rd_T29 x0 x37).f1) ((rd_T29 x1 x37).f1)).bind fun t312 => ((cmp_Compare_string.f ((rd_T29 x0 x37).f2) ((rd_T29 x1 x37).f2)).bind fun t313 => ((code_truth.f ((rd_T29 x0 x37).f3)).bind fun t314 => ((code_truth.f ((rd_T29 x1 x37).f3)).bind fun t315 => ((cmp_Or_int.f k (([t311, t312, t313, wrap64 (t314 - t315)] : List Int))).bind fun t319 => (if t319 = 0 then (code_Order.l2 k x0 x1 x36 (wrap64 (x37 + 1))) else (some t319)))))))) else (none)) else (none)) else (none)) else ((cmp_Compare_int.f (x0.length : Int) (x1.length : Int)).bind fun t306 => (some t306))
end
def code_Order.f (k : Nat) (l0 : List (S29)) (l1 : List (S29)) : Option (Int) := code_Order.l0 k l0 l1 [l0, l1] 2 0
theorem code_Order.mono_l : ∀ k, (∀ y0 y1 y2 y3 y4, LeO (code_Order.l0 k y0 y1 y2 y3 y4) (code_Order.l0 (k + 1) y0 y1 y2 y3 y4)) ∧ (∀ y0 y1 y2 y3 y4 y5 y6 y7, LeO (code_Order.l1 k y0 y1 y2 y3 y4 y5 y6 y7) (code_Order.l1 (k + 1) y0 y1 y2 y3 y4 y5 y6 y7)) ∧ (∀ y0 y1 y2 y3, LeO (code_Order.l2 k y0 y1 y2 y3) (code_Order.l2 (k + 1) y0 y1 y2 y3))
 | 0 => ⟨fun _ _ _ _ _ r h => by simp [code_Order.l0] at h, fun _ _ _ _ _ _ _ _ r h => by simp [code_Order.l1] at h, fun _ _ _ _ r h => by simp [code_Order.l2] at h⟩
 | k + 1 => by
  obtain ⟨ih0, ih1, ih2⟩ := code_Order.mono_l k
  refine ⟨?_, ?_, ?_⟩
  ·intro y0 y1 y2 y3 y4
   unfold code_Order.l0
   repeat' first
   | (with_reducible exact ih0 _ _ _ _ _)
   | (with_reducible exact ih1 _ _ _ _ _ _ _ _)
   | (with_reducible exact ih2 _ _ _ _)
   | (with_reducible exact cmp_Or_int.mono _ _)
   | (with_reducible exact code_Fit.mono _ _ _ _ _)
   | (with_reducible exact LeO.refl _)
   | (with_reducible exact LeO.none _)
   | (with_reducible refine LeO.ite ?_ ?_)
   | (with_reducible refine LeO.bind ?_ (fun _ => ?_))
   | exact ih0 _ _ _ _ _
   | exact ih1 _ _ _ _ _ _ _ _
   | exact ih2 _ _ _ _
   | exact cmp_Or_int.mono _ _
   | exact code_Fit.mono _ _ _ _ _
   | exact LeO.none _
   | refine LeO.ite ?_ ?_
   | refine LeO.bind ?_ (fun _ => ?_)
  ·intro y0 y1 y2 y3 y4 y5 y6 y7
   unfold code_Order.l1
   repeat' first
   | (with_reducible exact ih0 _ _ _ _ _)
   | (with_reducible exact ih1 _ _ _ _ _ _ _ _)
   | (with_reducible exact ih2 _ _ _ _)
   | (with_reducible exact cmp_Or_int.mono _ _)
   | (with_reducible exact code_Fit.mono _ _ _ _ _)
   | (with_reducible exact LeO.refl _)
   | (with_reducible exact LeO.none _)
   | (with_reducible refine LeO.ite ?_ ?_)
   | (with_reducible refine LeO.bind ?_ (fun _ => ?_))
   | exact ih0 _ _ _ _ _
   | exact ih1 _ _ _ _ _ _ _ _
   | exact ih2 _ _ _ _
   | exact cmp_Or_int.mono _ _
   | exact code_Fit.mono _ _ _ _ _
   | exact LeO.none _
   | refine LeO.ite ?_ ?_
   | refine LeO.bind ?_ (fun _ => ?_)
  ·intro y0 y1 y2 y3
   unfold code_Order.l2
   repeat' first
   | (with_reducible exact ih0 _ _ _ _ _)
   | (with_reducible exact ih1 _ _ _ _ _ _ _ _)
   | (with_reducible exact ih2 _ _ _ _)
   | (with_reducible exact cmp_Or_int.mono _ _)
   | (with_reducible exact code_Fit.mono _ _ _ _ _)
   | (with_reducible exact LeO.refl _)
   | (with_reducible exact LeO.none _)
   | (with_reducible refine LeO.ite ?_ ?_)
   | (with_reducible refine LeO.bind ?_ (fun _ => ?_))
   | exact ih0 _ _ _ _ _
   | exact ih1 _ _ _ _ _ _ _ _
   | exact ih2 _ _ _ _
   | exact cmp_Or_int.mono _ _
   | exact code_Fit.mono _ _ _ _ _
   | exact LeO.none _
   | refine LeO.ite ?_ ?_
   | refine LeO.bind ?_ (fun _ => ?_)
theorem code_Order.mono : ∀ a0 a1 k, LeO (code_Order.f k a0 a1) (code_Order.f (k + 1) a0 a1) := by
 intro a0 a1 k
 obtain ⟨ih0, ih1, ih2⟩ := code_Order.mono_l k
 unfold code_Order.f
 repeat' first
   | (with_reducible exact ih0 _ _ _ _ _)
   | (with_reducible exact ih1 _ _ _ _ _ _ _ _)
   | (with_reducible exact ih2 _ _ _ _)
   | (with_reducible exact cmp_Or_int.mono _ _)
   | (with_reducible exact code_Fit.mono _ _ _ _ _)
   | (with_reducible exact LeO.refl _)
   | (with_reducible exact LeO.none _)
   | (with_reducible refine LeO.ite ?_ ?_)
   | (with_reducible refine LeO.bind ?_ (fun _ => ?_))
   | exact ih0 _ _ _ _ _
   | exact ih1 _ _ _ _ _ _ _ _
   | exact ih2 _ _ _ _
   | exact cmp_Or_int.mono _ _
   | exact code_Fit.mono _ _ _ _ _
   | exact LeO.none _
   | refine LeO.ite ?_ ?_
   | refine LeO.bind ?_ (fun _ => ?_)
def code_Order.T14 : Bool × List (List Nat × List Nat) := (true, [([], []), ([], []), ([0, 1], [0, 1]), ([2], [2]), ([], []), ([], []), ([4, 5], [4, 5]), ([6], [6]), ([], []), ([], []), ([8, 3, 0, 1, 2, 3, 8, 9], [3, 8]), ([9, 7, 10, 0, 1, 2, 3, 4, 5, 6, 7, 8, 9, 10], [7, 9])])
def code_Order.B14 : List Nat := [0, 0, 3, 7, 0, 0, 48, 112, 0, 0, 783, 2047]
theorem code_Order.tab14 : rtab .any (opsOf Tryd.f17 14) = code_Order.T14 := by kernel_rfl
theorem code_Order.bits14 : waitsOk code_Order.T14.2 code_Order.B14 = true := by kernel_rfl
def code_Order.T15 : Bool × List (List Nat × List Nat) := (true, [([], []), ([0], [0]), ([], []), ([2], [2]), ([1, 3], [1, 3]), ([], []), ([5], [5]), ([], []), ([7], [7]), ([6, 8, 4], [6, 8]), ([], []), ([10], [10]), ([], []), ([12], [12]), ([11, 13, 9], [11, 13]), ([], []), ([15], [15]), ([16, 14], [16]), ([], []), ([18], [18]), ([19, 17], [19]), ([17, 20], [17, 20]), ([4, 9, 14, 21], [4, 9, 14, 21]), ([22, 20], [22]), ([23, 23, 0, 1, 2, 3, 4, 5, 6, 7, 8, 9, 10, 11, 12, 13, 14, 15, 16, 17, 18, 19, 20, 21, 22, 23], [23])])
def code_Order.B15 : List Nat := [0, 1, 0, 4, 15, 0, 32, 0, 128, 511, 0, 1024, 0, 4096, 16383, 0, 32768, 131071, 0, 262144, 1048575, 2097151, 4194303, 8388607, 16777215]
theorem code_Order.tab15 : rtab .any (opsOf Tryd.f17 15) = code_Order.T15 := by kernel_rfl
theorem code_Order.bits15 : waitsOk code_Order.T15.2 code_Order.B15 = true := by kernel_rfl
set_option maxHeartbeats 8000000 in
set_option maxRecDepth 100000 in
theorem code_Order.calls (k : Nat) (A0 : Option Addr) (c0 : Nat) (l0 : List (S29)) (A1 : Option Addr) (c1 : Nat) (l1 : List (S29)) (r : Int) (w_ : World) (hr0 : Kd.C k29 w_ A0 l0.length l0) (hc0 : l0.length ≤ c0) (hr1 : Kd.C k29 w_ A1 l1.length l1) (hc1 : l1.length ≤ c1) (h : code_Order.f k l0 l1 = some r) :
  Calls Tryd.prog 17 #[.slice A0 l0.length c0, .slice A1 l1.length c1] w_ fun e w' => e = .returned (.int .i64 r) ∧ Below w_.heap.size w_ w' := by
 have hu29 := Tryd.underlying29
 obtain ⟨w, hw⟩ : ∃ w, w_.alloc (Obj.cells #[.slice A0 l0.length c0, .slice A1 l1.length c1] 26) = w := ⟨_, rfl⟩
 have hb1 : Below w_.heap.size w_ w := by rw [← hw]; exact below_alloc (Below.refl _ _) _
 have hr0' : Kd.C k29 w A0 l0.length l0 := Kd.C_below hr0 hb1
 have hr1' : Kd.C k29 w A1 l1.length l1 := Kd.C_below hr1 hb1
 obtain ⟨A2, hA2⟩ : ∃ A2 : Option Addr, A2 = some ⟨w_.heap.size, 0, none⟩ := ⟨_, rfl⟩
 obtain ⟨l2, hl2⟩ : ∃ l2 : List (List S29), l2 = [l0, l1] := ⟨_, rfl⟩
 have e2 : l2.length = 2 := by rw [hl2]; rfl
 obtain ⟨c2, hc2⟩ : ∃ c2 : Nat, c2 = 2 := ⟨_, rfl⟩
 have hr2 : Kd.C (Kd.slice 29 k29) w A2 l2.length l2 := by
  rw [hA2, hl2]
  have hbk : w.heap[w_.heap.size]? = some (.cells #[.slice A0 l0.length c0, .slice A1 l1.length c1] 26 (0, 0)) := by rw [← hw]; exact blk_new w_ _
  refine ⟨rfl, by simp, fun _ => ⟨⟨w_.heap.size, 0, none⟩, rfl, fun j p hj => ?_⟩⟩
  match j, hj with
  | 0, hj =>
   cases hj
   exact ⟨[.slice A0 l0.length c0], rfl, ⟨A0, c0, rfl, hc0, hr0'⟩, fun i u hi => by
    match i, hi with
    | 0, hi => cases hi; exact (by simp [World.cell?, Addr.add, hbk])⟩
  | 1, hj =>
   cases hj
   exact ⟨[.slice A1 l1.length c1], rfl, ⟨A1, c1, rfl, hc1, hr1'⟩, fun i u hi => by
    match i, hi with
    | 0, hi => cases hi; exact (by simp [World.cell?, Addr.add, hbk, Kd.slice])⟩
 refine Calls.mono (R := fun e w' => e = .returned (.int .i64 r) ∧ Below w.heap.size w w') ?_ (fun e w' ⟨he, hb⟩ => ⟨he, below_step hb1 hb⟩)
 have HR0 := Aside0.mk hr0'
 have HC0 := Aside0.mk hc0
 clear hr0 hr0' hc0
 have HR1 := Aside0.mk hr1'
 have HC1 := Aside0.mk hc1
 clear hr1 hr1' hc1
 have HR2 := Aside0.mk hr2
 have HC2 := Aside0.mk (show l2.length ≤ c2 by rw [e2, hc2]; exact Nat.le_refl _)
 clear hr2
 have HB := Aside0.mk (Below.refl w.heap.size w)
 have H : (code_Order.l0 k l0 l1 l2 (l2.length : Int) 0) = some r := by rw [hl2]; exact h
 clear h
 have H' := Aside0.mk H
 have HW := Aside0.mk hw
 have HA2 := Aside0.mk hA2
 have HL2 := Aside0.mk e2
 have HD2 := Aside0.mk hc2
 clear H hw hA2 hl2 e2 hc2 hb1
 go_enter Tryd.func17, Tryd.ntmps17
 go_upto_region 1 with (fail)
 go_cut [15, 16, 17] (fun v15 v16 v17 wc => v15 = .slice A2 l2.length c2 ∧ v16 = .int .i64 (l2.length : Int) ∧ v17 = .int .i64 0 ∧ w = wc)
 case first =>
  go_wp2
  go_meet
  case rel => exact ⟨by rw [HA2.out, HL2.out, HD2.out], by rw [HL2.out]; rfl, rfl, HW.out.symm⟩
 case rest =>
 obtain ⟨rfl, rfl, rfl, rfl⟩ := hcut
 clear HW HA2 HL2 HD2
 go_wp2
 go_loopg [17] k (fun kq v17 w' => ∃ (x17_1 : Int), v17 = .int .i64 x17_1 ∧ Aside0 (code_Order.l0 kq l0 l1 l2 (l2.length : Int) x17_1 = some r) ∧ Aside0 (kq ≤ k) ∧ Aside0 (Below w.heap.size w w'))
 case atStart => exact ⟨(0), (by first | rfl | (simp; done) | (simp [*]; done)), H', ⟨Nat.le_refl _⟩, ⟨by repeat (first | (with_reducible first | exact HB.out | apply below_alloc | apply pw_below_drewN | apply below_drew1) | exact HB.out)⟩⟩
 case round =>
  clear H'
  try clear c1
  try clear c2
  try clear p2
  obtain ⟨x17_1, rfl, HA, HK1, HB⟩ := hrel
  cases gk with
  | zero => exact absurd HA.out (by simp [code_Order.l0])
  | succ k1 =>
   have H := HA.out
   clear HA
   simp only [code_Order.l0] at H
   by_cases c4 : x17_1 < (l2.length : Int)
   ·rw [if_pos c4] at H
    have c4b0 : decide (x17_1 < (l2.length : Int)) = true := decide_eq_true c4
    clear c4
    by_cases c5 : 0 ≤ x17_1
    ·rw [if_pos c5] at H
     have c5b0 : decide (0 ≤ x17_1) = true := decide_eq_true c5
     clear c5
     by_cases c6 : x17_1 < (l2.length : Int)
     ·rw [if_pos c6] at H
      have c6b0 : decide (x17_1 < (l2.length : Int)) = true := decide_eq_true c6
      clear c6
      have H' := Aside0.mk H
      clear H
      have p302 : 0 ≤ (x17_1 : Int) := of_decide_eq_true (by first | (with_reducible assumption) | assumption)
      have q302 : x17_1 < (l2.length : Int) := of_decide_eq_true (by first | (with_reducible assumption) | assumption)
      obtain ⟨ad302, A302_0, c302_0, e302, hx302_0, hl302_0, hi302_0⟩ := at_L8 HR2.out x17_1 p302 q302
      cases e302
      replace hx302_0 := (HB.out.cell (World.block_lt_of_cell? w _ hx302_0)).trans hx302_0
      have HR302_0 := Aside0.mk hi302_0
      have HC302_0 := Aside0.mk hl302_0
      clear hi302_0 hl302_0
      replace p302 := eq_true p302
      replace q302 := eq_true q302
      go_wp2
      go_loopg [23] k1 (fun kq v23 w' => ∃ (x23_2 : Int), v23 = .int .i64 x23_2 ∧ Aside0 (code_Order.l1 kq l0 l1 l2 (l2.length : Int) x17_1 (rd_L8 l2 x17_1) ((rd_L8 l2 x17_1).length : Int) x23_2 = some r) ∧ Aside0 (kq ≤ k1) ∧ Aside0 (Below w.heap.size w w'))
      case atStart => exact ⟨(0), (by first | rfl | (simp; done) | (simp [*]; done)), H', ⟨Nat.le_refl _⟩, ⟨by repeat (first | (with_reducible first | exact HB.out | apply below_alloc | apply pw_below_drewN | apply below_drew1) | exact HB.out)⟩⟩
      case round =>
       clear H'
       try clear c1
       try clear c2
       try clear p2
       try clear c3
       try clear p3
       try clear q3
       try clear hx3
       try clear c4
       try clear c4b0
       try clear c5
       try clear c5b0
       try clear c6
       try clear c6b0
       try clear hx302_0
       try clear p2
       try clear p302
       try clear q302
       obtain ⟨x23_2, rfl, HA, HK2, HB⟩ := hrel
       cases gk with
       | zero => exact absurd HA.out (by simp [code_Order.l1])
       | succ k2 =>
        have H := HA.out
        clear HA
        simp only [code_Order.l1] at H
        by_cases c7 : x23_2 < ((rd_L8 l2 x17_1).length : Int)
        ·rw [if_pos c7] at H
         have c7b0 : decide (x23_2 < ((rd_L8 l2 x17_1).length : Int)) = true := decide_eq_true c7
         clear c7
         by_cases c8 : 0 ≤ x23_2
         ·rw [if_pos c8] at H
          have c8b0 : decide (0 ≤ x23_2) = true := decide_eq_true c8
          clear c8
          by_cases c9 : x23_2 < ((rd_L8 l2 x17_1).length : Int)
          ·rw [if_pos c9] at H
           have c9b0 : decide (x23_2 < ((rd_L8 l2 x17_1).length : Int)) = true := decide_eq_true c9
           clear c9
           replace H := Option.bind_eq_some_iff.mp H
           obtain ⟨t305, A100, H⟩ := H
           replace H : (if t305 = true then (code_Order.l1 k2 l0 l1 l2 (l2.length : Int) x17_1 (rd_L8 l2 x17_1) ((rd_L8 l2 x17_1).length : Int) (wrap64 (x23_2 + 1))) else (some 0)) = some r := H
           have A10 := Aside0.mk A100
           clear A100
           by_cases c11 : t305 = true
           ·subst c11
            have H1 : (code_Order.l1 k2 l0 l1 l2 (l2.length : Int) x17_1 (rd_L8 l2 x17_1) ((rd_L8 l2 x17_1).length : Int) (wrap64 (x23_2 + 1))) = some r := by rw [if_pos rfl] at H; exact H
            clear H
            have H := H1
            clear H1
            have H' := Aside0.mk H
            clear H
            have p303 : 0 ≤ (x23_2 : Int) := of_decide_eq_true (by first | (with_reducible assumption) | assumption)
            have q303 : x23_2 < ((rd_L8 l2 x17_1).length : Int) := of_decide_eq_true (by first | (with_reducible assumption) | assumption)
            obtain ⟨ad303, e303, hx303_0, hx303_1, hx303_2, hx303_3⟩ := at_T29 HR302_0.out x23_2 p303 q303
            cases e303
            replace hx303_0 := (HB.out.cell (World.block_lt_of_cell? w _ hx303_0)).trans hx303_0
            replace hx303_1 := (HB.out.cell (World.block_lt_of_cell? w _ hx303_1)).trans hx303_1
            replace hx303_2 := (HB.out.cell (World.block_lt_of_cell? w _ hx303_2)).trans hx303_2
            replace hx303_3 := (HB.out.cell (World.block_lt_of_cell? w _ hx303_3)).trans hx303_3
            replace p303 := eq_true p303
            replace q303 := eq_true q303
            go_wp2_with (first | ((with_reducible refine gate_dst (N := 8) rfl ?_); refine box_event ?hg (N := 8) ?hd (cs := #[.int .i64 0, .int .i64 0, .string (⟨#[]⟩ : ByteArray), .bool false]) (t := 29) ?hr ?_; (case hd => rfl); (case hg => rfl); (case hr => first | (go_simp; done) | (go_simp; rfl)); intro gb304 hg w12 hbox hb; have n0_ := Aside0.mk (below_step (by repeat (first | (with_reducible first | exact HB.out | apply below_alloc | apply pw_below_drewN | apply below_drew1) | exact HB.out)) hb); have n1_ := Aside0.mk (hbox); have n2_ := Aside0.mk ((by rw [hg]; exact (below_size (by repeat (first | (with_reducible first | exact HB.out | apply below_alloc | apply pw_below_drewN | apply below_drew1) | exact HB.out))) : w.heap.size ≤ gb304)); have n3_ := n2_; clear HB; have HB := n0_; have BK304 := n1_; have GW304 := n2_; have GE304 := n3_; clear n0_ n1_ n2_ n3_; clear hb hbox hg; obtain ⟨hcz13_0, hcz13_1, hcz13_2, hcz13_3⟩ := blkC4 w12 gb304 (.int .i64 0) (.int .i64 0) (.string (⟨#[]⟩ : ByteArray)) (.bool false) BK304.out; obtain ⟨hfz13_0, hfz13_1, hfz13_2, hfz13_3⟩ := blkF4 BK304.out) | ((with_reducible refine gate_callee (f := 11) rfl ?_); refine goesL_ (some 28) rfl rfl Tryd.func11 (by kernel_rfl) rfl #[.agg #[.int .i64 ((rd_T29 (rd_L8 l2 x17_1) x23_2).f0), .int .i64 ((rd_T29 (rd_L8 l2 x17_1) x23_2).f1), .string ((rd_T29 (rd_L8 l2 x17_1) x23_2).f2), .bool ((rd_T29 (rd_L8 l2 x17_1) x23_2).f3)]] rfl (by (try simp only [List.map_toArray, List.map_cons, List.map_nil]); first | done | rfl | (simp only [List.length_drop, List.length_take]; rfl)) ?_; (with_reducible refine (code_Fit.calls k2 ((rd_T29 (rd_L8 l2 x17_1) x23_2).f0) ((rd_T29 (rd_L8 l2 x17_1) x23_2).f1) ((rd_T29 (rd_L8 l2 x17_1) x23_2).f2) ((rd_T29 (rd_L8 l2 x17_1) x23_2).f3) true _ A10.out).mono ?_); rintro e w14 ⟨rfl, hb⟩; refine ⟨_, rfl, ?_⟩; have n0_ := Aside0.mk (blk_below (g := gb304) (o := .cells #[.int .i64 ((rd_T29 (rd_L8 l2 x17_1) x23_2).f0), .int .i64 ((rd_T29 (rd_L8 l2 x17_1) x23_2).f1), .string ((rd_T29 (rd_L8 l2 x17_1) x23_2).f2), .bool ((rd_T29 (rd_L8 l2 x17_1) x23_2).f3)] 29 (0, 0)) (by (with_reducible repeat (first | apply bN | apply bD | apply bA)); refine blk_put (cs := #[.int .i64 ((rd_T29 (rd_L8 l2 x17_1) x23_2).f0), .int .i64 ((rd_T29 (rd_L8 l2 x17_1) x23_2).f1), .string ((rd_T29 (rd_L8 l2 x17_1) x23_2).f2), .bool false]) ?_ 3 _ rfl; (with_reducible repeat (first | apply bN | apply bD | apply bA)); refine blk_put (cs := #[.int .i64 ((rd_T29 (rd_L8 l2 x17_1) x23_2).f0), .int .i64 ((rd_T29 (rd_L8 l2 x17_1) x23_2).f1), .string (⟨#[]⟩ : ByteArray), .bool false]) ?_ 2 _ rfl; (with_reducible repeat (first | apply bN | apply bD | apply bA)); refine blk_put (cs := #[.int .i64 ((rd_T29 (rd_L8 l2 x17_1) x23_2).f0), .int .i64 0, .string (⟨#[]⟩ : ByteArray), .bool false]) ?_ 1 _ rfl; (with_reducible repeat (first | apply bN | apply bD | apply bA)); refine blk_put (cs := #[.int .i64 0, .int .i64 0, .string (⟨#[]⟩ : ByteArray), .bool false]) ?_ 0 _ rfl; (with_reducible repeat (first | apply bN | apply bD | apply bA)); exact BK304.out) hb); have n1_ := Aside0.mk (below_step (by repeat (first | (with_reducible first | exact HB.out | apply below_alloc | apply pw_below_drewN | apply below_drew1 | refine below_set ?_ GE304.out) | exact HB.out)) hb); clear BK304; clear HB; have BK304 := n0_; have HB := n1_; clear n0_ n1_; (try clear hb); (try clear hb2); (try clear hk); (try clear hi)))
            go_roundg k2
            case measure => have := HK1.out; have := HK2.out; omega
            case rel => exact ⟨(wrap64 (x23_2 + 1)), (by first | rfl | (simp; done) | (simp [*]; done)), H', ⟨by have := HK1.out; have := HK2.out; omega⟩, ⟨by repeat (first | (with_reducible first | exact HB.out | apply below_alloc | apply pw_below_drewN | apply below_drew1 | refine below_set ?_ GE304.out) | exact HB.out)⟩⟩
           ·replace c11 := Bool.eq_false_iff.mpr c11
            subst c11
            have H1 : (some 0) = some r := by rw [if_neg (show ¬ (false = true) by decide)] at H; exact H
            clear H
            have H := H1
            clear H1
            obtain rfl := Option.some.inj H
            have p303 : 0 ≤ (x23_2 : Int) := of_decide_eq_true (by first | (with_reducible assumption) | assumption)
            have q303 : x23_2 < ((rd_L8 l2 x17_1).length : Int) := of_decide_eq_true (by first | (with_reducible assumption) | assumption)
            obtain ⟨ad303, e303, hx303_0, hx303_1, hx303_2, hx303_3⟩ := at_T29 HR302_0.out x23_2 p303 q303
            cases e303
            replace hx303_0 := (HB.out.cell (World.block_lt_of_cell? w _ hx303_0)).trans hx303_0
            replace hx303_1 := (HB.out.cell (World.block_lt_of_cell? w _ hx303_1)).trans hx303_1
            replace hx303_2 := (HB.out.cell (World.block_lt_of_cell? w _ hx303_2)).trans hx303_2
            replace hx303_3 := (HB.out.cell (World.block_lt_of_cell? w _ hx303_3)).trans hx303_3
            replace p303 := eq_true p303
            replace q303 := eq_true q303
            go_wp2_with (first | ((with_reducible refine gate_dst (N := 8) rfl ?_); refine box_event ?hg (N := 8) ?hd (cs := #[.int .i64 0, .int .i64 0, .string (⟨#[]⟩ : ByteArray), .bool false]) (t := 29) ?hr ?_; (case hd => rfl); (case hg => rfl); (case hr => first | (go_simp; done) | (go_simp; rfl)); intro gb304 hg w15 hbox hb; have n0_ := Aside0.mk (below_step (by repeat (first | (with_reducible first | exact HB.out | apply below_alloc | apply pw_below_drewN | apply below_drew1) | exact HB.out)) hb); have n1_ := Aside0.mk (hbox); have n2_ := Aside0.mk ((by rw [hg]; exact (below_size (by repeat (first | (with_reducible first | exact HB.out | apply below_alloc | apply pw_below_drewN | apply below_drew1) | exact HB.out))) : w.heap.size ≤ gb304)); have n3_ := n2_; clear HB; have HB := n0_; have BK304 := n1_; have GW304 := n2_; have GE304 := n3_; clear n0_ n1_ n2_ n3_; clear hb hbox hg; obtain ⟨hcz16_0, hcz16_1, hcz16_2, hcz16_3⟩ := blkC4 w15 gb304 (.int .i64 0) (.int .i64 0) (.string (⟨#[]⟩ : ByteArray)) (.bool false) BK304.out; obtain ⟨hfz16_0, hfz16_1, hfz16_2, hfz16_3⟩ := blkF4 BK304.out) | ((with_reducible refine gate_callee (f := 11) rfl ?_); refine goesL_ (some 28) rfl rfl Tryd.func11 (by kernel_rfl) rfl #[.agg #[.int .i64 ((rd_T29 (rd_L8 l2 x17_1) x23_2).f0), .int .i64 ((rd_T29 (rd_L8 l2 x17_1) x23_2).f1), .string ((rd_T29 (rd_L8 l2 x17_1) x23_2).f2), .bool ((rd_T29 (rd_L8 l2 x17_1) x23_2).f3)]] rfl (by (try simp only [List.map_toArray, List.map_cons, List.map_nil]); first | done | rfl | (simp only [List.length_drop, List.length_take]; rfl)) ?_; (with_reducible refine (code_Fit.calls k2 ((rd_T29 (rd_L8 l2 x17_1) x23_2).f0) ((rd_T29 (rd_L8 l2 x17_1) x23_2).f1) ((rd_T29 (rd_L8 l2 x17_1) x23_2).f2) ((rd_T29 (rd_L8 l2 x17_1) x23_2).f3) false _ A10.out).mono ?_); rintro e w17 ⟨rfl, hb⟩; refine ⟨_, rfl, ?_⟩; have n0_ := Aside0.mk (blk_below (g := gb304) (o := .cells #[.int .i64 ((rd_T29 (rd_L8 l2 x17_1) x23_2).f0), .int .i64 ((rd_T29 (rd_L8 l2 x17_1) x23_2).f1), .string ((rd_T29 (rd_L8 l2 x17_1) x23_2).f2), .bool ((rd_T29 (rd_L8 l2 x17_1) x23_2).f3)] 29 (0, 0)) (by (with_reducible repeat (first | apply bN | apply bD | apply bA)); refine blk_put (cs := #[.int .i64 ((rd_T29 (rd_L8 l2 x17_1) x23_2).f0), .int .i64 ((rd_T29 (rd_L8 l2 x17_1) x23_2).f1), .string ((rd_T29 (rd_L8 l2 x17_1) x23_2).f2), .bool false]) ?_ 3 _ rfl; (with_reducible repeat (first | apply bN | apply bD | apply bA)); refine blk_put (cs := #[.int .i64 ((rd_T29 (rd_L8 l2 x17_1) x23_2).f0), .int .i64 ((rd_T29 (rd_L8 l2 x17_1) x23_2).f1), .string (⟨#[]⟩ : ByteArray), .bool false]) ?_ 2 _ rfl; (with_reducible repeat (first | apply bN | apply bD | apply bA)); refine blk_put (cs := #[.int .i64 ((rd_T29 (rd_L8 l2 x17_1) x23_2).f0), .int .i64 0, .string (⟨#[]⟩ : ByteArray), .bool false]) ?_ 1 _ rfl; (with_reducible repeat (first | apply bN | apply bD | apply bA)); refine blk_put (cs := #[.int .i64 0, .int .i64 0, .string (⟨#[]⟩ : ByteArray), .bool false]) ?_ 0 _ rfl; (with_reducible repeat (first | apply bN | apply bD | apply bA)); exact BK304.out) hb); have n1_ := Aside0.mk (below_step (by repeat (first | (with_reducible first | exact HB.out | apply below_alloc | apply pw_below_drewN | apply below_drew1 | refine below_set ?_ GE304.out) | exact HB.out)) hb); clear BK304; clear HB; have BK304 := n0_; have HB := n1_; clear n0_ n1_; (try clear hb); (try clear hb2); (try clear hk); (try clear hi)))
            go_ret
            exact ⟨by first | rfl | (simp [errW_none, errW_some] <;> rfl) | (simp [*, errW_none, errW_some] <;> rfl), by repeat (first | (with_reducible first | exact HB.out | apply below_alloc | apply pw_below_drewN | apply below_drew1 | refine below_set ?_ GE304.out) | exact HB.out)⟩
          ·rw [if_neg c9] at H
           exact absurd H (by simp)
         ·rw [if_neg c8] at H
          exact absurd H (by simp)
        ·rw [if_neg c7] at H
         have c7b0 : decide (x23_2 < ((rd_L8 l2 x17_1).length : Int)) = false := decide_eq_false c7
         clear c7
         have H' := Aside0.mk H
         clear H
         go_wp2
         go_roundg k2
         case measure => have := HK1.out; have := HK2.out; omega
         case rel => exact ⟨(wrap64 (x17_1 + 1)), (by first | rfl | (simp; done) | (simp [*]; done)), H', ⟨by have := HK1.out; have := HK2.out; omega⟩, ⟨by repeat (first | (with_reducible first | exact HB.out | apply below_alloc | apply pw_below_drewN | apply below_drew1) | exact HB.out)⟩⟩
     ·rw [if_neg c6] at H
      exact absurd H (by simp)
    ·rw [if_neg c5] at H
     exact absurd H (by simp)
   ·rw [if_neg c4] at H
    have c4b0 : decide (x17_1 < (l2.length : Int)) = false := decide_eq_false c4
    clear c4
    obtain ⟨ji18, hji18⟩ : ∃ j_ : Int, (mn (l0.length : Int) (l1.length : Int)) = j_ := ⟨_, rfl⟩
    replace H : (code_Order.l2 k1 l0 l1 ji18 0) = some r := by first | (rw [hji18] at H; exact H) | (simp only [hji18] at H ⊢; exact H)
    have hji18_ : (if (l1.length : Int) < (l0.length : Int) then (l1.length : Int) else (l0.length : Int)) = ji18 := hji18
    have hji18n : (if l1.length < l0.length then (l1.length : Int) else (l0.length : Int)) = ji18 := by rw [← hji18]; unfold mn; simp only [Int.ofNat_lt]
    have H' := Aside0.mk H
    clear H
    go_wp2
    go_loopg [37] k1 (fun kq v37 w' => ∃ (x37_2 : Int), v37 = .int .i64 x37_2 ∧ Aside0 (code_Order.l2 kq l0 l1 ji18 x37_2 = some r) ∧ Aside0 (kq ≤ k1) ∧ Aside0 (Below w.heap.size w w'))
    case atStart => exact ⟨(0), (by first | rfl | (simp; done) | (simp [*]; done)), H', ⟨Nat.le_refl _⟩, ⟨by repeat (first | (with_reducible first | exact HB.out | apply below_alloc | apply pw_below_drewN | apply below_drew1) | exact HB.out)⟩⟩
    case round =>
     clear H'
     try clear c1
     try clear c2
     try clear p2
     try clear c3
     try clear p3
     try clear q3
     try clear hx3
     try clear c4
     try clear c4b0
     try clear c5
     try clear c5b0
     try clear c6
     try clear c6b0
     try clear p6
     try clear c7
     try clear c7b0
     try clear c8
     try clear c8b0
     try clear c9
     try clear c9b0
     try clear c11
     try clear c17
     try clear hcz13_0 hcz13_1 hcz13_2 hcz13_3
     try clear hcz16_0 hcz16_1 hcz16_2 hcz16_3
     try clear hfz13_0 hfz13_1 hfz13_2 hfz13_3
     try clear hfz16_0 hfz16_1 hfz16_2 hfz16_3
     try clear hx302_0
     try clear hx303_0 hx303_1 hx303_2 hx303_3
     try clear p2
     try clear p3
     try clear p302
     try clear p303
     try clear q3
     try clear q302
     try clear q303
     obtain ⟨x37_2, rfl, HA, HK2, HB⟩ := hrel
     cases gk with
     | zero => exact absurd HA.out (by simp [code_Order.l2])
     | succ k2 =>
      have H := HA.out
      clear HA
      simp only [code_Order.l2] at H
      by_cases c19 : x37_2 < ji18
      ·rw [if_pos c19] at H
       have c19b0 : decide (x37_2 < ji18) = true := decide_eq_true c19
       clear c19
       by_cases c20 : 0 ≤ x37_2
       ·rw [if_pos c20] at H
        have c20b0 : decide (0 ≤ x37_2) = true := decide_eq_true c20
        clear c20
        by_cases c21 : x37_2 < (l0.length : Int)
        ·rw [if_pos c21] at H
         have c21b0 : decide (x37_2 < (l0.length : Int)) = true := decide_eq_true c21
         clear c21
         by_cases c22 : x37_2 < (l1.length : Int)
         ·rw [if_pos c22] at H
          have c22b0 : decide (x37_2 < (l1.length : Int)) = true := decide_eq_true c22
          clear c22
          replace H := Option.bind_eq_some_iff.mp H
          obtain ⟨t311, A230, H⟩ := H
          replace H : ((cmp_Compare_int64.f ((rd_T29 l0 x37_2).f1) ((rd_T29 l1 x37_2).f1)).bind fun t312 => ((cmp_Compare_string.f ((rd_T29 l0 x37_2).f2) ((rd_T29 l1 x37_2).f2)).bind fun t313 => ((code_truth.f ((rd_T29 l0 x37_2).f3)).bind fun t314 => ((code_truth.f ((rd_T29 l1 x37_2).f3)).bind fun t315 => ((cmp_Or_int.f k2 (([t311, t312, t313, wrap64 (t314 - t315)] : List Int))).bind fun t319 => (if t319 = 0 then (code_Order.l2 k2 l0 l1 ji18 (wrap64 (x37_2 + 1))) else (some t319))))))) = some r := H
          have A23 := Aside0.mk A230
          clear A230
          replace H := Option.bind_eq_some_iff.mp H
          obtain ⟨t312, A240, H⟩ := H
          replace H : ((cmp_Compare_string.f ((rd_T29 l0 x37_2).f2) ((rd_T29 l1 x37_2).f2)).bind fun t313 => ((code_truth.f ((rd_T29 l0 x37_2).f3)).bind fun t314 => ((code_truth.f ((rd_T29 l1 x37_2).f3)).bind fun t315 => ((cmp_Or_int.f k2 (([t311, t312, t313, wrap64 (t314 - t315)] : List Int))).bind fun t319 => (if t319 = 0 then (code_Order.l2 k2 l0 l1 ji18 (wrap64 (x37_2 + 1))) else (some t319)))))) = some r := H
          have A24 := Aside0.mk A240
          clear A240
          replace H := Option.bind_eq_some_iff.mp H
          obtain ⟨t313, A250, H⟩ := H
          replace H : ((code_truth.f ((rd_T29 l0 x37_2).f3)).bind fun t314 => ((code_truth.f ((rd_T29 l1 x37_2).f3)).bind fun t315 => ((cmp_Or_int.f k2 (([t311, t312, t313, wrap64 (t314 - t315)] : List Int))).bind fun t319 => (if t319 = 0 then (code_Order.l2 k2 l0 l1 ji18 (wrap64 (x37_2 + 1))) else (some t319))))) = some r := H
          have A25 := Aside0.mk A250
          clear A250
          replace H := Option.bind_eq_some_iff.mp H
          obtain ⟨t314, A260, H⟩ := H
          replace H : ((code_truth.f ((rd_T29 l1 x37_2).f3)).bind fun t315 => ((cmp_Or_int.f k2 (([t311, t312, t313, wrap64 (t314 - t315)] : List Int))).bind fun t319 => (if t319 = 0 then (code_Order.l2 k2 l0 l1 ji18 (wrap64 (x37_2 + 1))) else (some t319)))) = some r := H
          have A26 := Aside0.mk A260
          clear A260
          replace H := Option.bind_eq_some_iff.mp H
          obtain ⟨t315, A270, H⟩ := H
          replace H : ((cmp_Or_int.f k2 (([t311, t312, t313, wrap64 (t314 - t315)] : List Int))).bind fun t319 => (if t319 = 0 then (code_Order.l2 k2 l0 l1 ji18 (wrap64 (x37_2 + 1))) else (some t319))) = some r := H
          have A27 := Aside0.mk A270
          clear A270
          obtain ⟨y316, hy316⟩ : ∃ y_ : List Int, y_ = (([t311, t312, t313, wrap64 (t314 - t315)] : List Int)) := ⟨_, rfl⟩
          replace H : ((cmp_Or_int.f k2 y316).bind fun t319 => (if t319 = 0 then (code_Order.l2 k2 l0 l1 ji18 (wrap64 (x37_2 + 1))) else (some t319))) = some r := by first | (rw [hy316]; with_reducible exact H) | (have H2_ := (Option.bind_some _ _).symm.trans H; rw [hy316]; with_reducible exact H2_) | (have H2_ := (Option.bind_some _ _).symm.trans H; with_reducible exact H2_) | with_reducible exact H | (rw [hy316]; exact H) | exact H
          have Ny316 := Aside0.mk hy316
          clear hy316
          replace H := Option.bind_eq_some_iff.mp H
          obtain ⟨t319, A280, H⟩ := H
          replace H : (if t319 = 0 then (code_Order.l2 k2 l0 l1 ji18 (wrap64 (x37_2 + 1))) else (some t319)) = some r := H
          have A28 := Aside0.mk A280
          clear A280
          by_cases c29 : t319 = 0
          ·rw [if_pos c29] at H
           have c29b0 : (t319 == 0) = true := beq_iff_eq.mpr c29
           have c29b1 : (t319 != 0) = false := bne_eq_false_iff_eq.mpr c29
           clear c29
           have H' := Aside0.mk H
           clear H
           try go_wp2
           have n0_ := Aside0.mk (below_drew1 HB.out)
           clear HB
           have HB := n0_
           clear n0_
           have p307 : 0 ≤ (x37_2 : Int) := of_decide_eq_true (by first | (with_reducible assumption) | assumption)
           have q307 : x37_2 < (l0.length : Int) := of_decide_eq_true (by first | (with_reducible assumption) | assumption)
           obtain ⟨ad307, e307, hx307_0, hx307_1, hx307_2, hx307_3⟩ := at_T29 HR0.out x37_2 p307 q307
           have hw307_3 := hx307_3
           have hw307_2 := hx307_2
           have hw307_1 := hx307_1
           have hw307_0 := hx307_0
           cases e307
           replace hx307_0 := (HB.out.cell (World.block_lt_of_cell? w _ hx307_0)).trans hx307_0
           replace hx307_1 := (HB.out.cell (World.block_lt_of_cell? w _ hx307_1)).trans hx307_1
           replace hx307_2 := (HB.out.cell (World.block_lt_of_cell? w _ hx307_2)).trans hx307_2
           replace hx307_3 := (HB.out.cell (World.block_lt_of_cell? w _ hx307_3)).trans hx307_3
           replace p307 := eq_true p307
           replace q307 := eq_true q307
           have p308 : 0 ≤ (x37_2 : Int) := of_decide_eq_true (by first | (with_reducible assumption) | assumption)
           have q308 : x37_2 < (l1.length : Int) := of_decide_eq_true (by first | (with_reducible assumption) | assumption)
           obtain ⟨ad308, e308, hx308_0, hx308_1, hx308_2, hx308_3⟩ := at_T29 HR1.out x37_2 p308 q308
           have hw308_3 := hx308_3
           have hw308_2 := hx308_2
           have hw308_1 := hx308_1
           have hw308_0 := hx308_0
           cases e308
           replace hx308_0 := (HB.out.cell (World.block_lt_of_cell? w _ hx308_0)).trans hx308_0
           replace hx308_1 := (HB.out.cell (World.block_lt_of_cell? w _ hx308_1)).trans hx308_1
           replace hx308_2 := (HB.out.cell (World.block_lt_of_cell? w _ hx308_2)).trans hx308_2
           replace hx308_3 := (HB.out.cell (World.block_lt_of_cell? w _ hx308_3)).trans hx308_3
           replace p308 := eq_true p308
           replace q308 := eq_true q308
           refine start_ (n := 12) (S := fun w' => w'.cell? (ad307.add ((x37_2).toNat * 4)) = some (.int .i64 ((rd_T29 l0 x37_2).f0)) ∧ w'.cell? ⟨(ad307.add ((x37_2).toNat * 4)).block, (ad307.add ((x37_2).toNat * 4)).off + 1, none⟩ = some (.int .i64 ((rd_T29 l0 x37_2).f1)) ∧ w'.cell? ⟨(ad307.add ((x37_2).toNat * 4)).block, (ad307.add ((x37_2).toNat * 4)).off + 2, none⟩ = some (.string ((rd_T29 l0 x37_2).f2)) ∧ w'.cell? ⟨(ad307.add ((x37_2).toNat * 4)).block, (ad307.add ((x37_2).toNat * 4)).off + 3, none⟩ = some (.bool ((rd_T29 l0 x37_2).f3)) ∧ w'.cell? (ad308.add ((x37_2).toNat * 4)) = some (.int .i64 ((rd_T29 l1 x37_2).f0)) ∧ w'.cell? ⟨(ad308.add ((x37_2).toNat * 4)).block, (ad308.add ((x37_2).toNat * 4)).off + 1, none⟩ = some (.int .i64 ((rd_T29 l1 x37_2).f1)) ∧ w'.cell? ⟨(ad308.add ((x37_2).toNat * 4)).block, (ad308.add ((x37_2).toNat * 4)).off + 2, none⟩ = some (.string ((rd_T29 l1 x37_2).f2)) ∧ w'.cell? ⟨(ad308.add ((x37_2).toNat * 4)).block, (ad308.add ((x37_2).toNat * 4)).off + 3, none⟩ = some (.bool ((rd_T29 l1 x37_2).f3))) (ds := []) #[false, false, false, false, false, false, false, false, false, false, false, false] (by kernel_rfl) rfl rfl ⟨((HB.out.cell (World.block_lt_of_cell? w _ hw307_0)).trans hw307_0), ((HB.out.cell (World.block_lt_of_cell? w _ hw307_1)).trans hw307_1), ((HB.out.cell (World.block_lt_of_cell? w _ hw307_2)).trans hw307_2), ((HB.out.cell (World.block_lt_of_cell? w _ hw307_3)).trans hw307_3), ((HB.out.cell (World.block_lt_of_cell? w _ hw308_0)).trans hw308_0), ((HB.out.cell (World.block_lt_of_cell? w _ hw308_1)).trans hw308_1), ((HB.out.cell (World.block_lt_of_cell? w _ hw308_2)).trans hw308_2), ((HB.out.cell (World.block_lt_of_cell? w _ hw308_3)).trans hw308_3)⟩ (fun hHeld => ?_); refine with_tabW code_Order.tab14 code_Order.bits14 (fun HT_ HW_ => ?_)
           generalize wr.drew = w30 at HB hx307_0 hx307_1 hx307_2 hx307_3 hx308_0 hx308_1 hx308_2 hx308_3 hHeld ⊢
           refine pure_ (i := 0) (N := some 40) (v := ?_) (a' := ?_) #[true, false, false, false, false, false, false, false, false, false, false, false] rfl rfl (any_of HT_.out (by kernel_rfl)) (fun _ _ _ h => h) (Or.inl ⟨by rfl, ?_⟩) ?_ ?_
           rotate_left
           ·intro w'
            go_simp
            with_reducible rfl
           rotate_left
           ·simp only [Act.put, List.setIfInBounds_toArray, List.set_cons_zero, List.set_cons_succ, i64_w, i32_w]
            rfl
           refine pure_ (i := 1) (N := some 41) (v := ?_) (a' := ?_) #[true, true, false, false, false, false, false, false, false, false, false, false] rfl rfl (any_of HT_.out (by kernel_rfl)) (fun _ _ _ h => h) (Or.inl ⟨by rfl, ?_⟩) ?_ ?_
           rotate_left
           ·intro w'
            go_simp
            with_reducible rfl
           rotate_left
           ·simp only [Act.put, List.setIfInBounds_toArray, List.set_cons_zero, List.set_cons_succ, i64_w, i32_w]
            rfl
           refine pure_ (i := 2) (N := some 42) (v := ?_) (a' := ?_) #[true, true, true, false, false, false, false, false, false, false, false, false] rfl rfl (any_of HT_.out (by kernel_rfl)) (fun _ _ _ h => h) (Or.inl ⟨by rfl, ?_⟩) ?_ ?_
           rotate_left
           ·intro w'
            go_simp
            with_reducible rfl
           rotate_left
           ·simp only [Act.put, List.setIfInBounds_toArray, List.set_cons_zero, List.set_cons_succ, i64_w, i32_w]
            rfl
           refine pure_ (i := 4) (N := some 44) (v := ?_) (a' := ?_) #[true, true, true, false, true, false, false, false, false, false, false, false] rfl rfl (any_of HT_.out (by kernel_rfl)) (fun _ _ _ h => h) (Or.inl ⟨by rfl, ?_⟩) ?_ ?_
           rotate_left
           ·intro w'
            go_simp
            with_reducible rfl
           rotate_left
           ·simp only [Act.put, List.setIfInBounds_toArray, List.set_cons_zero, List.set_cons_succ, i64_w, i32_w]
            rfl
           refine pure_ (i := 5) (N := some 45) (v := ?_) (a' := ?_) #[true, true, true, false, true, true, false, false, false, false, false, false] rfl rfl (any_of HT_.out (by kernel_rfl)) (fun _ _ _ h => h) (Or.inl ⟨by rfl, ?_⟩) ?_ ?_
           rotate_left
           ·intro w'
            go_simp
            with_reducible rfl
           rotate_left
           ·simp only [Act.put, List.setIfInBounds_toArray, List.set_cons_zero, List.set_cons_succ, i64_w, i32_w]
            rfl
           refine pure_ (i := 6) (N := some 46) (v := ?_) (a' := ?_) #[true, true, true, false, true, true, true, false, false, false, false, false] rfl rfl (any_of HT_.out (by kernel_rfl)) (fun _ _ _ h => h) (Or.inl ⟨by rfl, ?_⟩) ?_ ?_
           rotate_left
           ·intro w'
            go_simp
            with_reducible rfl
           rotate_left
           ·simp only [Act.put, List.setIfInBounds_toArray, List.set_cons_zero, List.set_cons_succ, i64_w, i32_w]
            rfl
           refine take_ (i := 3) (N := some 43) (v := ?_) (a' := ?_) #[true, true, true, true, true, true, true, false, false, false, false, false] rfl rfl (take_ofW HT_.out HW_.out (by kernel_rfl)) (fun _ _ _ h => h) (Or.inl ⟨by rfl, ?_⟩) hHeld ?_ ?_
           rotate_left
           ·rintro w' ⟨s0, s1, s2, s3, s4, s5, s6, s7⟩
            go_simp
            with_reducible rfl
           rotate_left
           ·simp only [Act.put, List.setIfInBounds_toArray, List.set_cons_zero, List.set_cons_succ, i64_w, i32_w]
            rfl
           refine take_ (i := 7) (N := some 47) (v := ?_) (a' := ?_) #[true, true, true, true, true, true, true, true, false, false, false, false] rfl rfl (take_ofW HT_.out HW_.out (by kernel_rfl)) (fun _ _ _ h => h) (Or.inl ⟨by rfl, ?_⟩) hHeld ?_ ?_
           rotate_left
           ·rintro w' ⟨s0, s1, s2, s3, s4, s5, s6, s7⟩
            go_simp
            with_reducible rfl
           rotate_left
           ·simp only [Act.put, List.setIfInBounds_toArray, List.set_cons_zero, List.set_cons_succ, i64_w, i32_w]
            rfl
           refine join_ (σ := Nat × Nat) 2 #[true, true, true, true, true, true, true, true, true, true, false, false] (fun s_ => [(10, .pointer (some ⟨s_.1, 0, none⟩)), (11, .pointer (some ⟨s_.2, 0, none⟩))]) (fun s_ w' => (w'.cell? (ad307.add ((x37_2).toNat * 4)) = some (.int .i64 ((rd_T29 l0 x37_2).f0)) ∧ w'.cell? ⟨(ad307.add ((x37_2).toNat * 4)).block, (ad307.add ((x37_2).toNat * 4)).off + 1, none⟩ = some (.int .i64 ((rd_T29 l0 x37_2).f1)) ∧ w'.cell? ⟨(ad307.add ((x37_2).toNat * 4)).block, (ad307.add ((x37_2).toNat * 4)).off + 2, none⟩ = some (.string ((rd_T29 l0 x37_2).f2)) ∧ w'.cell? ⟨(ad307.add ((x37_2).toNat * 4)).block, (ad307.add ((x37_2).toNat * 4)).off + 3, none⟩ = some (.bool ((rd_T29 l0 x37_2).f3)) ∧ w'.cell? (ad308.add ((x37_2).toNat * 4)) = some (.int .i64 ((rd_T29 l1 x37_2).f0)) ∧ w'.cell? ⟨(ad308.add ((x37_2).toNat * 4)).block, (ad308.add ((x37_2).toNat * 4)).off + 1, none⟩ = some (.int .i64 ((rd_T29 l1 x37_2).f1)) ∧ w'.cell? ⟨(ad308.add ((x37_2).toNat * 4)).block, (ad308.add ((x37_2).toNat * 4)).off + 2, none⟩ = some (.string ((rd_T29 l1 x37_2).f2)) ∧ w'.cell? ⟨(ad308.add ((x37_2).toNat * 4)).block, (ad308.add ((x37_2).toNat * 4)).off + 3, none⟩ = some (.bool ((rd_T29 l1 x37_2).f3))) ∧ (w'.heap[s_.1]? = some (.cells #[.int .i64 0, .int .i64 0, .string (⟨#[]⟩ : ByteArray), .bool false] 29 (0, 0))) ∧ (w'.heap[s_.2]? = some (.cells #[.int .i64 0, .int .i64 0, .string (⟨#[]⟩ : ByteArray), .bool false] 29 (0, 0))) ∧ (w.heap.size ≤ s_.1) ∧ (w.heap.size ≤ s_.1) ∧ (s_.2 ≠ s_.1) ∧ (s_.1 ≠ s_.2) ∧ (w.heap.size ≤ s_.2) ∧ (w.heap.size ≤ s_.2) ∧ (Below w.heap.size w w')) ?_ ?_
           rotate_left
           ·intro hCont
            refine two_ (i := 8) (j := 9) (Ni := some 10) (Nj := some 11) #[true, true, true, true, true, true, true, true, true, false, false, false] #[true, true, true, true, true, true, true, true, false, true, false, false] rfl rfl rfl rfl (two_of HT_.out (by kernel_rfl)) (by decide) (by decide) (fun K hK => ?_) (fun K hK => ?_)
            ·skip
             refine box_step ?hg (N := 10) ?hd (cs := #[.int .i64 0, .int .i64 0, .string (⟨#[]⟩ : ByteArray), .bool false]) (t := 29) ?hr ?_; (case hd => rfl); (case hg => rfl); (case hr => first | (go_simp; done) | (go_simp; rfl))
             intro gb309 hg w31 hbox hb
             have n0_ := Aside0.mk (below_step (by repeat (first | (with_reducible first | exact HB.out | apply below_alloc | apply pw_below_drewN | apply below_drew1) | exact HB.out)) hb)
             have n1_ := Aside0.mk (hbox)
             have n2_ := Aside0.mk ((by rw [hg]; exact (below_size (by repeat (first | (with_reducible first | exact HB.out | apply below_alloc | apply pw_below_drewN | apply below_drew1) | exact HB.out))) : w.heap.size ≤ gb309))
             have n3_ := Aside0.mk ((by rw [hg]; exact (below_size (by repeat (first | (with_reducible first | exact HB.out | apply below_alloc | apply pw_below_drewN | apply below_drew1) | exact HB.out))) : w.heap.size ≤ gb309))
             clear HB
             have HB := n0_
             have BK309 := n1_
             have GW309 := n2_
             have GE309 := n3_
             clear n0_ n1_ n2_ n3_
             clear hb hbox hg
             refine hK.out _ _ ⟨((HB.out.cell (World.block_lt_of_cell? w _ hw307_0)).trans hw307_0), ((HB.out.cell (World.block_lt_of_cell? w _ hw307_1)).trans hw307_1), ((HB.out.cell (World.block_lt_of_cell? w _ hw307_2)).trans hw307_2), ((HB.out.cell (World.block_lt_of_cell? w _ hw307_3)).trans hw307_3), ((HB.out.cell (World.block_lt_of_cell? w _ hw308_0)).trans hw308_0), ((HB.out.cell (World.block_lt_of_cell? w _ hw308_1)).trans hw308_1), ((HB.out.cell (World.block_lt_of_cell? w _ hw308_2)).trans hw308_2), ((HB.out.cell (World.block_lt_of_cell? w _ hw308_3)).trans hw308_3)⟩ (fun hHeld => ?_)
             clear hK K
             refine norm_ (a' := ?_) ?_ ?_
             rotate_left
             ·show Act.put _ (some 10) _ = _
              simp only [Act.put, List.setIfInBounds_toArray, List.set_cons_zero, List.set_cons_succ, i64_w, i32_w]
              rfl
             refine one_ (i := 9) (N := some 11) #[true, true, true, true, true, true, true, true, true, true, false, false] rfl rfl (one_of HT_.out (by kernel_rfl)) (by decide) (fun K hK => ?_)
             refine box_step ?hg (N := 11) ?hd (cs := #[.int .i64 0, .int .i64 0, .string (⟨#[]⟩ : ByteArray), .bool false]) (t := 29) ?hr ?_; (case hd => rfl); (case hg => rfl); (case hr => first | (go_simp; done) | (go_simp; rfl))
             intro gb310 hg w32 hbox hb
             have n0_ := Aside0.mk (blk_below (g := gb309) (o := .cells #[.int .i64 0, .int .i64 0, .string (⟨#[]⟩ : ByteArray), .bool false] 29 (0, 0)) (by (with_reducible repeat (first | apply bN | apply bD | apply bA)); exact BK309.out) hb)
             have n1_ := Aside0.mk (below_step (by repeat (first | (with_reducible first | exact HB.out | apply below_alloc | apply pw_below_drewN | apply below_drew1 | refine below_set ?_ GE309.out) | exact HB.out)) hb)
             have n2_ := Aside0.mk (hbox)
             have n3_ := Aside0.mk ((by rw [hg]; exact (below_size (by repeat (first | (with_reducible first | exact HB.out | apply below_alloc | apply pw_below_drewN | apply below_drew1 | refine below_set ?_ GE309.out) | exact HB.out))) : w.heap.size ≤ gb310))
             have n4_ := Aside0.mk ((by rw [hg]; exact (below_size (by repeat (first | (with_reducible first | exact HB.out | apply below_alloc | apply pw_below_drewN | apply below_drew1 | refine below_set ?_ GE309.out) | exact HB.out))) : w.heap.size ≤ gb310))
             have n5_ := Aside0.mk ((by rw [hg]; exact Nat.ne_of_lt (blk_lt (g := gb309) (o := .cells #[.int .i64 0, .int .i64 0, .string (⟨#[]⟩ : ByteArray), .bool false] 29 (0, 0)) (by (with_reducible repeat (first | apply bN | apply bD | apply bA)); exact BK309.out)) : gb309 ≠ gb310))
             have n6_ := Aside0.mk ((by rw [hg]; exact Nat.ne_of_gt (blk_lt (g := gb309) (o := .cells #[.int .i64 0, .int .i64 0, .string (⟨#[]⟩ : ByteArray), .bool false] 29 (0, 0)) (by (with_reducible repeat (first | apply bN | apply bD | apply bA)); exact BK309.out)) : gb310 ≠ gb309))
             clear BK309
             clear HB
             have BK309 := n0_
             have HB := n1_
             have BK310 := n2_
             have GW310 := n3_
             have GE310 := n4_
             have NB309_310 := n5_
             have NB310_309 := n6_
             clear n0_ n1_ n2_ n3_ n4_ n5_ n6_
             clear hb hbox hg
             refine hK.out _ _ ⟨((HB.out.cell (World.block_lt_of_cell? w _ hw307_0)).trans hw307_0), ((HB.out.cell (World.block_lt_of_cell? w _ hw307_1)).trans hw307_1), ((HB.out.cell (World.block_lt_of_cell? w _ hw307_2)).trans hw307_2), ((HB.out.cell (World.block_lt_of_cell? w _ hw307_3)).trans hw307_3), ((HB.out.cell (World.block_lt_of_cell? w _ hw308_0)).trans hw308_0), ((HB.out.cell (World.block_lt_of_cell? w _ hw308_1)).trans hw308_1), ((HB.out.cell (World.block_lt_of_cell? w _ hw308_2)).trans hw308_2), ((HB.out.cell (World.block_lt_of_cell? w _ hw308_3)).trans hw308_3)⟩ (fun hHeld => ?_)
             clear hK K
             refine norm_ (a' := ?_) ?_ ?_
             rotate_left
             ·show Act.put _ (some 11) _ = _
              simp only [Act.put, List.setIfInBounds_toArray, List.set_cons_zero, List.set_cons_succ, i64_w, i32_w]
              rfl
             exact norm_ (by simp only [putAll, Act.put, List.setIfInBounds_toArray, List.set_cons_zero, List.set_cons_succ]) (hCont (gb309, gb310) _ ⟨hHeld, (by (with_reducible repeat (first | apply bN | apply bD | apply bA)); exact BK309.out), (by (with_reducible repeat (first | apply bN | apply bD | apply bA)); exact BK310.out), GW309.out, GE309.out, NB310_309.out, NB309_310.out, GW310.out, GE310.out, (by repeat (first | (with_reducible first | exact HB.out | apply below_alloc | apply pw_below_drewN | apply below_drew1 | refine below_set ?_ (Aside0.out ‹_›)) | exact HB.out))⟩)
            ·skip
             refine box_step ?hg (N := 11) ?hd (cs := #[.int .i64 0, .int .i64 0, .string (⟨#[]⟩ : ByteArray), .bool false]) (t := 29) ?hr ?_; (case hd => rfl); (case hg => rfl); (case hr => first | (go_simp; done) | (go_simp; rfl))
             intro gb310 hg w31 hbox hb
             have n0_ := Aside0.mk (below_step (by repeat (first | (with_reducible first | exact HB.out | apply below_alloc | apply pw_below_drewN | apply below_drew1) | exact HB.out)) hb)
             have n1_ := Aside0.mk (hbox)
             have n2_ := Aside0.mk ((by rw [hg]; exact (below_size (by repeat (first | (with_reducible first | exact HB.out | apply below_alloc | apply pw_below_drewN | apply below_drew1) | exact HB.out))) : w.heap.size ≤ gb310))
             have n3_ := Aside0.mk ((by rw [hg]; exact (below_size (by repeat (first | (with_reducible first | exact HB.out | apply below_alloc | apply pw_below_drewN | apply below_drew1) | exact HB.out))) : w.heap.size ≤ gb310))
             clear HB
             have HB := n0_
             have BK310 := n1_
             have GW310 := n2_
             have GE310 := n3_
             clear n0_ n1_ n2_ n3_
             clear hb hbox hg
             refine hK.out _ _ ⟨((HB.out.cell (World.block_lt_of_cell? w _ hw307_0)).trans hw307_0), ((HB.out.cell (World.block_lt_of_cell? w _ hw307_1)).trans hw307_1), ((HB.out.cell (World.block_lt_of_cell? w _ hw307_2)).trans hw307_2), ((HB.out.cell (World.block_lt_of_cell? w _ hw307_3)).trans hw307_3), ((HB.out.cell (World.block_lt_of_cell? w _ hw308_0)).trans hw308_0), ((HB.out.cell (World.block_lt_of_cell? w _ hw308_1)).trans hw308_1), ((HB.out.cell (World.block_lt_of_cell? w _ hw308_2)).trans hw308_2), ((HB.out.cell (World.block_lt_of_cell? w _ hw308_3)).trans hw308_3)⟩ (fun hHeld => ?_)
             clear hK K
             refine norm_ (a' := ?_) ?_ ?_
             rotate_left
             ·show Act.put _ (some 11) _ = _
              simp only [Act.put, List.setIfInBounds_toArray, List.set_cons_zero, List.set_cons_succ, i64_w, i32_w]
              rfl
             refine one_ (i := 8) (N := some 10) #[true, true, true, true, true, true, true, true, true, true, false, false] rfl rfl (one_of HT_.out (by kernel_rfl)) (by decide) (fun K hK => ?_)
             refine box_step ?hg (N := 10) ?hd (cs := #[.int .i64 0, .int .i64 0, .string (⟨#[]⟩ : ByteArray), .bool false]) (t := 29) ?hr ?_; (case hd => rfl); (case hg => rfl); (case hr => first | (go_simp; done) | (go_simp; rfl))
             intro gb309 hg w32 hbox hb
             have n0_ := Aside0.mk (blk_below (g := gb310) (o := .cells #[.int .i64 0, .int .i64 0, .string (⟨#[]⟩ : ByteArray), .bool false] 29 (0, 0)) (by (with_reducible repeat (first | apply bN | apply bD | apply bA)); exact BK310.out) hb)
             have n1_ := Aside0.mk (below_step (by repeat (first | (with_reducible first | exact HB.out | apply below_alloc | apply pw_below_drewN | apply below_drew1 | refine below_set ?_ GE310.out) | exact HB.out)) hb)
             have n2_ := Aside0.mk (hbox)
             have n3_ := Aside0.mk ((by rw [hg]; exact (below_size (by repeat (first | (with_reducible first | exact HB.out | apply below_alloc | apply pw_below_drewN | apply below_drew1 | refine below_set ?_ GE310.out) | exact HB.out))) : w.heap.size ≤ gb309))
             have n4_ := Aside0.mk ((by rw [hg]; exact (below_size (by repeat (first | (with_reducible first | exact HB.out | apply below_alloc | apply pw_below_drewN | apply below_drew1 | refine below_set ?_ GE310.out) | exact HB.out))) : w.heap.size ≤ gb309))
             have n5_ := Aside0.mk ((by rw [hg]; exact Nat.ne_of_lt (blk_lt (g := gb310) (o := .cells #[.int .i64 0, .int .i64 0, .string (⟨#[]⟩ : ByteArray), .bool false] 29 (0, 0)) (by (with_reducible repeat (first | apply bN | apply bD | apply bA)); exact BK310.out)) : gb310 ≠ gb309))
             have n6_ := Aside0.mk ((by rw [hg]; exact Nat.ne_of_gt (blk_lt (g := gb310) (o := .cells #[.int .i64 0, .int .i64 0, .string (⟨#[]⟩ : ByteArray), .bool false] 29 (0, 0)) (by (with_reducible repeat (first | apply bN | apply bD | apply bA)); exact BK310.out)) : gb309 ≠ gb310))
             clear BK310
             clear HB
             have BK310 := n0_
             have HB := n1_
             have BK309 := n2_
             have GW309 := n3_
             have GE309 := n4_
             have NB310_309 := n5_
             have NB309_310 := n6_
             clear n0_ n1_ n2_ n3_ n4_ n5_ n6_
             clear hb hbox hg
             refine hK.out _ _ ⟨((HB.out.cell (World.block_lt_of_cell? w _ hw307_0)).trans hw307_0), ((HB.out.cell (World.block_lt_of_cell? w _ hw307_1)).trans hw307_1), ((HB.out.cell (World.block_lt_of_cell? w _ hw307_2)).trans hw307_2), ((HB.out.cell (World.block_lt_of_cell? w _ hw307_3)).trans hw307_3), ((HB.out.cell (World.block_lt_of_cell? w _ hw308_0)).trans hw308_0), ((HB.out.cell (World.block_lt_of_cell? w _ hw308_1)).trans hw308_1), ((HB.out.cell (World.block_lt_of_cell? w _ hw308_2)).trans hw308_2), ((HB.out.cell (World.block_lt_of_cell? w _ hw308_3)).trans hw308_3)⟩ (fun hHeld => ?_)
             clear hK K
             refine norm_ (a' := ?_) ?_ ?_
             rotate_left
             ·show Act.put _ (some 10) _ = _
              simp only [Act.put, List.setIfInBounds_toArray, List.set_cons_zero, List.set_cons_succ, i64_w, i32_w]
              rfl
             exact norm_ (by simp only [putAll, Act.put, List.setIfInBounds_toArray, List.set_cons_zero, List.set_cons_succ]) (hCont (gb309, gb310) _ ⟨hHeld, (by (with_reducible repeat (first | apply bN | apply bD | apply bA)); exact BK309.out), (by (with_reducible repeat (first | apply bN | apply bD | apply bA)); exact BK310.out), GW309.out, GE309.out, NB310_309.out, NB309_310.out, GW310.out, GE310.out, (by repeat (first | (with_reducible first | exact HB.out | apply below_alloc | apply pw_below_drewN | apply below_drew1 | refine below_set ?_ (Aside0.out ‹_›)) | exact HB.out))⟩)
           rintro ⟨gb309, gb310⟩ w33 ⟨hS_, h0_, h1_, h2_, h3_, h4_, h5_, h6_, h7_, h8_⟩
           have n0_ : Aside0 (w33.heap[gb309]? = some (.cells #[.int .i64 0, .int .i64 0, .string (⟨#[]⟩ : ByteArray), .bool false] 29 (0, 0))) := ⟨h0_⟩
           have n1_ : Aside0 (w33.heap[gb310]? = some (.cells #[.int .i64 0, .int .i64 0, .string (⟨#[]⟩ : ByteArray), .bool false] 29 (0, 0))) := ⟨h1_⟩
           have n2_ : Aside0 (w.heap.size ≤ gb309) := ⟨h2_⟩
           have n3_ : Aside0 (w.heap.size ≤ gb309) := ⟨h3_⟩
           have n4_ : Aside0 (gb310 ≠ gb309) := ⟨h4_⟩
           have n5_ : Aside0 (gb309 ≠ gb310) := ⟨h5_⟩
           have n6_ : Aside0 (w.heap.size ≤ gb310) := ⟨h6_⟩
           have n7_ : Aside0 (w.heap.size ≤ gb310) := ⟨h7_⟩
           have n8_ : Aside0 (Below w.heap.size w w33) := ⟨h8_⟩
           clear HB
           clear h0_ h1_ h2_ h3_ h4_ h5_ h6_ h7_ h8_
           have BK309 := n0_
           have BK310 := n1_
           have GW309 := n2_
           have GE309 := n3_
           have NB310_309 := n4_
           have NB309_310 := n5_
           have GW310 := n6_
           have GE310 := n7_
           have HB := n8_
           clear n0_ n1_ n2_ n3_ n4_ n5_ n6_ n7_ n8_
           have hHeld : w33.cell? (ad307.add ((x37_2).toNat * 4)) = some (.int .i64 ((rd_T29 l0 x37_2).f0)) ∧ w33.cell? ⟨(ad307.add ((x37_2).toNat * 4)).block, (ad307.add ((x37_2).toNat * 4)).off + 1, none⟩ = some (.int .i64 ((rd_T29 l0 x37_2).f1)) ∧ w33.cell? ⟨(ad307.add ((x37_2).toNat * 4)).block, (ad307.add ((x37_2).toNat * 4)).off + 2, none⟩ = some (.string ((rd_T29 l0 x37_2).f2)) ∧ w33.cell? ⟨(ad307.add ((x37_2).toNat * 4)).block, (ad307.add ((x37_2).toNat * 4)).off + 3, none⟩ = some (.bool ((rd_T29 l0 x37_2).f3)) ∧ w33.cell? (ad308.add ((x37_2).toNat * 4)) = some (.int .i64 ((rd_T29 l1 x37_2).f0)) ∧ w33.cell? ⟨(ad308.add ((x37_2).toNat * 4)).block, (ad308.add ((x37_2).toNat * 4)).off + 1, none⟩ = some (.int .i64 ((rd_T29 l1 x37_2).f1)) ∧ w33.cell? ⟨(ad308.add ((x37_2).toNat * 4)).block, (ad308.add ((x37_2).toNat * 4)).off + 2, none⟩ = some (.string ((rd_T29 l1 x37_2).f2)) ∧ w33.cell? ⟨(ad308.add ((x37_2).toNat * 4)).block, (ad308.add ((x37_2).toNat * 4)).off + 3, none⟩ = some (.bool ((rd_T29 l1 x37_2).f3)) := hS_
           refine norm_ (a' := ?_) ?_ ?_
           rotate_left
           ·simp only [putAll, Act.put, List.setIfInBounds_toArray, List.set_cons_zero, List.set_cons_succ]
            rfl
           refine one_ (i := 10) (N := none) #[true, true, true, true, true, true, true, true, true, true, true, false] rfl rfl (one_of HT_.out (by kernel_rfl)) (by decide) (fun K hK => ?_)
           have hs34 : w33.cell? ⟨gb309, 0, none⟩ = some (.int .i64 0) := (blk_cell BK309.out 0).trans rfl
           have hfs34 := blk_frozen BK309.out 0
           have hns34_1 := NB310_309.out
           have hms34_1 := NB309_310.out
           have hs35 : w33.cell? ⟨gb309, 1, none⟩ = some (.int .i64 0) := (blk_cell BK309.out 1).trans rfl
           have hfs35 := blk_frozen BK309.out 1
           have hns35_1 := NB310_309.out
           have hms35_1 := NB309_310.out
           have hs36 : w33.cell? ⟨gb309, 2, none⟩ = some (.string (⟨#[]⟩ : ByteArray)) := (blk_cell BK309.out 2).trans rfl
           have hfs36 := blk_frozen BK309.out 2
           have hns36_1 := NB310_309.out
           have hms36_1 := NB309_310.out
           have hs37 : w33.cell? ⟨gb309, 3, none⟩ = some (.bool false) := (blk_cell BK309.out 3).trans rfl
           have hfs37 := blk_frozen BK309.out 3
           have hns37_1 := NB310_309.out
           have hms37_1 := NB309_310.out
           refine skip_ (w1 := ?_) (by rfl) rfl ?_ ?_
           rotate_left
           ·go_simp
            rfl
           refine hK.out _ _ ⟨((cell_far (p := ⟨gb309, _, none⟩) (by first | exact Nat.ne_of_lt (Nat.lt_of_lt_of_le (by have := World.block_lt_of_cell? _ _ hw307_0; first | rwa [add_block] at this | exact this) GW309.out) | (rw [add_block]; exact Nat.ne_of_lt (Nat.lt_of_lt_of_le (by have := World.block_lt_of_cell? _ _ hw307_0; first | rwa [add_block] at this | exact this) GW309.out)) | (show (Addr.add _ _).block ≠ _; rw [add_block]; exact Nat.ne_of_lt (Nat.lt_of_lt_of_le (by have := World.block_lt_of_cell? _ _ hw307_0; first | rwa [add_block] at this | exact this) GW309.out)) | (dsimp only; exact Nat.ne_of_lt (Nat.lt_of_lt_of_le (by have := World.block_lt_of_cell? _ _ hw307_0; first | rwa [add_block] at this | exact this) GW309.out))) _).trans (((cell_far (p := ⟨gb309, _, none⟩) (by first | exact Nat.ne_of_lt (Nat.lt_of_lt_of_le (by have := World.block_lt_of_cell? _ _ hw307_0; first | rwa [add_block] at this | exact this) GW309.out) | (rw [add_block]; exact Nat.ne_of_lt (Nat.lt_of_lt_of_le (by have := World.block_lt_of_cell? _ _ hw307_0; first | rwa [add_block] at this | exact this) GW309.out)) | (show (Addr.add _ _).block ≠ _; rw [add_block]; exact Nat.ne_of_lt (Nat.lt_of_lt_of_le (by have := World.block_lt_of_cell? _ _ hw307_0; first | rwa [add_block] at this | exact this) GW309.out)) | (dsimp only; exact Nat.ne_of_lt (Nat.lt_of_lt_of_le (by have := World.block_lt_of_cell? _ _ hw307_0; first | rwa [add_block] at this | exact this) GW309.out))) _).trans (((cell_far (p := ⟨gb309, _, none⟩) (by first | exact Nat.ne_of_lt (Nat.lt_of_lt_of_le (by have := World.block_lt_of_cell? _ _ hw307_0; first | rwa [add_block] at this | exact this) GW309.out) | (rw [add_block]; exact Nat.ne_of_lt (Nat.lt_of_lt_of_le (by have := World.block_lt_of_cell? _ _ hw307_0; first | rwa [add_block] at this | exact this) GW309.out)) | (show (Addr.add _ _).block ≠ _; rw [add_block]; exact Nat.ne_of_lt (Nat.lt_of_lt_of_le (by have := World.block_lt_of_cell? _ _ hw307_0; first | rwa [add_block] at this | exact this) GW309.out)) | (dsimp only; exact Nat.ne_of_lt (Nat.lt_of_lt_of_le (by have := World.block_lt_of_cell? _ _ hw307_0; first | rwa [add_block] at this | exact this) GW309.out))) _).trans (((cell_far (p := ⟨gb309, _, none⟩) (by first | exact Nat.ne_of_lt (Nat.lt_of_lt_of_le (by have := World.block_lt_of_cell? _ _ hw307_0; first | rwa [add_block] at this | exact this) GW309.out) | (rw [add_block]; exact Nat.ne_of_lt (Nat.lt_of_lt_of_le (by have := World.block_lt_of_cell? _ _ hw307_0; first | rwa [add_block] at this | exact this) GW309.out)) | (show (Addr.add _ _).block ≠ _; rw [add_block]; exact Nat.ne_of_lt (Nat.lt_of_lt_of_le (by have := World.block_lt_of_cell? _ _ hw307_0; first | rwa [add_block] at this | exact this) GW309.out)) | (dsimp only; exact Nat.ne_of_lt (Nat.lt_of_lt_of_le (by have := World.block_lt_of_cell? _ _ hw307_0; first | rwa [add_block] at this | exact this) GW309.out))) _).trans (hHeld.1)))))))), ((cell_far (p := ⟨gb309, _, none⟩) (by first | exact Nat.ne_of_lt (Nat.lt_of_lt_of_le (by have := World.block_lt_of_cell? _ _ hw307_1; first | rwa [add_block] at this | exact this) GW309.out) | (rw [add_block]; exact Nat.ne_of_lt (Nat.lt_of_lt_of_le (by have := World.block_lt_of_cell? _ _ hw307_1; first | rwa [add_block] at this | exact this) GW309.out)) | (show (Addr.add _ _).block ≠ _; rw [add_block]; exact Nat.ne_of_lt (Nat.lt_of_lt_of_le (by have := World.block_lt_of_cell? _ _ hw307_1; first | rwa [add_block] at this | exact this) GW309.out)) | (dsimp only; exact Nat.ne_of_lt (Nat.lt_of_lt_of_le (by have := World.block_lt_of_cell? _ _ hw307_1; first | rwa [add_block] at this | exact this) GW309.out))) _).trans (((cell_far (p := ⟨gb309, _, none⟩) (by first | exact Nat.ne_of_lt (Nat.lt_of_lt_of_le (by have := World.block_lt_of_cell? _ _ hw307_1; first | rwa [add_block] at this | exact this) GW309.out) | (rw [add_block]; exact Nat.ne_of_lt (Nat.lt_of_lt_of_le (by have := World.block_lt_of_cell? _ _ hw307_1; first | rwa [add_block] at this | exact this) GW309.out)) | (show (Addr.add _ _).block ≠ _; rw [add_block]; exact Nat.ne_of_lt (Nat.lt_of_lt_of_le (by have := World.block_lt_of_cell? _ _ hw307_1; first | rwa [add_block] at this | exact this) GW309.out)) | (dsimp only; exact Nat.ne_of_lt (Nat.lt_of_lt_of_le (by have := World.block_lt_of_cell? _ _ hw307_1; first | rwa [add_block] at this | exact this) GW309.out))) _).trans (((cell_far (p := ⟨gb309, _, none⟩) (by first | exact Nat.ne_of_lt (Nat.lt_of_lt_of_le (by have := World.block_lt_of_cell? _ _ hw307_1; first | rwa [add_block] at this | exact this) GW309.out) | (rw [add_block]; exact Nat.ne_of_lt (Nat.lt_of_lt_of_le (by have := World.block_lt_of_cell? _ _ hw307_1; first | rwa [add_block] at this | exact this) GW309.out)) | (show (Addr.add _ _).block ≠ _; rw [add_block]; exact Nat.ne_of_lt (Nat.lt_of_lt_of_le (by have := World.block_lt_of_cell? _ _ hw307_1; first | rwa [add_block] at this | exact this) GW309.out)) | (dsimp only; exact Nat.ne_of_lt (Nat.lt_of_lt_of_le (by have := World.block_lt_of_cell? _ _ hw307_1; first | rwa [add_block] at this | exact this) GW309.out))) _).trans (((cell_far (p := ⟨gb309, _, none⟩) (by first | exact Nat.ne_of_lt (Nat.lt_of_lt_of_le (by have := World.block_lt_of_cell? _ _ hw307_1; first | rwa [add_block] at this | exact this) GW309.out) | (rw [add_block]; exact Nat.ne_of_lt (Nat.lt_of_lt_of_le (by have := World.block_lt_of_cell? _ _ hw307_1; first | rwa [add_block] at this | exact this) GW309.out)) | (show (Addr.add _ _).block ≠ _; rw [add_block]; exact Nat.ne_of_lt (Nat.lt_of_lt_of_le (by have := World.block_lt_of_cell? _ _ hw307_1; first | rwa [add_block] at this | exact this) GW309.out)) | (dsimp only; exact Nat.ne_of_lt (Nat.lt_of_lt_of_le (by have := World.block_lt_of_cell? _ _ hw307_1; first | rwa [add_block] at this | exact this) GW309.out))) _).trans (hHeld.2.1)))))))), ((cell_far (p := ⟨gb309, _, none⟩) (by first | exact Nat.ne_of_lt (Nat.lt_of_lt_of_le (by have := World.block_lt_of_cell? _ _ hw307_2; first | rwa [add_block] at this | exact this) GW309.out) | (rw [add_block]; exact Nat.ne_of_lt (Nat.lt_of_lt_of_le (by have := World.block_lt_of_cell? _ _ hw307_2; first | rwa [add_block] at this | exact this) GW309.out)) | (show (Addr.add _ _).block ≠ _; rw [add_block]; exact Nat.ne_of_lt (Nat.lt_of_lt_of_le (by have := World.block_lt_of_cell? _ _ hw307_2; first | rwa [add_block] at this | exact this) GW309.out)) | (dsimp only; exact Nat.ne_of_lt (Nat.lt_of_lt_of_le (by have := World.block_lt_of_cell? _ _ hw307_2; first | rwa [add_block] at this | exact this) GW309.out))) _).trans (((cell_far (p := ⟨gb309, _, none⟩) (by first | exact Nat.ne_of_lt (Nat.lt_of_lt_of_le (by have := World.block_lt_of_cell? _ _ hw307_2; first | rwa [add_block] at this | exact this) GW309.out) | (rw [add_block]; exact Nat.ne_of_lt (Nat.lt_of_lt_of_le (by have := World.block_lt_of_cell? _ _ hw307_2; first | rwa [add_block] at this | exact this) GW309.out)) | (show (Addr.add _ _).block ≠ _; rw [add_block]; exact Nat.ne_of_lt (Nat.lt_of_lt_of_le (by have := World.block_lt_of_cell? _ _ hw307_2; first | rwa [add_block] at this | exact this) GW309.out)) | (dsimp only; exact Nat.ne_of_lt (Nat.lt_of_lt_of_le (by have := World.block_lt_of_cell? _ _ hw307_2; first | rwa [add_block] at this | exact this) GW309.out))) _).trans (((cell_far (p := ⟨gb309, _, none⟩) (by first | exact Nat.ne_of_lt (Nat.lt_of_lt_of_le (by have := World.block_lt_of_cell? _ _ hw307_2; first | rwa [add_block] at this | exact this) GW309.out) | (rw [add_block]; exact Nat.ne_of_lt (Nat.lt_of_lt_of_le (by have := World.block_lt_of_cell? _ _ hw307_2; first | rwa [add_block] at this | exact this) GW309.out)) | (show (Addr.add _ _).block ≠ _; rw [add_block]; exact Nat.ne_of_lt (Nat.lt_of_lt_of_le (by have := World.block_lt_of_cell? _ _ hw307_2; first | rwa [add_block] at this | exact this) GW309.out)) | (dsimp only; exact Nat.ne_of_lt (Nat.lt_of_lt_of_le (by have := World.block_lt_of_cell? _ _ hw307_2; first | rwa [add_block] at this | exact this) GW309.out))) _).trans (((cell_far (p := ⟨gb309, _, none⟩) (by first | exact Nat.ne_of_lt (Nat.lt_of_lt_of_le (by have := World.block_lt_of_cell? _ _ hw307_2; first | rwa [add_block] at this | exact this) GW309.out) | (rw [add_block]; exact Nat.ne_of_lt (Nat.lt_of_lt_of_le (by have := World.block_lt_of_cell? _ _ hw307_2; first | rwa [add_block] at this | exact this) GW309.out)) | (show (Addr.add _ _).block ≠ _; rw [add_block]; exact Nat.ne_of_lt (Nat.lt_of_lt_of_le (by have := World.block_lt_of_cell? _ _ hw307_2; first | rwa [add_block] at this | exact this) GW309.out)) | (dsimp only; exact Nat.ne_of_lt (Nat.lt_of_lt_of_le (by have := World.block_lt_of_cell? _ _ hw307_2; first | rwa [add_block] at this | exact this) GW309.out))) _).trans (hHeld.2.2.1)))))))), ((cell_far (p := ⟨gb309, _, none⟩) (by first | exact Nat.ne_of_lt (Nat.lt_of_lt_of_le (by have := World.block_lt_of_cell? _ _ hw307_3; first | rwa [add_block] at this | exact this) GW309.out) | (rw [add_block]; exact Nat.ne_of_lt (Nat.lt_of_lt_of_le (by have := World.block_lt_of_cell? _ _ hw307_3; first | rwa [add_block] at this | exact this) GW309.out)) | (show (Addr.add _ _).block ≠ _; rw [add_block]; exact Nat.ne_of_lt (Nat.lt_of_lt_of_le (by have := World.block_lt_of_cell? _ _ hw307_3; first | rwa [add_block] at this | exact this) GW309.out)) | (dsimp only; exact Nat.ne_of_lt (Nat.lt_of_lt_of_le (by have := World.block_lt_of_cell? _ _ hw307_3; first | rwa [add_block] at this | exact this) GW309.out))) _).trans (((cell_far (p := ⟨gb309, _, none⟩) (by first | exact Nat.ne_of_lt (Nat.lt_of_lt_of_le (by have := World.block_lt_of_cell? _ _ hw307_3; first | rwa [add_block] at this | exact this) GW309.out) | (rw [add_block]; exact Nat.ne_of_lt (Nat.lt_of_lt_of_le (by have := World.block_lt_of_cell? _ _ hw307_3; first | rwa [add_block] at this | exact this) GW309.out)) | (show (Addr.add _ _).block ≠ _; rw [add_block]; exact Nat.ne_of_lt (Nat.lt_of_lt_of_le (by have := World.block_lt_of_cell? _ _ hw307_3; first | rwa [add_block] at this | exact this) GW309.out)) | (dsimp only; exact Nat.ne_of_lt (Nat.lt_of_lt_of_le (by have := World.block_lt_of_cell? _ _ hw307_3; first | rwa [add_block] at this | exact this) GW309.out))) _).trans (((cell_far (p := ⟨gb309, _, none⟩) (by first | exact Nat.ne_of_lt (Nat.lt_of_lt_of_le (by have := World.block_lt_of_cell? _ _ hw307_3; first | rwa [add_block] at this | exact this) GW309.out) | (rw [add_block]; exact Nat.ne_of_lt (Nat.lt_of_lt_of_le (by have := World.block_lt_of_cell? _ _ hw307_3; first | rwa [add_block] at this | exact this) GW309.out)) | (show (Addr.add _ _).block ≠ _; rw [add_block]; exact Nat.ne_of_lt (Nat.lt_of_lt_of_le (by have := World.block_lt_of_cell? _ _ hw307_3; first | rwa [add_block] at this | exact this) GW309.out)) | (dsimp only; exact Nat.ne_of_lt (Nat.lt_of_lt_of_le (by have := World.block_lt_of_cell? _ _ hw307_3; first | rwa [add_block] at this | exact this) GW309.out))) _).trans (((cell_far (p := ⟨gb309, _, none⟩) (by first | exact Nat.ne_of_lt (Nat.lt_of_lt_of_le (by have := World.block_lt_of_cell? _ _ hw307_3; first | rwa [add_block] at this | exact this) GW309.out) | (rw [add_block]; exact Nat.ne_of_lt (Nat.lt_of_lt_of_le (by have := World.block_lt_of_cell? _ _ hw307_3; first | rwa [add_block] at this | exact this) GW309.out)) | (show (Addr.add _ _).block ≠ _; rw [add_block]; exact Nat.ne_of_lt (Nat.lt_of_lt_of_le (by have := World.block_lt_of_cell? _ _ hw307_3; first | rwa [add_block] at this | exact this) GW309.out)) | (dsimp only; exact Nat.ne_of_lt (Nat.lt_of_lt_of_le (by have := World.block_lt_of_cell? _ _ hw307_3; first | rwa [add_block] at this | exact this) GW309.out))) _).trans (hHeld.2.2.2.1)))))))), ((cell_far (p := ⟨gb309, _, none⟩) (by first | exact Nat.ne_of_lt (Nat.lt_of_lt_of_le (by have := World.block_lt_of_cell? _ _ hw308_0; first | rwa [add_block] at this | exact this) GW309.out) | (rw [add_block]; exact Nat.ne_of_lt (Nat.lt_of_lt_of_le (by have := World.block_lt_of_cell? _ _ hw308_0; first | rwa [add_block] at this | exact this) GW309.out)) | (show (Addr.add _ _).block ≠ _; rw [add_block]; exact Nat.ne_of_lt (Nat.lt_of_lt_of_le (by have := World.block_lt_of_cell? _ _ hw308_0; first | rwa [add_block] at this | exact this) GW309.out)) | (dsimp only; exact Nat.ne_of_lt (Nat.lt_of_lt_of_le (by have := World.block_lt_of_cell? _ _ hw308_0; first | rwa [add_block] at this | exact this) GW309.out))) _).trans (((cell_far (p := ⟨gb309, _, none⟩) (by first | exact Nat.ne_of_lt (Nat.lt_of_lt_of_le (by have := World.block_lt_of_cell? _ _ hw308_0; first | rwa [add_block] at this | exact this) GW309.out) | (rw [add_block]; exact Nat.ne_of_lt (Nat.lt_of_lt_of_le (by have := World.block_lt_of_cell? _ _ hw308_0; first | rwa [add_block] at this | exact this) GW309.out)) | (show (Addr.add _ _).block ≠ _; rw [add_block]; exact Nat.ne_of_lt (Nat.lt_of_lt_of_le (by have := World.block_lt_of_cell? _ _ hw308_0; first | rwa [add_block] at this | exact this) GW309.out)) | (dsimp only; exact Nat.ne_of_lt (Nat.lt_of_lt_of_le (by have := World.block_lt_of_cell? _ _ hw308_0; first | rwa [add_block] at this | exact this) GW309.out))) _).trans (((cell_far (p := ⟨gb309, _, none⟩) (by first | exact Nat.ne_of_lt (Nat.lt_of_lt_of_le (by have := World.block_lt_of_cell? _ _ hw308_0; first | rwa [add_block] at this | exact this) GW309.out) | (rw [add_block]; exact Nat.ne_of_lt (Nat.lt_of_lt_of_le (by have := World.block_lt_of_cell? _ _ hw308_0; first | rwa [add_block] at this | exact this) GW309.out)) | (show (Addr.add _ _).block ≠ _; rw [add_block]; exact Nat.ne_of_lt (Nat.lt_of_lt_of_le (by have := World.block_lt_of_cell? _ _ hw308_0; first | rwa [add_block] at this | exact this) GW309.out)) | (dsimp only; exact Nat.ne_of_lt (Nat.lt_of_lt_of_le (by have := World.block_lt_of_cell? _ _ hw308_0; first | rwa [add_block] at this | exact this) GW309.out))) _).trans (((cell_far (p := ⟨gb309, _, none⟩) (by first | exact Nat.ne_of_lt (Nat.lt_of_lt_of_le (by have := World.block_lt_of_cell? _ _ hw308_0; first | rwa [add_block] at this | exact this) GW309.out) | (rw [add_block]; exact Nat.ne_of_lt (Nat.lt_of_lt_of_le (by have := World.block_lt_of_cell? _ _ hw308_0; first | rwa [add_block] at this | exact this) GW309.out)) | (show (Addr.add _ _).block ≠ _; rw [add_block]; exact Nat.ne_of_lt (Nat.lt_of_lt_of_le (by have := World.block_lt_of_cell? _ _ hw308_0; first | rwa [add_block] at this | exact this) GW309.out)) | (dsimp only; exact Nat.ne_of_lt (Nat.lt_of_lt_of_le (by have := World.block_lt_of_cell? _ _ hw308_0; first | rwa [add_block] at this | exact this) GW309.out))) _).trans (hHeld.2.2.2.2.1)))))))), ((cell_far (p := ⟨gb309, _, none⟩) (by first | exact Nat.ne_of_lt (Nat.lt_of_lt_of_le (by have := World.block_lt_of_cell? _ _ hw308_1; first | rwa [add_block] at this | exact this) GW309.out) | (rw [add_block]; exact Nat.ne_of_lt (Nat.lt_of_lt_of_le (by have := World.block_lt_of_cell? _ _ hw308_1; first | rwa [add_block] at this | exact this) GW309.out)) | (show (Addr.add _ _).block ≠ _; rw [add_block]; exact Nat.ne_of_lt (Nat.lt_of_lt_of_le (by have := World.block_lt_of_cell? _ _ hw308_1; first | rwa [add_block] at this | exact this) GW309.out)) | (dsimp only; exact Nat.ne_of_lt (Nat.lt_of_lt_of_le (by have := World.block_lt_of_cell? _ _ hw308_1; first | rwa [add_block] at this | exact this) GW309.out))) _).trans (((cell_far (p := ⟨gb309, _, none⟩) (by first | exact Nat.ne_of_lt (Nat.lt_of_lt_of_le (by have := World.block_lt_of_cell? _ _ hw308_1; first | rwa [add_block] at this | exact this) GW309.out) | (rw [add_block]; exact Nat.ne_of_lt (Nat.lt_of_lt_of_le (by have := World.block_lt_of_cell? _ _ hw308_1; first | rwa [add_block] at this | exact this) GW309.out)) | (show (Addr.add _ _).block ≠ _; rw [add_block]; exact Nat.ne_of_lt (Nat.lt_of_lt_of_le (by have := World.block_lt_of_cell? _ _ hw308_1; first | rwa [add_block] at this | exact this) GW309.out)) | (dsimp only; exact Nat.ne_of_lt (Nat.lt_of_lt_of_le (by have := World.block_lt_of_cell? _ _ hw308_1; first | rwa [add_block] at this | exact this) GW309.out))) _).trans (((cell_far (p := ⟨gb309, _, none⟩) (by first | exact Nat.ne_of_lt (Nat.lt_of_lt_of_le (by have := World.block_lt_of_cell? _ _ hw308_1; first | rwa [add_block] at this | exact this) GW309.out) | (rw [add_block]; exact Nat.ne_of_lt (Nat.lt_of_lt_of_le (by have := World.block_lt_of_cell? _ _ hw308_1; first | rwa [add_block] at this | exact this) GW309.out)) | (show (Addr.add _ _).block ≠ _; rw [add_block]; exact Nat.ne_of_lt (Nat.lt_of_lt_of_le (by have := World.block_lt_of_cell? _ _ hw308_1; first | rwa [add_block] at this | exact this) GW309.out)) | (dsimp only; exact Nat.ne_of_lt (Nat.lt_of_lt_of_le (by have := World.block_lt_of_cell? _ _ hw308_1; first | rwa [add_block] at this | exact this) GW309.out))) _).trans (((cell_far (p := ⟨gb309, _, none⟩) (by first | exact Nat.ne_of_lt (Nat.lt_of_lt_of_le (by have := World.block_lt_of_cell? _ _ hw308_1; first | rwa [add_block] at this | exact this) GW309.out) | (rw [add_block]; exact Nat.ne_of_lt (Nat.lt_of_lt_of_le (by have := World.block_lt_of_cell? _ _ hw308_1; first | rwa [add_block] at this | exact this) GW309.out)) | (show (Addr.add _ _).block ≠ _; rw [add_block]; exact Nat.ne_of_lt (Nat.lt_of_lt_of_le (by have := World.block_lt_of_cell? _ _ hw308_1; first | rwa [add_block] at this | exact this) GW309.out)) | (dsimp only; exact Nat.ne_of_lt (Nat.lt_of_lt_of_le (by have := World.block_lt_of_cell? _ _ hw308_1; first | rwa [add_block] at this | exact this) GW309.out))) _).trans (hHeld.2.2.2.2.2.1)))))))), ((cell_far (p := ⟨gb309, _, none⟩) (by first | exact Nat.ne_of_lt (Nat.lt_of_lt_of_le (by have := World.block_lt_of_cell? _ _ hw308_2; first | rwa [add_block] at this | exact this) GW309.out) | (rw [add_block]; exact Nat.ne_of_lt (Nat.lt_of_lt_of_le (by have := World.block_lt_of_cell? _ _ hw308_2; first | rwa [add_block] at this | exact this) GW309.out)) | (show (Addr.add _ _).block ≠ _; rw [add_block]; exact Nat.ne_of_lt (Nat.lt_of_lt_of_le (by have := World.block_lt_of_cell? _ _ hw308_2; first | rwa [add_block] at this | exact this) GW309.out)) | (dsimp only; exact Nat.ne_of_lt (Nat.lt_of_lt_of_le (by have := World.block_lt_of_cell? _ _ hw308_2; first | rwa [add_block] at this | exact this) GW309.out))) _).trans (((cell_far (p := ⟨gb309, _, none⟩) (by first | exact Nat.ne_of_lt (Nat.lt_of_lt_of_le (by have := World.block_lt_of_cell? _ _ hw308_2; first | rwa [add_block] at this | exact this) GW309.out) | (rw [add_block]; exact Nat.ne_of_lt (Nat.lt_of_lt_of_le (by have := World.block_lt_of_cell? _ _ hw308_2; first | rwa [add_block] at this | exact this) GW309.out)) | (show (Addr.add _ _).block ≠ _; rw [add_block]; exact Nat.ne_of_lt (Nat.lt_of_lt_of_le (by have := World.block_lt_of_cell? _ _ hw308_2; first | rwa [add_block] at this | exact this) GW309.out)) | (dsimp only; exact Nat.ne_of_lt (Nat.lt_of_lt_of_le (by have := World.block_lt_of_cell? _ _ hw308_2; first | rwa [add_block] at this | exact this) GW309.out))) _).trans (((cell_far (p := ⟨gb309, _, none⟩) (by first | exact Nat.ne_of_lt (Nat.lt_of_lt_of_le (by have := World.block_lt_of_cell? _ _ hw308_2; first | rwa [add_block] at this | exact this) GW309.out) | (rw [add_block]; exact Nat.ne_of_lt (Nat.lt_of_lt_of_le (by have := World.block_lt_of_cell? _ _ hw308_2; first | rwa [add_block] at this | exact this) GW309.out)) | (show (Addr.add _ _).block ≠ _; rw [add_block]; exact Nat.ne_of_lt (Nat.lt_of_lt_of_le (by have := World.block_lt_of_cell? _ _ hw308_2; first | rwa [add_block] at this | exact this) GW309.out)) | (dsimp only; exact Nat.ne_of_lt (Nat.lt_of_lt_of_le (by have := World.block_lt_of_cell? _ _ hw308_2; first | rwa [add_block] at this | exact this) GW309.out))) _).trans (((cell_far (p := ⟨gb309, _, none⟩) (by first | exact Nat.ne_of_lt (Nat.lt_of_lt_of_le (by have := World.block_lt_of_cell? _ _ hw308_2; first | rwa [add_block] at this | exact this) GW309.out) | (rw [add_block]; exact Nat.ne_of_lt (Nat.lt_of_lt_of_le (by have := World.block_lt_of_cell? _ _ hw308_2; first | rwa [add_block] at this | exact this) GW309.out)) | (show (Addr.add _ _).block ≠ _; rw [add_block]; exact Nat.ne_of_lt (Nat.lt_of_lt_of_le (by have := World.block_lt_of_cell? _ _ hw308_2; first | rwa [add_block] at this | exact this) GW309.out)) | (dsimp only; exact Nat.ne_of_lt (Nat.lt_of_lt_of_le (by have := World.block_lt_of_cell? _ _ hw308_2; first | rwa [add_block] at this | exact this) GW309.out))) _).trans (hHeld.2.2.2.2.2.2.1)))))))), ((cell_far (p := ⟨gb309, _, none⟩) (by first | exact Nat.ne_of_lt (Nat.lt_of_lt_of_le (by have := World.block_lt_of_cell? _ _ hw308_3; first | rwa [add_block] at this | exact this) GW309.out) | (rw [add_block]; exact Nat.ne_of_lt (Nat.lt_of_lt_of_le (by have := World.block_lt_of_cell? _ _ hw308_3; first | rwa [add_block] at this | exact this) GW309.out)) | (show (Addr.add _ _).block ≠ _; rw [add_block]; exact Nat.ne_of_lt (Nat.lt_of_lt_of_le (by have := World.block_lt_of_cell? _ _ hw308_3; first | rwa [add_block] at this | exact this) GW309.out)) | (dsimp only; exact Nat.ne_of_lt (Nat.lt_of_lt_of_le (by have := World.block_lt_of_cell? _ _ hw308_3; first | rwa [add_block] at this | exact this) GW309.out))) _).trans (((cell_far (p := ⟨gb309, _, none⟩) (by first | exact Nat.ne_of_lt (Nat.lt_of_lt_of_le (by have := World.block_lt_of_cell? _ _ hw308_3; first | rwa [add_block] at this | exact this) GW309.out) | (rw [add_block]; exact Nat.ne_of_lt (Nat.lt_of_lt_of_le (by have := World.block_lt_of_cell? _ _ hw308_3; first | rwa [add_block] at this | exact this) GW309.out)) | (show (Addr.add _ _).block ≠ _; rw [add_block]; exact Nat.ne_of_lt (Nat.lt_of_lt_of_le (by have := World.block_lt_of_cell? _ _ hw308_3; first | rwa [add_block] at this | exact this) GW309.out)) | (dsimp only; exact Nat.ne_of_lt (Nat.lt_of_lt_of_le (by have := World.block_lt_of_cell? _ _ hw308_3; first | rwa [add_block] at this | exact this) GW309.out))) _).trans (((cell_far (p := ⟨gb309, _, none⟩) (by first | exact Nat.ne_of_lt (Nat.lt_of_lt_of_le (by have := World.block_lt_of_cell? _ _ hw308_3; first | rwa [add_block] at this | exact this) GW309.out) | (rw [add_block]; exact Nat.ne_of_lt (Nat.lt_of_lt_of_le (by have := World.block_lt_of_cell? _ _ hw308_3; first | rwa [add_block] at this | exact this) GW309.out)) | (show (Addr.add _ _).block ≠ _; rw [add_block]; exact Nat.ne_of_lt (Nat.lt_of_lt_of_le (by have := World.block_lt_of_cell? _ _ hw308_3; first | rwa [add_block] at this | exact this) GW309.out)) | (dsimp only; exact Nat.ne_of_lt (Nat.lt_of_lt_of_le (by have := World.block_lt_of_cell? _ _ hw308_3; first | rwa [add_block] at this | exact this) GW309.out))) _).trans (((cell_far (p := ⟨gb309, _, none⟩) (by first | exact Nat.ne_of_lt (Nat.lt_of_lt_of_le (by have := World.block_lt_of_cell? _ _ hw308_3; first | rwa [add_block] at this | exact this) GW309.out) | (rw [add_block]; exact Nat.ne_of_lt (Nat.lt_of_lt_of_le (by have := World.block_lt_of_cell? _ _ hw308_3; first | rwa [add_block] at this | exact this) GW309.out)) | (show (Addr.add _ _).block ≠ _; rw [add_block]; exact Nat.ne_of_lt (Nat.lt_of_lt_of_le (by have := World.block_lt_of_cell? _ _ hw308_3; first | rwa [add_block] at this | exact this) GW309.out)) | (dsimp only; exact Nat.ne_of_lt (Nat.lt_of_lt_of_le (by have := World.block_lt_of_cell? _ _ hw308_3; first | rwa [add_block] at this | exact this) GW309.out))) _).trans (hHeld.2.2.2.2.2.2.2))))))))⟩ (fun hHeld => ?_)
           clear hK K
           refine one_ (i := 11) (N := none) #[true, true, true, true, true, true, true, true, true, true, true, true] rfl rfl (one_of HT_.out (by kernel_rfl)) (by decide) (fun K hK => ?_)
           have hs38 : w33.cell? ⟨gb310, 0, none⟩ = some (.int .i64 0) := (blk_cell BK310.out 0).trans rfl
           have hfs38 := blk_frozen BK310.out 0
           have hns38_0 := NB309_310.out
           have hms38_0 := NB310_309.out
           have hs39 : w33.cell? ⟨gb310, 1, none⟩ = some (.int .i64 0) := (blk_cell BK310.out 1).trans rfl
           have hfs39 := blk_frozen BK310.out 1
           have hns39_0 := NB309_310.out
           have hms39_0 := NB310_309.out
           have hs40 : w33.cell? ⟨gb310, 2, none⟩ = some (.string (⟨#[]⟩ : ByteArray)) := (blk_cell BK310.out 2).trans rfl
           have hfs40 := blk_frozen BK310.out 2
           have hns40_0 := NB309_310.out
           have hms40_0 := NB310_309.out
           have hs41 : w33.cell? ⟨gb310, 3, none⟩ = some (.bool false) := (blk_cell BK310.out 3).trans rfl
           have hfs41 := blk_frozen BK310.out 3
           have hns41_0 := NB309_310.out
           have hms41_0 := NB310_309.out
           refine skip_ (w1 := ?_) (by rfl) rfl ?_ ?_
           rotate_left
           ·go_simp
            rfl
           refine hK.out _ _ ⟨((cell_far (p := ⟨gb310, _, none⟩) (by first | exact Nat.ne_of_lt (Nat.lt_of_lt_of_le (by have := World.block_lt_of_cell? _ _ hw307_0; first | rwa [add_block] at this | exact this) GW310.out) | (rw [add_block]; exact Nat.ne_of_lt (Nat.lt_of_lt_of_le (by have := World.block_lt_of_cell? _ _ hw307_0; first | rwa [add_block] at this | exact this) GW310.out)) | (show (Addr.add _ _).block ≠ _; rw [add_block]; exact Nat.ne_of_lt (Nat.lt_of_lt_of_le (by have := World.block_lt_of_cell? _ _ hw307_0; first | rwa [add_block] at this | exact this) GW310.out)) | (dsimp only; exact Nat.ne_of_lt (Nat.lt_of_lt_of_le (by have := World.block_lt_of_cell? _ _ hw307_0; first | rwa [add_block] at this | exact this) GW310.out))) _).trans (((cell_far (p := ⟨gb310, _, none⟩) (by first | exact Nat.ne_of_lt (Nat.lt_of_lt_of_le (by have := World.block_lt_of_cell? _ _ hw307_0; first | rwa [add_block] at this | exact this) GW310.out) | (rw [add_block]; exact Nat.ne_of_lt (Nat.lt_of_lt_of_le (by have := World.block_lt_of_cell? _ _ hw307_0; first | rwa [add_block] at this | exact this) GW310.out)) | (show (Addr.add _ _).block ≠ _; rw [add_block]; exact Nat.ne_of_lt (Nat.lt_of_lt_of_le (by have := World.block_lt_of_cell? _ _ hw307_0; first | rwa [add_block] at this | exact this) GW310.out)) | (dsimp only; exact Nat.ne_of_lt (Nat.lt_of_lt_of_le (by have := World.block_lt_of_cell? _ _ hw307_0; first | rwa [add_block] at this | exact this) GW310.out))) _).trans (((cell_far (p := ⟨gb310, _, none⟩) (by first | exact Nat.ne_of_lt (Nat.lt_of_lt_of_le (by have := World.block_lt_of_cell? _ _ hw307_0; first | rwa [add_block] at this | exact this) GW310.out) | (rw [add_block]; exact Nat.ne_of_lt (Nat.lt_of_lt_of_le (by have := World.block_lt_of_cell? _ _ hw307_0; first | rwa [add_block] at this | exact this) GW310.out)) | (show (Addr.add _ _).block ≠ _; rw [add_block]; exact Nat.ne_of_lt (Nat.lt_of_lt_of_le (by have := World.block_lt_of_cell? _ _ hw307_0; first | rwa [add_block] at this | exact this) GW310.out)) | (dsimp only; exact Nat.ne_of_lt (Nat.lt_of_lt_of_le (by have := World.block_lt_of_cell? _ _ hw307_0; first | rwa [add_block] at this | exact this) GW310.out))) _).trans (((cell_far (p := ⟨gb310, _, none⟩) (by first | exact Nat.ne_of_lt (Nat.lt_of_lt_of_le (by have := World.block_lt_of_cell? _ _ hw307_0; first | rwa [add_block] at this | exact this) GW310.out) | (rw [add_block]; exact Nat.ne_of_lt (Nat.lt_of_lt_of_le (by have := World.block_lt_of_cell? _ _ hw307_0; first | rwa [add_block] at this | exact this) GW310.out)) | (show (Addr.add _ _).block ≠ _; rw [add_block]; exact Nat.ne_of_lt (Nat.lt_of_lt_of_le (by have := World.block_lt_of_cell? _ _ hw307_0; first | rwa [add_block] at this | exact this) GW310.out)) | (dsimp only; exact Nat.ne_of_lt (Nat.lt_of_lt_of_le (by have := World.block_lt_of_cell? _ _ hw307_0; first | rwa [add_block] at this | exact this) GW310.out))) _).trans (hHeld.1)))))))), ((cell_far (p := ⟨gb310, _, none⟩) (by first | exact Nat.ne_of_lt (Nat.lt_of_lt_of_le (by have := World.block_lt_of_cell? _ _ hw307_1; first | rwa [add_block] at this | exact this) GW310.out) | (rw [add_block]; exact Nat.ne_of_lt (Nat.lt_of_lt_of_le (by have := World.block_lt_of_cell? _ _ hw307_1; first | rwa [add_block] at this | exact this) GW310.out)) | (show (Addr.add _ _).block ≠ _; rw [add_block]; exact Nat.ne_of_lt (Nat.lt_of_lt_of_le (by have := World.block_lt_of_cell? _ _ hw307_1; first | rwa [add_block] at this | exact this) GW310.out)) | (dsimp only; exact Nat.ne_of_lt (Nat.lt_of_lt_of_le (by have := World.block_lt_of_cell? _ _ hw307_1; first | rwa [add_block] at this | exact this) GW310.out))) _).trans (((cell_far (p := ⟨gb310, _, none⟩) (by first | exact Nat.ne_of_lt (Nat.lt_of_lt_of_le (by have := World.block_lt_of_cell? _ _ hw307_1; first | rwa [add_block] at this | exact this) GW310.out) | (rw [add_block]; exact Nat.ne_of_lt (Nat.lt_of_lt_of_le (by have := World.block_lt_of_cell? _ _ hw307_1; first | rwa [add_block] at this | exact this) GW310.out)) | (show (Addr.add _ _).block ≠ _; rw [add_block]; exact Nat.ne_of_lt (Nat.lt_of_lt_of_le (by have := World.block_lt_of_cell? _ _ hw307_1; first | rwa [add_block] at this | exact this) GW310.out)) | (dsimp only; exact Nat.ne_of_lt (Nat.lt_of_lt_of_le (by have := World.block_lt_of_cell? _ _ hw307_1; first | rwa [add_block] at this | exact this) GW310.out))) _).trans (((cell_far (p := ⟨gb310, _, none⟩) (by first | exact Nat.ne_of_lt (Nat.lt_of_lt_of_le (by have := World.block_lt_of_cell? _ _ hw307_1; first | rwa [add_block] at this | exact this) GW310.out) | (rw [add_block]; exact Nat.ne_of_lt (Nat.lt_of_lt_of_le (by have := World.block_lt_of_cell? _ _ hw307_1; first | rwa [add_block] at this | exact this) GW310.out)) | (show (Addr.add _ _).block ≠ _; rw [add_block]; exact Nat.ne_of_lt (Nat.lt_of_lt_of_le (by have := World.block_lt_of_cell? _ _ hw307_1; first | rwa [add_block] at this | exact this) GW310.out)) | (dsimp only; exact Nat.ne_of_lt (Nat.lt_of_lt_of_le (by have := World.block_lt_of_cell? _ _ hw307_1; first | rwa [add_block] at this | exact this) GW310.out))) _).trans (((cell_far (p := ⟨gb310, _, none⟩) (by first | exact Nat.ne_of_lt (Nat.lt_of_lt_of_le (by have := World.block_lt_of_cell? _ _ hw307_1; first | rwa [add_block] at this | exact this) GW310.out) | (rw [add_block]; exact Nat.ne_of_lt (Nat.lt_of_lt_of_le (by have := World.block_lt_of_cell? _ _ hw307_1; first | rwa [add_block] at this | exact this) GW310.out)) | (show (Addr.add _ _).block ≠ _; rw [add_block]; exact Nat.ne_of_lt (Nat.lt_of_lt_of_le (by have := World.block_lt_of_cell? _ _ hw307_1; first | rwa [add_block] at this | exact this) GW310.out)) | (dsimp only; exact Nat.ne_of_lt (Nat.lt_of_lt_of_le (by have := World.block_lt_of_cell? _ _ hw307_1; first | rwa [add_block] at this | exact this) GW310.out))) _).trans (hHeld.2.1)))))))), ((cell_far (p := ⟨gb310, _, none⟩) (by first | exact Nat.ne_of_lt (Nat.lt_of_lt_of_le (by have := World.block_lt_of_cell? _ _ hw307_2; first | rwa [add_block] at this | exact this) GW310.out) | (rw [add_block]; exact Nat.ne_of_lt (Nat.lt_of_lt_of_le (by have := World.block_lt_of_cell? _ _ hw307_2; first | rwa [add_block] at this | exact this) GW310.out)) | (show (Addr.add _ _).block ≠ _; rw [add_block]; exact Nat.ne_of_lt (Nat.lt_of_lt_of_le (by have := World.block_lt_of_cell? _ _ hw307_2; first | rwa [add_block] at this | exact this) GW310.out)) | (dsimp only; exact Nat.ne_of_lt (Nat.lt_of_lt_of_le (by have := World.block_lt_of_cell? _ _ hw307_2; first | rwa [add_block] at this | exact this) GW310.out))) _).trans (((cell_far (p := ⟨gb310, _, none⟩) (by first | exact Nat.ne_of_lt (Nat.lt_of_lt_of_le (by have := World.block_lt_of_cell? _ _ hw307_2; first | rwa [add_block] at this | exact this) GW310.out) | (rw [add_block]; exact Nat.ne_of_lt (Nat.lt_of_lt_of_le (by have := World.block_lt_of_cell? _ _ hw307_2; first | rwa [add_block] at this | exact this) GW310.out)) | (show (Addr.add _ _).block ≠ _; rw [add_block]; exact Nat.ne_of_lt (Nat.lt_of_lt_of_le (by have := World.block_lt_of_cell? _ _ hw307_2; first | rwa [add_block] at this | exact this) GW310.out)) | (dsimp only; exact Nat.ne_of_lt (Nat.lt_of_lt_of_le (by have := World.block_lt_of_cell? _ _ hw307_2; first | rwa [add_block] at this | exact this) GW310.out))) _).trans (((cell_far (p := ⟨gb310, _, none⟩) (by first | exact Nat.ne_of_lt (Nat.lt_of_lt_of_le (by have := World.block_lt_of_cell? _ _ hw307_2; first | rwa [add_block] at this | exact this) GW310.out) | (rw [add_block]; exact Nat.ne_of_lt (Nat.lt_of_lt_of_le (by have := World.block_lt_of_cell? _ _ hw307_2; first | rwa [add_block] at this | exact this) GW310.out)) | (show (Addr.add _ _).block ≠ _; rw [add_block]; exact Nat.ne_of_lt (Nat.lt_of_lt_of_le (by have := World.block_lt_of_cell? _ _ hw307_2; first | rwa [add_block] at this | exact this) GW310.out)) | (dsimp only; exact Nat.ne_of_lt (Nat.lt_of_lt_of_le (by have := World.block_lt_of_cell? _ _ hw307_2; first | rwa [add_block] at this | exact this) GW310.out))) _).trans (((cell_far (p := ⟨gb310, _, none⟩) (by first | exact Nat.ne_of_lt (Nat.lt_of_lt_of_le (by have := World.block_lt_of_cell? _ _ hw307_2; first | rwa [add_block] at this | exact this) GW310.out) | (rw [add_block]; exact Nat.ne_of_lt (Nat.lt_of_lt_of_le (by have := World.block_lt_of_cell? _ _ hw307_2; first | rwa [add_block] at this | exact this) GW310.out)) | (show (Addr.add _ _).block ≠ _; rw [add_block]; exact Nat.ne_of_lt (Nat.lt_of_lt_of_le (by have := World.block_lt_of_cell? _ _ hw307_2; first | rwa [add_block] at this | exact this) GW310.out)) | (dsimp only; exact Nat.ne_of_lt (Nat.lt_of_lt_of_le (by have := World.block_lt_of_cell? _ _ hw307_2; first | rwa [add_block] at this | exact this) GW310.out))) _).trans (hHeld.2.2.1)))))))), ((cell_far (p := ⟨gb310, _, none⟩) (by first | exact Nat.ne_of_lt (Nat.lt_of_lt_of_le (by have := World.block_lt_of_cell? _ _ hw307_3; first | rwa [add_block] at this | exact this) GW310.out) | (rw [add_block]; exact Nat.ne_of_lt (Nat.lt_of_lt_of_le (by have := World.block_lt_of_cell? _ _ hw307_3; first | rwa [add_block] at this | exact this) GW310.out)) | (show (Addr.add _ _).block ≠ _; rw [add_block]; exact Nat.ne_of_lt (Nat.lt_of_lt_of_le (by have := World.block_lt_of_cell? _ _ hw307_3; first | rwa [add_block] at this | exact this) GW310.out)) | (dsimp only; exact Nat.ne_of_lt (Nat.lt_of_lt_of_le (by have := World.block_lt_of_cell? _ _ hw307_3; first | rwa [add_block] at this | exact this) GW310.out))) _).trans (((cell_far (p := ⟨gb310, _, none⟩) (by first | exact Nat.ne_of_lt (Nat.lt_of_lt_of_le (by have := World.block_lt_of_cell? _ _ hw307_3; first | rwa [add_block] at this | exact this) GW310.out) | (rw [add_block]; exact Nat.ne_of_lt (Nat.lt_of_lt_of_le (by have := World.block_lt_of_cell? _ _ hw307_3; first | rwa [add_block] at this | exact this) GW310.out)) | (show (Addr.add _ _).block ≠ _; rw [add_block]; exact Nat.ne_of_lt (Nat.lt_of_lt_of_le (by have := World.block_lt_of_cell? _ _ hw307_3; first | rwa [add_block] at this | exact this) GW310.out)) | (dsimp only; exact Nat.ne_of_lt (Nat.lt_of_lt_of_le (by have := World.block_lt_of_cell? _ _ hw307_3; first | rwa [add_block] at this | exact this) GW310.out))) _).trans (((cell_far (p := ⟨gb310, _, none⟩) (by first | exact Nat.ne_of_lt (Nat.lt_of_lt_of_le (by have := World.block_lt_of_cell? _ _ hw307_3; first | rwa [add_block] at this | exact this) GW310.out) | (rw [add_block]; exact Nat.ne_of_lt (Nat.lt_of_lt_of_le (by have := World.block_lt_of_cell? _ _ hw307_3; first | rwa [add_block] at this | exact this) GW310.out)) | (show (Addr.add _ _).block ≠ _; rw [add_block]; exact Nat.ne_of_lt (Nat.lt_of_lt_of_le (by have := World.block_lt_of_cell? _ _ hw307_3; first | rwa [add_block] at this | exact this) GW310.out)) | (dsimp only; exact Nat.ne_of_lt (Nat.lt_of_lt_of_le (by have := World.block_lt_of_cell? _ _ hw307_3; first | rwa [add_block] at this | exact this) GW310.out))) _).trans (((cell_far (p := ⟨gb310, _, none⟩) (by first | exact Nat.ne_of_lt (Nat.lt_of_lt_of_le (by have := World.block_lt_of_cell? _ _ hw307_3; first | rwa [add_block] at this | exact this) GW310.out) | (rw [add_block]; exact Nat.ne_of_lt (Nat.lt_of_lt_of_le (by have := World.block_lt_of_cell? _ _ hw307_3; first | rwa [add_block] at this | exact this) GW310.out)) | (show (Addr.add _ _).block ≠ _; rw [add_block]; exact Nat.ne_of_lt (Nat.lt_of_lt_of_le (by have := World.block_lt_of_cell? _ _ hw307_3; first | rwa [add_block] at this | exact this) GW310.out)) | (dsimp only; exact Nat.ne_of_lt (Nat.lt_of_lt_of_le (by have := World.block_lt_of_cell? _ _ hw307_3; first | rwa [add_block] at this | exact this) GW310.out))) _).trans (hHeld.2.2.2.1)))))))), ((cell_far (p := ⟨gb310, _, none⟩) (by first | exact Nat.ne_of_lt (Nat.lt_of_lt_of_le (by have := World.block_lt_of_cell? _ _ hw308_0; first | rwa [add_block] at this | exact this) GW310.out) | (rw [add_block]; exact Nat.ne_of_lt (Nat.lt_of_lt_of_le (by have := World.block_lt_of_cell? _ _ hw308_0; first | rwa [add_block] at this | exact this) GW310.out)) | (show (Addr.add _ _).block ≠ _; rw [add_block]; exact Nat.ne_of_lt (Nat.lt_of_lt_of_le (by have := World.block_lt_of_cell? _ _ hw308_0; first | rwa [add_block] at this | exact this) GW310.out)) | (dsimp only; exact Nat.ne_of_lt (Nat.lt_of_lt_of_le (by have := World.block_lt_of_cell? _ _ hw308_0; first | rwa [add_block] at this | exact this) GW310.out))) _).trans (((cell_far (p := ⟨gb310, _, none⟩) (by first | exact Nat.ne_of_lt (Nat.lt_of_lt_of_le (by have := World.block_lt_of_cell? _ _ hw308_0; first | rwa [add_block] at this | exact this) GW310.out) | (rw [add_block]; exact Nat.ne_of_lt (Nat.lt_of_lt_of_le (by have := World.block_lt_of_cell? _ _ hw308_0; first | rwa [add_block] at this | exact this) GW310.out)) | (show (Addr.add _ _).block ≠ _; rw [add_block]; exact Nat.ne_of_lt (Nat.lt_of_lt_of_le (by have := World.block_lt_of_cell? _ _ hw308_0; first | rwa [add_block] at this | exact this) GW310.out)) | (dsimp only; exact Nat.ne_of_lt (Nat.lt_of_lt_of_le (by have := World.block_lt_of_cell? _ _ hw308_0; first | rwa [add_block] at this | exact this) GW310.out))) _).trans (((cell_far (p := ⟨gb310, _, none⟩) (by first | exact Nat.ne_of_lt (Nat.lt_of_lt_of_le (by have := World.block_lt_of_cell? _ _ hw308_0; first | rwa [add_block] at this | exact this) GW310.out) | (rw [add_block]; exact Nat.ne_of_lt (Nat.lt_of_lt_of_le (by have := World.block_lt_of_cell? _ _ hw308_0; first | rwa [add_block] at this | exact this) GW310.out)) | (show (Addr.add _ _).block ≠ _; rw [add_block]; exact Nat.ne_of_lt (Nat.lt_of_lt_of_le (by have := World.block_lt_of_cell? _ _ hw308_0; first | rwa [add_block] at this | exact this) GW310.out)) | (dsimp only; exact Nat.ne_of_lt (Nat.lt_of_lt_of_le (by have := World.block_lt_of_cell? _ _ hw308_0; first | rwa [add_block] at this | exact this) GW310.out))) _).trans (((cell_far (p := ⟨gb310, _, none⟩) (by first | exact Nat.ne_of_lt (Nat.lt_of_lt_of_le (by have := World.block_lt_of_cell? _ _ hw308_0; first | rwa [add_block] at this | exact this) GW310.out) | (rw [add_block]; exact Nat.ne_of_lt (Nat.lt_of_lt_of_le (by have := World.block_lt_of_cell? _ _ hw308_0; first | rwa [add_block] at this | exact this) GW310.out)) | (show (Addr.add _ _).block ≠ _; rw [add_block]; exact Nat.ne_of_lt (Nat.lt_of_lt_of_le (by have := World.block_lt_of_cell? _ _ hw308_0; first | rwa [add_block] at this | exact this) GW310.out)) | (dsimp only; exact Nat.ne_of_lt (Nat.lt_of_lt_of_le (by have := World.block_lt_of_cell? _ _ hw308_0; first | rwa [add_block] at this | exact this) GW310.out))) _).trans (hHeld.2.2.2.2.1)))))))), ((cell_far (p := ⟨gb310, _, none⟩) (by first | exact Nat.ne_of_lt (Nat.lt_of_lt_of_le (by have := World.block_lt_of_cell? _ _ hw308_1; first | rwa [add_block] at this | exact this) GW310.out) | (rw [add_block]; exact Nat.ne_of_lt (Nat.lt_of_lt_of_le (by have := World.block_lt_of_cell? _ _ hw308_1; first | rwa [add_block] at this | exact this) GW310.out)) | (show (Addr.add _ _).block ≠ _; rw [add_block]; exact Nat.ne_of_lt (Nat.lt_of_lt_of_le (by have := World.block_lt_of_cell? _ _ hw308_1; first | rwa [add_block] at this | exact this) GW310.out)) | (dsimp only; exact Nat.ne_of_lt (Nat.lt_of_lt_of_le (by have := World.block_lt_of_cell? _ _ hw308_1; first | rwa [add_block] at this | exact this) GW310.out))) _).trans (((cell_far (p := ⟨gb310, _, none⟩) (by first | exact Nat.ne_of_lt (Nat.lt_of_lt_of_le (by have := World.block_lt_of_cell? _ _ hw308_1; first | rwa [add_block] at this | exact this) GW310.out) | (rw [add_block]; exact Nat.ne_of_lt (Nat.lt_of_lt_of_le (by have := World.block_lt_of_cell? _ _ hw308_1; first | rwa [add_block] at this | exact this) GW310.out)) | (show (Addr.add _ _).block ≠ _; rw [add_block]; exact Nat.ne_of_lt (Nat.lt_of_lt_of_le (by have := World.block_lt_of_cell? _ _ hw308_1; first | rwa [add_block] at this | exact this) GW310.out)) | (dsimp only; exact Nat.ne_of_lt (Nat.lt_of_lt_of_le (by have := World.block_lt_of_cell? _ _ hw308_1; first | rwa [add_block] at this | exact this) GW310.out))) _).trans (((cell_far (p := ⟨gb310, _, none⟩) (by first | exact Nat.ne_of_lt (Nat.lt_of_lt_of_le (by have := World.block_lt_of_cell? _ _ hw308_1; first | rwa [add_block] at this | exact this) GW310.out) | (rw [add_block]; exact Nat.ne_of_lt (Nat.lt_of_lt_of_le (by have := World.block_lt_of_cell? _ _ hw308_1; first | rwa [add_block] at this | exact this) GW310.out)) | (show (Addr.add _ _).block ≠ _; rw [add_block]; exact Nat.ne_of_lt (Nat.lt_of_lt_of_le (by have := World.block_lt_of_cell? _ _ hw308_1; first | rwa [add_block] at this | exact this) GW310.out)) | (dsimp only; exact Nat.ne_of_lt (Nat.lt_of_lt_of_le (by have := World.block_lt_of_cell? _ _ hw308_1; first | rwa [add_block] at this | exact this) GW310.out))) _).trans (((cell_far (p := ⟨gb310, _, none⟩) (by first | exact Nat.ne_of_lt (Nat.lt_of_lt_of_le (by have := World.block_lt_of_cell? _ _ hw308_1; first | rwa [add_block] at this | exact this) GW310.out) | (rw [add_block]; exact Nat.ne_of_lt (Nat.lt_of_lt_of_le (by have := World.block_lt_of_cell? _ _ hw308_1; first | rwa [add_block] at this | exact this) GW310.out)) | (show (Addr.add _ _).block ≠ _; rw [add_block]; exact Nat.ne_of_lt (Nat.lt_of_lt_of_le (by have := World.block_lt_of_cell? _ _ hw308_1; first | rwa [add_block] at this | exact this) GW310.out)) | (dsimp only; exact Nat.ne_of_lt (Nat.lt_of_lt_of_le (by have := World.block_lt_of_cell? _ _ hw308_1; first | rwa [add_block] at this | exact this) GW310.out))) _).trans (hHeld.2.2.2.2.2.1)))))))), ((cell_far (p := ⟨gb310, _, none⟩) (by first | exact Nat.ne_of_lt (Nat.lt_of_lt_of_le (by have := World.block_lt_of_cell? _ _ hw308_2; first | rwa [add_block] at this | exact this) GW310.out) | (rw [add_block]; exact Nat.ne_of_lt (Nat.lt_of_lt_of_le (by have := World.block_lt_of_cell? _ _ hw308_2; first | rwa [add_block] at this | exact this) GW310.out)) | (show (Addr.add _ _).block ≠ _; rw [add_block]; exact Nat.ne_of_lt (Nat.lt_of_lt_of_le (by have := World.block_lt_of_cell? _ _ hw308_2; first | rwa [add_block] at this | exact this) GW310.out)) | (dsimp only; exact Nat.ne_of_lt (Nat.lt_of_lt_of_le (by have := World.block_lt_of_cell? _ _ hw308_2; first | rwa [add_block] at this | exact this) GW310.out))) _).trans (((cell_far (p := ⟨gb310, _, none⟩) (by first | exact Nat.ne_of_lt (Nat.lt_of_lt_of_le (by have := World.block_lt_of_cell? _ _ hw308_2; first | rwa [add_block] at this | exact this) GW310.out) | (rw [add_block]; exact Nat.ne_of_lt (Nat.lt_of_lt_of_le (by have := World.block_lt_of_cell? _ _ hw308_2; first | rwa [add_block] at this | exact this) GW310.out)) | (show (Addr.add _ _).block ≠ _; rw [add_block]; exact Nat.ne_of_lt (Nat.lt_of_lt_of_le (by have := World.block_lt_of_cell? _ _ hw308_2; first | rwa [add_block] at this | exact this) GW310.out)) | (dsimp only; exact Nat.ne_of_lt (Nat.lt_of_lt_of_le (by have := World.block_lt_of_cell? _ _ hw308_2; first | rwa [add_block] at this | exact this) GW310.out))) _).trans (((cell_far (p := ⟨gb310, _, none⟩) (by first | exact Nat.ne_of_lt (Nat.lt_of_lt_of_le (by have := World.block_lt_of_cell? _ _ hw308_2; first | rwa [add_block] at this | exact this) GW310.out) | (rw [add_block]; exact Nat.ne_of_lt (Nat.lt_of_lt_of_le (by have := World.block_lt_of_cell? _ _ hw308_2; first | rwa [add_block] at this | exact this) GW310.out)) | (show (Addr.add _ _).block ≠ _; rw [add_block]; exact Nat.ne_of_lt (Nat.lt_of_lt_of_le (by have := World.block_lt_of_cell? _ _ hw308_2; first | rwa [add_block] at this | exact this) GW310.out)) | (dsimp only; exact Nat.ne_of_lt (Nat.lt_of_lt_of_le (by have := World.block_lt_of_cell? _ _ hw308_2; first | rwa [add_block] at this | exact this) GW310.out))) _).trans (((cell_far (p := ⟨gb310, _, none⟩) (by first | exact Nat.ne_of_lt (Nat.lt_of_lt_of_le (by have := World.block_lt_of_cell? _ _ hw308_2; first | rwa [add_block] at this | exact this) GW310.out) | (rw [add_block]; exact Nat.ne_of_lt (Nat.lt_of_lt_of_le (by have := World.block_lt_of_cell? _ _ hw308_2; first | rwa [add_block] at this | exact this) GW310.out)) | (show (Addr.add _ _).block ≠ _; rw [add_block]; exact Nat.ne_of_lt (Nat.lt_of_lt_of_le (by have := World.block_lt_of_cell? _ _ hw308_2; first | rwa [add_block] at this | exact this) GW310.out)) | (dsimp only; exact Nat.ne_of_lt (Nat.lt_of_lt_of_le (by have := World.block_lt_of_cell? _ _ hw308_2; first | rwa [add_block] at this | exact this) GW310.out))) _).trans (hHeld.2.2.2.2.2.2.1)))))))), ((cell_far (p := ⟨gb310, _, none⟩) (by first | exact Nat.ne_of_lt (Nat.lt_of_lt_of_le (by have := World.block_lt_of_cell? _ _ hw308_3; first | rwa [add_block] at this | exact this) GW310.out) | (rw [add_block]; exact Nat.ne_of_lt (Nat.lt_of_lt_of_le (by have := World.block_lt_of_cell? _ _ hw308_3; first | rwa [add_block] at this | exact this) GW310.out)) | (show (Addr.add _ _).block ≠ _; rw [add_block]; exact Nat.ne_of_lt (Nat.lt_of_lt_of_le (by have := World.block_lt_of_cell? _ _ hw308_3; first | rwa [add_block] at this | exact this) GW310.out)) | (dsimp only; exact Nat.ne_of_lt (Nat.lt_of_lt_of_le (by have := World.block_lt_of_cell? _ _ hw308_3; first | rwa [add_block] at this | exact this) GW310.out))) _).trans (((cell_far (p := ⟨gb310, _, none⟩) (by first | exact Nat.ne_of_lt (Nat.lt_of_lt_of_le (by have := World.block_lt_of_cell? _ _ hw308_3; first | rwa [add_block] at this | exact this) GW310.out) | (rw [add_block]; exact Nat.ne_of_lt (Nat.lt_of_lt_of_le (by have := World.block_lt_of_cell? _ _ hw308_3; first | rwa [add_block] at this | exact this) GW310.out)) | (show (Addr.add _ _).block ≠ _; rw [add_block]; exact Nat.ne_of_lt (Nat.lt_of_lt_of_le (by have := World.block_lt_of_cell? _ _ hw308_3; first | rwa [add_block] at this | exact this) GW310.out)) | (dsimp only; exact Nat.ne_of_lt (Nat.lt_of_lt_of_le (by have := World.block_lt_of_cell? _ _ hw308_3; first | rwa [add_block] at this | exact this) GW310.out))) _).trans (((cell_far (p := ⟨gb310, _, none⟩) (by first | exact Nat.ne_of_lt (Nat.lt_of_lt_of_le (by have := World.block_lt_of_cell? _ _ hw308_3; first | rwa [add_block] at this | exact this) GW310.out) | (rw [add_block]; exact Nat.ne_of_lt (Nat.lt_of_lt_of_le (by have := World.block_lt_of_cell? _ _ hw308_3; first | rwa [add_block] at this | exact this) GW310.out)) | (show (Addr.add _ _).block ≠ _; rw [add_block]; exact Nat.ne_of_lt (Nat.lt_of_lt_of_le (by have := World.block_lt_of_cell? _ _ hw308_3; first | rwa [add_block] at this | exact this) GW310.out)) | (dsimp only; exact Nat.ne_of_lt (Nat.lt_of_lt_of_le (by have := World.block_lt_of_cell? _ _ hw308_3; first | rwa [add_block] at this | exact this) GW310.out))) _).trans (((cell_far (p := ⟨gb310, _, none⟩) (by first | exact Nat.ne_of_lt (Nat.lt_of_lt_of_le (by have := World.block_lt_of_cell? _ _ hw308_3; first | rwa [add_block] at this | exact this) GW310.out) | (rw [add_block]; exact Nat.ne_of_lt (Nat.lt_of_lt_of_le (by have := World.block_lt_of_cell? _ _ hw308_3; first | rwa [add_block] at this | exact this) GW310.out)) | (show (Addr.add _ _).block ≠ _; rw [add_block]; exact Nat.ne_of_lt (Nat.lt_of_lt_of_le (by have := World.block_lt_of_cell? _ _ hw308_3; first | rwa [add_block] at this | exact this) GW310.out)) | (dsimp only; exact Nat.ne_of_lt (Nat.lt_of_lt_of_le (by have := World.block_lt_of_cell? _ _ hw308_3; first | rwa [add_block] at this | exact this) GW310.out))) _).trans (hHeld.2.2.2.2.2.2.2))))))))⟩ (fun hHeld => ?_)
           clear hK K
           refine done_ (done_of HT_.out (by kernel_rfl)) ?_
           try go_wp2
           have n0_ : Aside0 (((((((((w33.setCell ⟨gb309, 0, none⟩ (.int .i64 ((rd_T29 l0 x37_2).f0))).setCell ⟨gb309, 1, none⟩ (.int .i64 ((rd_T29 l0 x37_2).f1))).setCell ⟨gb309, 2, none⟩ (.string ((rd_T29 l0 x37_2).f2))).setCell ⟨gb309, 3, none⟩ (.bool ((rd_T29 l0 x37_2).f3))).setCell ⟨gb310, 0, none⟩ (.int .i64 ((rd_T29 l1 x37_2).f0))).setCell ⟨gb310, 1, none⟩ (.int .i64 ((rd_T29 l1 x37_2).f1))).setCell ⟨gb310, 2, none⟩ (.string ((rd_T29 l1 x37_2).f2))).setCell ⟨gb310, 3, none⟩ (.bool ((rd_T29 l1 x37_2).f3))).heap[gb309]? = some (.cells #[.int .i64 ((rd_T29 l0 x37_2).f0), .int .i64 ((rd_T29 l0 x37_2).f1), .string ((rd_T29 l0 x37_2).f2), .bool ((rd_T29 l0 x37_2).f3)] 29 (0, 0))) := ⟨by (with_reducible repeat (first | apply bN | apply bD | apply bA)); refine blk_far ?_ NB309_310.out _; (with_reducible repeat (first | apply bN | apply bD | apply bA)); refine blk_far ?_ NB309_310.out _; (with_reducible repeat (first | apply bN | apply bD | apply bA)); refine blk_far ?_ NB309_310.out _; (with_reducible repeat (first | apply bN | apply bD | apply bA)); refine blk_far ?_ NB309_310.out _; (with_reducible repeat (first | apply bN | apply bD | apply bA)); refine blk_put (cs := #[.int .i64 ((rd_T29 l0 x37_2).f0), .int .i64 ((rd_T29 l0 x37_2).f1), .string ((rd_T29 l0 x37_2).f2), .bool false]) ?_ 3 _ rfl; (with_reducible repeat (first | apply bN | apply bD | apply bA)); refine blk_put (cs := #[.int .i64 ((rd_T29 l0 x37_2).f0), .int .i64 ((rd_T29 l0 x37_2).f1), .string (⟨#[]⟩ : ByteArray), .bool false]) ?_ 2 _ rfl; (with_reducible repeat (first | apply bN | apply bD | apply bA)); refine blk_put (cs := #[.int .i64 ((rd_T29 l0 x37_2).f0), .int .i64 0, .string (⟨#[]⟩ : ByteArray), .bool false]) ?_ 1 _ rfl; (with_reducible repeat (first | apply bN | apply bD | apply bA)); refine blk_put (cs := #[.int .i64 0, .int .i64 0, .string (⟨#[]⟩ : ByteArray), .bool false]) ?_ 0 _ rfl; (with_reducible repeat (first | apply bN | apply bD | apply bA)); exact BK309.out⟩
           have n1_ : Aside0 (((((((((w33.setCell ⟨gb309, 0, none⟩ (.int .i64 ((rd_T29 l0 x37_2).f0))).setCell ⟨gb309, 1, none⟩ (.int .i64 ((rd_T29 l0 x37_2).f1))).setCell ⟨gb309, 2, none⟩ (.string ((rd_T29 l0 x37_2).f2))).setCell ⟨gb309, 3, none⟩ (.bool ((rd_T29 l0 x37_2).f3))).setCell ⟨gb310, 0, none⟩ (.int .i64 ((rd_T29 l1 x37_2).f0))).setCell ⟨gb310, 1, none⟩ (.int .i64 ((rd_T29 l1 x37_2).f1))).setCell ⟨gb310, 2, none⟩ (.string ((rd_T29 l1 x37_2).f2))).setCell ⟨gb310, 3, none⟩ (.bool ((rd_T29 l1 x37_2).f3))).heap[gb310]? = some (.cells #[.int .i64 ((rd_T29 l1 x37_2).f0), .int .i64 ((rd_T29 l1 x37_2).f1), .string ((rd_T29 l1 x37_2).f2), .bool ((rd_T29 l1 x37_2).f3)] 29 (0, 0))) := ⟨by (with_reducible repeat (first | apply bN | apply bD | apply bA)); refine blk_put (cs := #[.int .i64 ((rd_T29 l1 x37_2).f0), .int .i64 ((rd_T29 l1 x37_2).f1), .string ((rd_T29 l1 x37_2).f2), .bool false]) ?_ 3 _ rfl; (with_reducible repeat (first | apply bN | apply bD | apply bA)); refine blk_put (cs := #[.int .i64 ((rd_T29 l1 x37_2).f0), .int .i64 ((rd_T29 l1 x37_2).f1), .string (⟨#[]⟩ : ByteArray), .bool false]) ?_ 2 _ rfl; (with_reducible repeat (first | apply bN | apply bD | apply bA)); refine blk_put (cs := #[.int .i64 ((rd_T29 l1 x37_2).f0), .int .i64 0, .string (⟨#[]⟩ : ByteArray), .bool false]) ?_ 1 _ rfl; (with_reducible repeat (first | apply bN | apply bD | apply bA)); refine blk_put (cs := #[.int .i64 0, .int .i64 0, .string (⟨#[]⟩ : ByteArray), .bool false]) ?_ 0 _ rfl; (with_reducible repeat (first | apply bN | apply bD | apply bA)); refine blk_far ?_ NB310_309.out _; (with_reducible repeat (first | apply bN | apply bD | apply bA)); refine blk_far ?_ NB310_309.out _; (with_reducible repeat (first | apply bN | apply bD | apply bA)); refine blk_far ?_ NB310_309.out _; (with_reducible repeat (first | apply bN | apply bD | apply bA)); refine blk_far ?_ NB310_309.out _; (with_reducible repeat (first | apply bN | apply bD | apply bA)); exact BK310.out⟩
           have n2_ : Aside0 (Below w.heap.size w ((((((((w33.setCell ⟨gb309, 0, none⟩ (.int .i64 ((rd_T29 l0 x37_2).f0))).setCell ⟨gb309, 1, none⟩ (.int .i64 ((rd_T29 l0 x37_2).f1))).setCell ⟨gb309, 2, none⟩ (.string ((rd_T29 l0 x37_2).f2))).setCell ⟨gb309, 3, none⟩ (.bool ((rd_T29 l0 x37_2).f3))).setCell ⟨gb310, 0, none⟩ (.int .i64 ((rd_T29 l1 x37_2).f0))).setCell ⟨gb310, 1, none⟩ (.int .i64 ((rd_T29 l1 x37_2).f1))).setCell ⟨gb310, 2, none⟩ (.string ((rd_T29 l1 x37_2).f2))).setCell ⟨gb310, 3, none⟩ (.bool ((rd_T29 l1 x37_2).f3)))) := ⟨by repeat (first | (with_reducible first | exact HB.out | apply below_alloc | apply pw_below_drewN | apply below_drew1 | refine below_set ?_ (Aside0.out ‹_›)) | exact HB.out)⟩
           (try clear BK309)
           (try clear BK310)
           (try clear HB)
           generalize ((((((((w33.setCell ⟨gb309, 0, none⟩ (.int .i64 ((rd_T29 l0 x37_2).f0))).setCell ⟨gb309, 1, none⟩ (.int .i64 ((rd_T29 l0 x37_2).f1))).setCell ⟨gb309, 2, none⟩ (.string ((rd_T29 l0 x37_2).f2))).setCell ⟨gb309, 3, none⟩ (.bool ((rd_T29 l0 x37_2).f3))).setCell ⟨gb310, 0, none⟩ (.int .i64 ((rd_T29 l1 x37_2).f0))).setCell ⟨gb310, 1, none⟩ (.int .i64 ((rd_T29 l1 x37_2).f1))).setCell ⟨gb310, 2, none⟩ (.string ((rd_T29 l1 x37_2).f2))).setCell ⟨gb310, 3, none⟩ (.bool ((rd_T29 l1 x37_2).f3))) = w42 at n0_ n1_ n2_ ⊢
           have BK309 := n0_
           have BK310 := n1_
           have HB := n2_
           clear n0_ n1_ n2_
           have n0_ := Aside0.mk (blk_drew BK309.out)
           have n1_ := Aside0.mk (blk_drew BK310.out)
           have n2_ := Aside0.mk (below_drew1 HB.out)
           clear BK309
           clear BK310
           clear HB
           have BK309 := n0_
           have BK310 := n1_
           have HB := n2_
           clear n0_ n1_ n2_
           refine start_ (n := 25) (S := fun w' => w'.cell? ⟨gb309, 0, none⟩ = some (.int .i64 ((rd_T29 l0 x37_2).f0)) ∧ w'.cell? ⟨gb309, 1, none⟩ = some (.int .i64 ((rd_T29 l0 x37_2).f1)) ∧ w'.cell? ⟨gb309, 2, none⟩ = some (.string ((rd_T29 l0 x37_2).f2)) ∧ w'.cell? ⟨gb309, 3, none⟩ = some (.bool ((rd_T29 l0 x37_2).f3)) ∧ w'.cell? ⟨gb310, 0, none⟩ = some (.int .i64 ((rd_T29 l1 x37_2).f0)) ∧ w'.cell? ⟨gb310, 1, none⟩ = some (.int .i64 ((rd_T29 l1 x37_2).f1)) ∧ w'.cell? ⟨gb310, 2, none⟩ = some (.string ((rd_T29 l1 x37_2).f2)) ∧ w'.cell? ⟨gb310, 3, none⟩ = some (.bool ((rd_T29 l1 x37_2).f3))) (ds := []) #[false, false, false, false, false, false, false, false, false, false, false, false, false, false, false, false, false, false, false, false, false, false, false, false, false] (by kernel_rfl) rfl rfl ⟨(blk_cell BK309.out 0).trans rfl, (blk_cell BK309.out 1).trans rfl, (blk_cell BK309.out 2).trans rfl, (blk_cell BK309.out 3).trans rfl, (blk_cell BK310.out 0).trans rfl, (blk_cell BK310.out 1).trans rfl, (blk_cell BK310.out 2).trans rfl, (blk_cell BK310.out 3).trans rfl⟩ (fun hHeld => ?_); refine with_tabW code_Order.tab15 code_Order.bits15 (fun HT_ HW_ => ?_)
           generalize w42.drew = w43 at BK309 BK310 HB hHeld ⊢
           refine pure_ (i := 0) (N := some 48) (v := ?_) (a' := ?_) #[true, false, false, false, false, false, false, false, false, false, false, false, false, false, false, false, false, false, false, false, false, false, false, false, false] rfl rfl (any_of HT_.out (by kernel_rfl)) (fun _ _ _ h => h) (Or.inl ⟨by rfl, ?_⟩) ?_ ?_
           rotate_left
           ·intro w'
            go_simp
            with_reducible rfl
           rotate_left
           ·simp only [Act.put, List.setIfInBounds_toArray, List.set_cons_zero, List.set_cons_succ, i64_w, i32_w]
            rfl
           refine pure_ (i := 2) (N := some 50) (v := ?_) (a' := ?_) #[true, false, true, false, false, false, false, false, false, false, false, false, false, false, false, false, false, false, false, false, false, false, false, false, false] rfl rfl (any_of HT_.out (by kernel_rfl)) (fun _ _ _ h => h) (Or.inl ⟨by rfl, ?_⟩) ?_ ?_
           rotate_left
           ·intro w'
            go_simp
            with_reducible rfl
           rotate_left
           ·simp only [Act.put, List.setIfInBounds_toArray, List.set_cons_zero, List.set_cons_succ, i64_w, i32_w]
            rfl
           refine pure_ (i := 5) (N := some 53) (v := ?_) (a' := ?_) #[true, false, true, false, false, true, false, false, false, false, false, false, false, false, false, false, false, false, false, false, false, false, false, false, false] rfl rfl (any_of HT_.out (by kernel_rfl)) (fun _ _ _ h => h) (Or.inl ⟨by rfl, ?_⟩) ?_ ?_
           rotate_left
           ·intro w'
            go_simp
            with_reducible rfl
           rotate_left
           ·simp only [Act.put, List.setIfInBounds_toArray, List.set_cons_zero, List.set_cons_succ, i64_w, i32_w]
            rfl
           refine pure_ (i := 7) (N := some 55) (v := ?_) (a' := ?_) #[true, false, true, false, false, true, false, true, false, false, false, false, false, false, false, false, false, false, false, false, false, false, false, false, false] rfl rfl (any_of HT_.out (by kernel_rfl)) (fun _ _ _ h => h) (Or.inl ⟨by rfl, ?_⟩) ?_ ?_
           rotate_left
           ·intro w'
            go_simp
            with_reducible rfl
           rotate_left
           ·simp only [Act.put, List.setIfInBounds_toArray, List.set_cons_zero, List.set_cons_succ, i64_w, i32_w]
            rfl
           refine pure_ (i := 10) (N := some 58) (v := ?_) (a' := ?_) #[true, false, true, false, false, true, false, true, false, false, true, false, false, false, false, false, false, false, false, false, false, false, false, false, false] rfl rfl (any_of HT_.out (by kernel_rfl)) (fun _ _ _ h => h) (Or.inl ⟨by rfl, ?_⟩) ?_ ?_
           rotate_left
           ·intro w'
            go_simp
            with_reducible rfl
           rotate_left
           ·simp only [Act.put, List.setIfInBounds_toArray, List.set_cons_zero, List.set_cons_succ, i64_w, i32_w]
            rfl
           refine pure_ (i := 12) (N := some 60) (v := ?_) (a' := ?_) #[true, false, true, false, false, true, false, true, false, false, true, false, true, false, false, false, false, false, false, false, false, false, false, false, false] rfl rfl (any_of HT_.out (by kernel_rfl)) (fun _ _ _ h => h) (Or.inl ⟨by rfl, ?_⟩) ?_ ?_
           rotate_left
           ·intro w'
            go_simp
            with_reducible rfl
           rotate_left
           ·simp only [Act.put, List.setIfInBounds_toArray, List.set_cons_zero, List.set_cons_succ, i64_w, i32_w]
            rfl
           refine pure_ (i := 15) (N := some 63) (v := ?_) (a' := ?_) #[true, false, true, false, false, true, false, true, false, false, true, false, true, false, false, true, false, false, false, false, false, false, false, false, false] rfl rfl (any_of HT_.out (by kernel_rfl)) (fun _ _ _ h => h) (Or.inl ⟨by rfl, ?_⟩) ?_ ?_
           rotate_left
           ·intro w'
            go_simp
            with_reducible rfl
           rotate_left
           ·simp only [Act.put, List.setIfInBounds_toArray, List.set_cons_zero, List.set_cons_succ, i64_w, i32_w]
            rfl
           refine pure_ (i := 18) (N := some 66) (v := ?_) (a' := ?_) #[true, false, true, false, false, true, false, true, false, false, true, false, true, false, false, true, false, false, true, false, false, false, false, false, false] rfl rfl (any_of HT_.out (by kernel_rfl)) (fun _ _ _ h => h) (Or.inl ⟨by rfl, ?_⟩) ?_ ?_
           rotate_left
           ·intro w'
            go_simp
            with_reducible rfl
           rotate_left
           ·simp only [Act.put, List.setIfInBounds_toArray, List.set_cons_zero, List.set_cons_succ, i64_w, i32_w]
            rfl
           refine take_ (i := 1) (N := some 49) (v := ?_) (a' := ?_) #[true, true, true, false, false, true, false, true, false, false, true, false, true, false, false, true, false, false, true, false, false, false, false, false, false] rfl rfl (take_ofW HT_.out HW_.out (by kernel_rfl)) (fun _ _ _ h => h) (Or.inl ⟨by rfl, ?_⟩) hHeld ?_ ?_
           rotate_left
           ·rintro w' ⟨s0, s1, s2, s3, s4, s5, s6, s7⟩
            go_simp
            with_reducible rfl
           rotate_left
           ·simp only [Act.put, List.setIfInBounds_toArray, List.set_cons_zero, List.set_cons_succ, i64_w, i32_w]
            rfl
           refine take_ (i := 3) (N := some 51) (v := ?_) (a' := ?_) #[true, true, true, true, false, true, false, true, false, false, true, false, true, false, false, true, false, false, true, false, false, false, false, false, false] rfl rfl (take_ofW HT_.out HW_.out (by kernel_rfl)) (fun _ _ _ h => h) (Or.inl ⟨by rfl, ?_⟩) hHeld ?_ ?_
           rotate_left
           ·rintro w' ⟨s0, s1, s2, s3, s4, s5, s6, s7⟩
            go_simp
            with_reducible rfl
           rotate_left
           ·simp only [Act.put, List.setIfInBounds_toArray, List.set_cons_zero, List.set_cons_succ, i64_w, i32_w]
            rfl
           refine take_ (i := 6) (N := some 54) (v := ?_) (a' := ?_) #[true, true, true, true, false, true, true, true, false, false, true, false, true, false, false, true, false, false, true, false, false, false, false, false, false] rfl rfl (take_ofW HT_.out HW_.out (by kernel_rfl)) (fun _ _ _ h => h) (Or.inl ⟨by rfl, ?_⟩) hHeld ?_ ?_
           rotate_left
           ·rintro w' ⟨s0, s1, s2, s3, s4, s5, s6, s7⟩
            go_simp
            with_reducible rfl
           rotate_left
           ·simp only [Act.put, List.setIfInBounds_toArray, List.set_cons_zero, List.set_cons_succ, i64_w, i32_w]
            rfl
           refine take_ (i := 8) (N := some 56) (v := ?_) (a' := ?_) #[true, true, true, true, false, true, true, true, true, false, true, false, true, false, false, true, false, false, true, false, false, false, false, false, false] rfl rfl (take_ofW HT_.out HW_.out (by kernel_rfl)) (fun _ _ _ h => h) (Or.inl ⟨by rfl, ?_⟩) hHeld ?_ ?_
           rotate_left
           ·rintro w' ⟨s0, s1, s2, s3, s4, s5, s6, s7⟩
            go_simp
            with_reducible rfl
           rotate_left
           ·simp only [Act.put, List.setIfInBounds_toArray, List.set_cons_zero, List.set_cons_succ, i64_w, i32_w]
            rfl
           refine take_ (i := 11) (N := some 59) (v := ?_) (a' := ?_) #[true, true, true, true, false, true, true, true, true, false, true, true, true, false, false, true, false, false, true, false, false, false, false, false, false] rfl rfl (take_ofW HT_.out HW_.out (by kernel_rfl)) (fun _ _ _ h => h) (Or.inl ⟨by rfl, ?_⟩) hHeld ?_ ?_
           rotate_left
           ·rintro w' ⟨s0, s1, s2, s3, s4, s5, s6, s7⟩
            go_simp
            with_reducible rfl
           rotate_left
           ·simp only [Act.put, List.setIfInBounds_toArray, List.set_cons_zero, List.set_cons_succ, i64_w, i32_w]
            rfl
           refine take_ (i := 13) (N := some 61) (v := ?_) (a' := ?_) #[true, true, true, true, false, true, true, true, true, false, true, true, true, true, false, true, false, false, true, false, false, false, false, false, false] rfl rfl (take_ofW HT_.out HW_.out (by kernel_rfl)) (fun _ _ _ h => h) (Or.inl ⟨by rfl, ?_⟩) hHeld ?_ ?_
           rotate_left
           ·rintro w' ⟨s0, s1, s2, s3, s4, s5, s6, s7⟩
            go_simp
            with_reducible rfl
           rotate_left
           ·simp only [Act.put, List.setIfInBounds_toArray, List.set_cons_zero, List.set_cons_succ, i64_w, i32_w]
            rfl
           refine take_ (i := 16) (N := some 64) (v := ?_) (a' := ?_) #[true, true, true, true, false, true, true, true, true, false, true, true, true, true, false, true, true, false, true, false, false, false, false, false, false] rfl rfl (take_ofW HT_.out HW_.out (by kernel_rfl)) (fun _ _ _ h => h) (Or.inl ⟨by rfl, ?_⟩) hHeld ?_ ?_
           rotate_left
           ·rintro w' ⟨s0, s1, s2, s3, s4, s5, s6, s7⟩
            go_simp
            with_reducible rfl
           rotate_left
           ·simp only [Act.put, List.setIfInBounds_toArray, List.set_cons_zero, List.set_cons_succ, i64_w, i32_w]
            rfl
           refine take_ (i := 19) (N := some 67) (v := ?_) (a' := ?_) #[true, true, true, true, false, true, true, true, true, false, true, true, true, true, false, true, true, false, true, true, false, false, false, false, false] rfl rfl (take_ofW HT_.out HW_.out (by kernel_rfl)) (fun _ _ _ h => h) (Or.inl ⟨by rfl, ?_⟩) hHeld ?_ ?_
           rotate_left
           ·rintro w' ⟨s0, s1, s2, s3, s4, s5, s6, s7⟩
            go_simp
            with_reducible rfl
           rotate_left
           ·simp only [Act.put, List.setIfInBounds_toArray, List.set_cons_zero, List.set_cons_succ, i64_w, i32_w]
            rfl
           refine one_ (i := 4) (N := some 52) #[true, true, true, true, true, true, true, true, true, false, true, true, true, true, false, true, true, false, true, true, false, false, false, false, false] rfl rfl (one_of HT_.out (by kernel_rfl)) (by decide) (fun K hK => ?_)
           refine goes_ Tryd.func30 (by kernel_rfl) rfl #[.int .i64 ((rd_T29 l0 x37_2).f0), .int .i64 ((rd_T29 l1 x37_2).f0)] (by rfl) rfl rfl (by (try simp only [List.map_toArray, List.map_cons, List.map_nil]); first | done | rfl | (simp only [List.length_drop, List.length_take]; rfl)) ?_
           with_reducible refine (cmp_Compare_int.calls ((rd_T29 l0 x37_2).f0) ((rd_T29 l1 x37_2).f0) t311 _ A23.out).mono ?_
           rintro e w' ⟨rfl, ⟨nd, rfl⟩⟩
           refine ⟨_, rfl, ?_⟩
           refine hK.out _ _ ⟨(blk_cell BK309.out 0).trans rfl, (blk_cell BK309.out 1).trans rfl, (blk_cell BK309.out 2).trans rfl, (blk_cell BK309.out 3).trans rfl, (blk_cell BK310.out 0).trans rfl, (blk_cell BK310.out 1).trans rfl, (blk_cell BK310.out 2).trans rfl, (blk_cell BK310.out 3).trans rfl⟩ (fun hHeld => ?_)
           clear hK K
           refine norm_ (a' := ?_) ?_ ?_
           rotate_left
           ·show Act.put _ (some 52) _ = _
            simp only [Act.put, List.setIfInBounds_toArray, List.set_cons_zero, List.set_cons_succ, i64_w, i32_w]
            rfl
           refine one_ (i := 9) (N := some 57) #[true, true, true, true, true, true, true, true, true, true, true, true, true, true, false, true, true, false, true, true, false, false, false, false, false] rfl rfl (one_of HT_.out (by kernel_rfl)) (by decide) (fun K hK => ?_)
           refine goes_ Tryd.func31 (by kernel_rfl) rfl #[.int .i64 ((rd_T29 l0 x37_2).f1), .int .i64 ((rd_T29 l1 x37_2).f1)] (by rfl) rfl rfl (by (try simp only [List.map_toArray, List.map_cons, List.map_nil]); first | done | rfl | (simp only [List.length_drop, List.length_take]; rfl)) ?_
           with_reducible refine (cmp_Compare_int64.calls ((rd_T29 l0 x37_2).f1) ((rd_T29 l1 x37_2).f1) t312 _ A24.out).mono ?_
           rintro e w' ⟨rfl, ⟨nd, rfl⟩⟩
           refine ⟨_, rfl, ?_⟩
           refine hK.out _ _ ⟨(blk_cell BK309.out 0).trans rfl, (blk_cell BK309.out 1).trans rfl, (blk_cell BK309.out 2).trans rfl, (blk_cell BK309.out 3).trans rfl, (blk_cell BK310.out 0).trans rfl, (blk_cell BK310.out 1).trans rfl, (blk_cell BK310.out 2).trans rfl, (blk_cell BK310.out 3).trans rfl⟩ (fun hHeld => ?_)
           clear hK K
           refine norm_ (a' := ?_) ?_ ?_
           rotate_left
           ·show Act.put _ (some 57) _ = _
            simp only [Act.put, List.setIfInBounds_toArray, List.set_cons_zero, List.set_cons_succ, i64_w, i32_w]
            rfl
           refine one_ (i := 14) (N := some 62) #[true, true, true, true, true, true, true, true, true, true, true, true, true, true, true, true, true, false, true, true, false, false, false, false, false] rfl rfl (one_of HT_.out (by kernel_rfl)) (by decide) (fun K hK => ?_)
           refine goes_ Tryd.func32 (by kernel_rfl) rfl #[.string ((rd_T29 l0 x37_2).f2), .string ((rd_T29 l1 x37_2).f2)] (by rfl) rfl rfl (by (try simp only [List.map_toArray, List.map_cons, List.map_nil]); first | done | rfl | (simp only [List.length_drop, List.length_take]; rfl)) ?_
           with_reducible refine (cmp_Compare_string.calls ((rd_T29 l0 x37_2).f2) ((rd_T29 l1 x37_2).f2) t313 _ A25.out).mono ?_
           rintro e w' ⟨rfl, ⟨nd, rfl⟩⟩
           refine ⟨_, rfl, ?_⟩
           refine hK.out _ _ ⟨(blk_cell BK309.out 0).trans rfl, (blk_cell BK309.out 1).trans rfl, (blk_cell BK309.out 2).trans rfl, (blk_cell BK309.out 3).trans rfl, (blk_cell BK310.out 0).trans rfl, (blk_cell BK310.out 1).trans rfl, (blk_cell BK310.out 2).trans rfl, (blk_cell BK310.out 3).trans rfl⟩ (fun hHeld => ?_)
           clear hK K
           refine norm_ (a' := ?_) ?_ ?_
           rotate_left
           ·show Act.put _ (some 62) _ = _
            simp only [Act.put, List.setIfInBounds_toArray, List.set_cons_zero, List.set_cons_succ, i64_w, i32_w]
            rfl
           refine one_ (i := 17) (N := some 65) #[true, true, true, true, true, true, true, true, true, true, true, true, true, true, true, true, true, true, true, true, false, false, false, false, false] rfl rfl (one_of HT_.out (by kernel_rfl)) (by decide) (fun K hK => ?_)
           refine goes_ Tryd.func33 (by kernel_rfl) rfl #[.bool ((rd_T29 l0 x37_2).f3)] (by rfl) rfl rfl (by (try simp only [List.map_toArray, List.map_cons, List.map_nil]); first | done | rfl | (simp only [List.length_drop, List.length_take]; rfl)) ?_
           with_reducible refine (code_truth.calls ((rd_T29 l0 x37_2).f3) t314 _ A26.out).mono ?_
           rintro e w' ⟨rfl, ⟨nd, rfl⟩⟩
           refine ⟨_, rfl, ?_⟩
           refine hK.out _ _ ⟨(blk_cell BK309.out 0).trans rfl, (blk_cell BK309.out 1).trans rfl, (blk_cell BK309.out 2).trans rfl, (blk_cell BK309.out 3).trans rfl, (blk_cell BK310.out 0).trans rfl, (blk_cell BK310.out 1).trans rfl, (blk_cell BK310.out 2).trans rfl, (blk_cell BK310.out 3).trans rfl⟩ (fun hHeld => ?_)
           clear hK K
           refine norm_ (a' := ?_) ?_ ?_
           rotate_left
           ·show Act.put _ (some 65) _ = _
            simp only [Act.put, List.setIfInBounds_toArray, List.set_cons_zero, List.set_cons_succ, i64_w, i32_w]
            rfl
           refine one_ (i := 20) (N := some 68) #[true, true, true, true, true, true, true, true, true, true, true, true, true, true, true, true, true, true, true, true, true, false, false, false, false] rfl rfl (one_of HT_.out (by kernel_rfl)) (by decide) (fun K hK => ?_)
           refine goes_ Tryd.func33 (by kernel_rfl) rfl #[.bool ((rd_T29 l1 x37_2).f3)] (by rfl) rfl rfl (by (try simp only [List.map_toArray, List.map_cons, List.map_nil]); first | done | rfl | (simp only [List.length_drop, List.length_take]; rfl)) ?_
           with_reducible refine (code_truth.calls ((rd_T29 l1 x37_2).f3) t315 _ A27.out).mono ?_
           rintro e w' ⟨rfl, ⟨nd, rfl⟩⟩
           refine ⟨_, rfl, ?_⟩
           refine hK.out _ _ ⟨(blk_cell BK309.out 0).trans rfl, (blk_cell BK309.out 1).trans rfl, (blk_cell BK309.out 2).trans rfl, (blk_cell BK309.out 3).trans rfl, (blk_cell BK310.out 0).trans rfl, (blk_cell BK310.out 1).trans rfl, (blk_cell BK310.out 2).trans rfl, (blk_cell BK310.out 3).trans rfl⟩ (fun hHeld => ?_)
           clear hK K
           refine norm_ (a' := ?_) ?_ ?_
           rotate_left
           ·show Act.put _ (some 68) _ = _
            simp only [Act.put, List.setIfInBounds_toArray, List.set_cons_zero, List.set_cons_succ, i64_w, i32_w]
            rfl
           refine pure_ (i := 21) (N := some 69) (v := ?_) (a' := ?_) #[true, true, true, true, true, true, true, true, true, true, true, true, true, true, true, true, true, true, true, true, true, true, false, false, false] rfl rfl (any_of HT_.out (by kernel_rfl)) (fun _ _ _ h => h) (Or.inl ⟨by rfl, ?_⟩) ?_ ?_
           rotate_left
           ·intro w'
            go_simp
            with_reducible rfl
           rotate_left
           ·simp only [Act.put, List.setIfInBounds_toArray, List.set_cons_zero, List.set_cons_succ, i64_w, i32_w]
            rfl
           refine one_ (i := 22) (N := some 70) #[true, true, true, true, true, true, true, true, true, true, true, true, true, true, true, true, true, true, true, true, true, true, true, false, false] rfl rfl (one_of HT_.out (by kernel_rfl)) (by decide) (fun K hK => ?_)
           refine Kd.R_lit_step (Kd.int .i64) _ 3 ?hg (N := 70) ?hd (xs := ([t311, t312, t313, wrap64 (t314 - t315)] : List Int)) (inner := [.int .i64 t311, .int .i64 t312, .int .i64 t313, .int .i64 (wrap64 (t314 - t315))]) (ok := fun _ => True) (okp := fun _ => True) ?hr ?hp (fun _ hk => hk) trivial (Below.refl _ _) (Nat.le_refl _) (by simp) ?_; (case hd => rfl); (case hg => rfl); (case hr => first | (go_simp; done) | (go_simp; rfl)); (case hp => exact (Reps.one (show Kd.M (Kd.int .i64) _ _ _ t311 [.int .i64 t311] from rfl) (Reps.one (show Kd.M (Kd.int .i64) _ _ _ t312 [.int .i64 t312] from rfl) (Reps.one (show Kd.M (Kd.int .i64) _ _ _ t313 [.int .i64 t313] from rfl) (Reps.one (show Kd.M (Kd.int .i64) _ _ _ (wrap64 (t314 - t315)) [.int .i64 (wrap64 (t314 - t315))] from rfl) (Reps.none _ _))))))
           intro v317 w44 ho45 hb hg_ hnew_
           clear hg_ hnew_
           (first | rw [← Ny316.out] at ho45 | (simp only [Int.reduceToNat] at ho45; rw [← Ny316.out] at ho45))
           have n0_ := Aside0.mk (Kd.R_lower ho45 (below_size (by repeat (first | (with_reducible first | exact HB.out | apply below_alloc | apply pw_below_drewN | apply below_drew1 | refine below_set ?_ (Aside0.out ‹_›)) | exact HB.out))))
           have n1_ := Aside0.mk (blk_below (g := gb309) (o := .cells #[.int .i64 ((rd_T29 l0 x37_2).f0), .int .i64 ((rd_T29 l0 x37_2).f1), .string ((rd_T29 l0 x37_2).f2), .bool ((rd_T29 l0 x37_2).f3)] 29 (0, 0)) (by (with_reducible repeat (first | apply bN | apply bD | apply bA)); exact BK309.out) hb)
           have n2_ := Aside0.mk (blk_below (g := gb310) (o := .cells #[.int .i64 ((rd_T29 l1 x37_2).f0), .int .i64 ((rd_T29 l1 x37_2).f1), .string ((rd_T29 l1 x37_2).f2), .bool ((rd_T29 l1 x37_2).f3)] 29 (0, 0)) (by (with_reducible repeat (first | apply bN | apply bD | apply bA)); exact BK310.out) hb)
           have n3_ := Aside0.mk (below_step (by repeat (first | (with_reducible first | exact HB.out | apply below_alloc | apply pw_below_drewN | apply below_drew1 | refine below_set ?_ (Aside0.out ‹_›)) | exact HB.out)) hb)
           clear BK309
           clear BK310
           clear HB
           have HO318 := n0_
           have BK309 := n1_
           have BK310 := n2_
           have HB := n3_
           clear n0_ n1_ n2_ n3_
           clear hb ho45
           obtain ⟨Ao46, co46, eo46⟩ := Kd.R_slice HO318.out
           (first | subst eo46 | (injection eo46 with f1_ f2_ f3_; have f4_ := f1_.symm; have f5_ := f3_.symm; clear f1_ f2_ f3_; subst f4_; subst f5_))
           refine hK.out _ _ ⟨(blk_cell BK309.out 0).trans rfl, (blk_cell BK309.out 1).trans rfl, (blk_cell BK309.out 2).trans rfl, (blk_cell BK309.out 3).trans rfl, (blk_cell BK310.out 0).trans rfl, (blk_cell BK310.out 1).trans rfl, (blk_cell BK310.out 2).trans rfl, (blk_cell BK310.out 3).trans rfl⟩ (fun hHeld => ?_)
           clear hK K
           refine norm_ (a' := ?_) ?_ ?_
           rotate_left
           ·show Act.put _ (some 70) _ = _
            simp only [Act.put, List.setIfInBounds_toArray, List.set_cons_zero, List.set_cons_succ, i64_w, i32_w]
            rfl
           refine one_ (i := 23) (N := some 71) #[true, true, true, true, true, true, true, true, true, true, true, true, true, true, true, true, true, true, true, true, true, true, true, true, false] rfl rfl (one_of HT_.out (by kernel_rfl)) (by decide) (fun K hK => ?_)
           refine goes_ Tryd.func29 (by kernel_rfl) rfl #[.slice Ao46 y316.length co46] (by rfl) rfl rfl (by (try simp only [List.map_toArray, List.map_cons, List.map_nil]); first | done | rfl | (simp only [List.length_drop, List.length_take]; rfl)) ?_
           with_reducible refine (cmp_Or_int.calls k2 _ _ y316 t319 _ ?side1 ?side2 A28.out).mono ?_
           (case side1 => repeat (first | exact (Kd.R_reads' HO318.out).2.2 | (with_reducible refine Kd.C_alloc ?_ _) | (with_reducible refine Kd.C_drewN ?_ _) | (with_reducible refine Kd.C_drew ?_)))
           (case side2 => exact (Kd.R_reads' HO318.out).2.1)
           rintro e w' ⟨rfl, ⟨nd, rfl⟩⟩
           refine ⟨_, rfl, ?_⟩
           refine hK.out _ _ ⟨(blk_cell BK309.out 0).trans rfl, (blk_cell BK309.out 1).trans rfl, (blk_cell BK309.out 2).trans rfl, (blk_cell BK309.out 3).trans rfl, (blk_cell BK310.out 0).trans rfl, (blk_cell BK310.out 1).trans rfl, (blk_cell BK310.out 2).trans rfl, (blk_cell BK310.out 3).trans rfl⟩ (fun hHeld => ?_)
           clear hK K
           refine norm_ (a' := ?_) ?_ ?_
           rotate_left
           ·show Act.put _ (some 71) _ = _
            simp only [Act.put, List.setIfInBounds_toArray, List.set_cons_zero, List.set_cons_succ, i64_w, i32_w]
            rfl
           refine pure_ (i := 24) (N := some 12) (v := ?_) (a' := ?_) #[true, true, true, true, true, true, true, true, true, true, true, true, true, true, true, true, true, true, true, true, true, true, true, true, true] rfl rfl (any_of HT_.out (by kernel_rfl)) (fun _ _ _ h => h) (Or.inl ⟨by rfl, ?_⟩) ?_ ?_
           rotate_left
           ·intro w'
            go_simp
            with_reducible rfl
           rotate_left
           ·simp only [Act.put, List.setIfInBounds_toArray, List.set_cons_zero, List.set_cons_succ, i64_w, i32_w]
            rfl
           refine done_ (done_of HT_.out (by kernel_rfl)) ?_
           try go_wp2
           go_roundg k2
           case measure => have := HK1.out; have := HK2.out; omega
           case rel => exact ⟨(wrap64 (x37_2 + 1)), (by first | rfl | (simp; done) | (simp [*]; done)), H', ⟨by have := HK1.out; have := HK2.out; omega⟩, ⟨by repeat (first | (with_reducible first | exact HB.out | apply below_alloc | apply pw_below_drewN | apply below_drew1 | refine below_set ?_ (Aside0.out ‹_›)) | exact HB.out)⟩⟩
          ·rw [if_neg c29] at H
           have c29b0 : (t319 == 0) = false := beq_eq_false_iff_ne.mpr c29
           have c29b1 : (t319 != 0) = true := bne_iff_ne.mpr c29
           obtain rfl := Option.some.inj H
           try go_wp2
           have n0_ := Aside0.mk (below_drew1 HB.out)
           clear HB
           have HB := n0_
           clear n0_
           have p307 : 0 ≤ (x37_2 : Int) := of_decide_eq_true (by first | (with_reducible assumption) | assumption)
           have q307 : x37_2 < (l0.length : Int) := of_decide_eq_true (by first | (with_reducible assumption) | assumption)
           obtain ⟨ad307, e307, hx307_0, hx307_1, hx307_2, hx307_3⟩ := at_T29 HR0.out x37_2 p307 q307
           have hw307_3 := hx307_3
           have hw307_2 := hx307_2
           have hw307_1 := hx307_1
           have hw307_0 := hx307_0
           cases e307
           replace hx307_0 := (HB.out.cell (World.block_lt_of_cell? w _ hx307_0)).trans hx307_0
           replace hx307_1 := (HB.out.cell (World.block_lt_of_cell? w _ hx307_1)).trans hx307_1
           replace hx307_2 := (HB.out.cell (World.block_lt_of_cell? w _ hx307_2)).trans hx307_2
           replace hx307_3 := (HB.out.cell (World.block_lt_of_cell? w _ hx307_3)).trans hx307_3
           replace p307 := eq_true p307
           replace q307 := eq_true q307
           have p308 : 0 ≤ (x37_2 : Int) := of_decide_eq_true (by first | (with_reducible assumption) | assumption)
           have q308 : x37_2 < (l1.length : Int) := of_decide_eq_true (by first | (with_reducible assumption) | assumption)
           obtain ⟨ad308, e308, hx308_0, hx308_1, hx308_2, hx308_3⟩ := at_T29 HR1.out x37_2 p308 q308
           have hw308_3 := hx308_3
           have hw308_2 := hx308_2
           have hw308_1 := hx308_1
           have hw308_0 := hx308_0
           cases e308
           replace hx308_0 := (HB.out.cell (World.block_lt_of_cell? w _ hx308_0)).trans hx308_0
           replace hx308_1 := (HB.out.cell (World.block_lt_of_cell? w _ hx308_1)).trans hx308_1
           replace hx308_2 := (HB.out.cell (World.block_lt_of_cell? w _ hx308_2)).trans hx308_2
           replace hx308_3 := (HB.out.cell (World.block_lt_of_cell? w _ hx308_3)).trans hx308_3
           replace p308 := eq_true p308
           replace q308 := eq_true q308
           refine start_ (n := 12) (S := fun w' => w'.cell? (ad307.add ((x37_2).toNat * 4)) = some (.int .i64 ((rd_T29 l0 x37_2).f0)) ∧ w'.cell? ⟨(ad307.add ((x37_2).toNat * 4)).block, (ad307.add ((x37_2).toNat * 4)).off + 1, none⟩ = some (.int .i64 ((rd_T29 l0 x37_2).f1)) ∧ w'.cell? ⟨(ad307.add ((x37_2).toNat * 4)).block, (ad307.add ((x37_2).toNat * 4)).off + 2, none⟩ = some (.string ((rd_T29 l0 x37_2).f2)) ∧ w'.cell? ⟨(ad307.add ((x37_2).toNat * 4)).block, (ad307.add ((x37_2).toNat * 4)).off + 3, none⟩ = some (.bool ((rd_T29 l0 x37_2).f3)) ∧ w'.cell? (ad308.add ((x37_2).toNat * 4)) = some (.int .i64 ((rd_T29 l1 x37_2).f0)) ∧ w'.cell? ⟨(ad308.add ((x37_2).toNat * 4)).block, (ad308.add ((x37_2).toNat * 4)).off + 1, none⟩ = some (.int .i64 ((rd_T29 l1 x37_2).f1)) ∧ w'.cell? ⟨(ad308.add ((x37_2).toNat * 4)).block, (ad308.add ((x37_2).toNat * 4)).off + 2, none⟩ = some (.string ((rd_T29 l1 x37_2).f2)) ∧ w'.cell? ⟨(ad308.add ((x37_2).toNat * 4)).block, (ad308.add ((x37_2).toNat * 4)).off + 3, none⟩ = some (.bool ((rd_T29 l1 x37_2).f3))) (ds := []) #[false, false, false, false, false, false, false, false, false, false, false, false] (by kernel_rfl) rfl rfl ⟨((HB.out.cell (World.block_lt_of_cell? w _ hw307_0)).trans hw307_0), ((HB.out.cell (World.block_lt_of_cell? w _ hw307_1)).trans hw307_1), ((HB.out.cell (World.block_lt_of_cell? w _ hw307_2)).trans hw307_2), ((HB.out.cell (World.block_lt_of_cell? w _ hw307_3)).trans hw307_3), ((HB.out.cell (World.block_lt_of_cell? w _ hw308_0)).trans hw308_0), ((HB.out.cell (World.block_lt_of_cell? w _ hw308_1)).trans hw308_1), ((HB.out.cell (World.block_lt_of_cell? w _ hw308_2)).trans hw308_2), ((HB.out.cell (World.block_lt_of_cell? w _ hw308_3)).trans hw308_3)⟩ (fun hHeld => ?_); refine with_tabW code_Order.tab14 code_Order.bits14 (fun HT_ HW_ => ?_)
           generalize wr.drew = w47 at HB hx307_0 hx307_1 hx307_2 hx307_3 hx308_0 hx308_1 hx308_2 hx308_3 hHeld ⊢
           refine pure_ (i := 0) (N := some 40) (v := ?_) (a' := ?_) #[true, false, false, false, false, false, false, false, false, false, false, false] rfl rfl (any_of HT_.out (by kernel_rfl)) (fun _ _ _ h => h) (Or.inl ⟨by rfl, ?_⟩) ?_ ?_
           rotate_left
           ·intro w'
            go_simp
            with_reducible rfl
           rotate_left
           ·simp only [Act.put, List.setIfInBounds_toArray, List.set_cons_zero, List.set_cons_succ, i64_w, i32_w]
            rfl
           refine pure_ (i := 1) (N := some 41) (v := ?_) (a' := ?_) #[true, true, false, false, false, false, false, false, false, false, false, false] rfl rfl (any_of HT_.out (by kernel_rfl)) (fun _ _ _ h => h) (Or.inl ⟨by rfl, ?_⟩) ?_ ?_
           rotate_left
           ·intro w'
            go_simp
            with_reducible rfl
           rotate_left
           ·simp only [Act.put, List.setIfInBounds_toArray, List.set_cons_zero, List.set_cons_succ, i64_w, i32_w]
            rfl
           refine pure_ (i := 2) (N := some 42) (v := ?_) (a' := ?_) #[true, true, true, false, false, false, false, false, false, false, false, false] rfl rfl (any_of HT_.out (by kernel_rfl)) (fun _ _ _ h => h) (Or.inl ⟨by rfl, ?_⟩) ?_ ?_
           rotate_left
           ·intro w'
            go_simp
            with_reducible rfl
           rotate_left
           ·simp only [Act.put, List.setIfInBounds_toArray, List.set_cons_zero, List.set_cons_succ, i64_w, i32_w]
            rfl
           refine pure_ (i := 4) (N := some 44) (v := ?_) (a' := ?_) #[true, true, true, false, true, false, false, false, false, false, false, false] rfl rfl (any_of HT_.out (by kernel_rfl)) (fun _ _ _ h => h) (Or.inl ⟨by rfl, ?_⟩) ?_ ?_
           rotate_left
           ·intro w'
            go_simp
            with_reducible rfl
           rotate_left
           ·simp only [Act.put, List.setIfInBounds_toArray, List.set_cons_zero, List.set_cons_succ, i64_w, i32_w]
            rfl
           refine pure_ (i := 5) (N := some 45) (v := ?_) (a' := ?_) #[true, true, true, false, true, true, false, false, false, false, false, false] rfl rfl (any_of HT_.out (by kernel_rfl)) (fun _ _ _ h => h) (Or.inl ⟨by rfl, ?_⟩) ?_ ?_
           rotate_left
           ·intro w'
            go_simp
            with_reducible rfl
           rotate_left
           ·simp only [Act.put, List.setIfInBounds_toArray, List.set_cons_zero, List.set_cons_succ, i64_w, i32_w]
            rfl
           refine pure_ (i := 6) (N := some 46) (v := ?_) (a' := ?_) #[true, true, true, false, true, true, true, false, false, false, false, false] rfl rfl (any_of HT_.out (by kernel_rfl)) (fun _ _ _ h => h) (Or.inl ⟨by rfl, ?_⟩) ?_ ?_
           rotate_left
           ·intro w'
            go_simp
            with_reducible rfl
           rotate_left
           ·simp only [Act.put, List.setIfInBounds_toArray, List.set_cons_zero, List.set_cons_succ, i64_w, i32_w]
            rfl
           refine take_ (i := 3) (N := some 43) (v := ?_) (a' := ?_) #[true, true, true, true, true, true, true, false, false, false, false, false] rfl rfl (take_ofW HT_.out HW_.out (by kernel_rfl)) (fun _ _ _ h => h) (Or.inl ⟨by rfl, ?_⟩) hHeld ?_ ?_
           rotate_left
           ·rintro w' ⟨s0, s1, s2, s3, s4, s5, s6, s7⟩
            go_simp
            with_reducible rfl
           rotate_left
           ·simp only [Act.put, List.setIfInBounds_toArray, List.set_cons_zero, List.set_cons_succ, i64_w, i32_w]
            rfl
           refine take_ (i := 7) (N := some 47) (v := ?_) (a' := ?_) #[true, true, true, true, true, true, true, true, false, false, false, false] rfl rfl (take_ofW HT_.out HW_.out (by kernel_rfl)) (fun _ _ _ h => h) (Or.inl ⟨by rfl, ?_⟩) hHeld ?_ ?_
           rotate_left
           ·rintro w' ⟨s0, s1, s2, s3, s4, s5, s6, s7⟩
            go_simp
            with_reducible rfl
           rotate_left
           ·simp only [Act.put, List.setIfInBounds_toArray, List.set_cons_zero, List.set_cons_succ, i64_w, i32_w]
            rfl
           refine join_ (σ := Nat × Nat) 2 #[true, true, true, true, true, true, true, true, true, true, false, false] (fun s_ => [(10, .pointer (some ⟨s_.1, 0, none⟩)), (11, .pointer (some ⟨s_.2, 0, none⟩))]) (fun s_ w' => (w'.cell? (ad307.add ((x37_2).toNat * 4)) = some (.int .i64 ((rd_T29 l0 x37_2).f0)) ∧ w'.cell? ⟨(ad307.add ((x37_2).toNat * 4)).block, (ad307.add ((x37_2).toNat * 4)).off + 1, none⟩ = some (.int .i64 ((rd_T29 l0 x37_2).f1)) ∧ w'.cell? ⟨(ad307.add ((x37_2).toNat * 4)).block, (ad307.add ((x37_2).toNat * 4)).off + 2, none⟩ = some (.string ((rd_T29 l0 x37_2).f2)) ∧ w'.cell? ⟨(ad307.add ((x37_2).toNat * 4)).block, (ad307.add ((x37_2).toNat * 4)).off + 3, none⟩ = some (.bool ((rd_T29 l0 x37_2).f3)) ∧ w'.cell? (ad308.add ((x37_2).toNat * 4)) = some (.int .i64 ((rd_T29 l1 x37_2).f0)) ∧ w'.cell? ⟨(ad308.add ((x37_2).toNat * 4)).block, (ad308.add ((x37_2).toNat * 4)).off + 1, none⟩ = some (.int .i64 ((rd_T29 l1 x37_2).f1)) ∧ w'.cell? ⟨(ad308.add ((x37_2).toNat * 4)).block, (ad308.add ((x37_2).toNat * 4)).off + 2, none⟩ = some (.string ((rd_T29 l1 x37_2).f2)) ∧ w'.cell? ⟨(ad308.add ((x37_2).toNat * 4)).block, (ad308.add ((x37_2).toNat * 4)).off + 3, none⟩ = some (.bool ((rd_T29 l1 x37_2).f3))) ∧ (w'.heap[s_.1]? = some (.cells #[.int .i64 0, .int .i64 0, .string (⟨#[]⟩ : ByteArray), .bool false] 29 (0, 0))) ∧ (w'.heap[s_.2]? = some (.cells #[.int .i64 0, .int .i64 0, .string (⟨#[]⟩ : ByteArray), .bool false] 29 (0, 0))) ∧ (w.heap.size ≤ s_.1) ∧ (w.heap.size ≤ s_.1) ∧ (s_.2 ≠ s_.1) ∧ (s_.1 ≠ s_.2) ∧ (w.heap.size ≤ s_.2) ∧ (w.heap.size ≤ s_.2) ∧ (Below w.heap.size w w')) ?_ ?_
           rotate_left
           ·intro hCont
            refine two_ (i := 8) (j := 9) (Ni := some 10) (Nj := some 11) #[true, true, true, true, true, true, true, true, true, false, false, false] #[true, true, true, true, true, true, true, true, false, true, false, false] rfl rfl rfl rfl (two_of HT_.out (by kernel_rfl)) (by decide) (by decide) (fun K hK => ?_) (fun K hK => ?_)
            ·skip
             refine box_step ?hg (N := 10) ?hd (cs := #[.int .i64 0, .int .i64 0, .string (⟨#[]⟩ : ByteArray), .bool false]) (t := 29) ?hr ?_; (case hd => rfl); (case hg => rfl); (case hr => first | (go_simp; done) | (go_simp; rfl))
             intro gb309 hg w48 hbox hb
             have n0_ := Aside0.mk (below_step (by repeat (first | (with_reducible first | exact HB.out | apply below_alloc | apply pw_below_drewN | apply below_drew1) | exact HB.out)) hb)
             have n1_ := Aside0.mk (hbox)
             have n2_ := Aside0.mk ((by rw [hg]; exact (below_size (by repeat (first | (with_reducible first | exact HB.out | apply below_alloc | apply pw_below_drewN | apply below_drew1) | exact HB.out))) : w.heap.size ≤ gb309))
             have n3_ := Aside0.mk ((by rw [hg]; exact (below_size (by repeat (first | (with_reducible first | exact HB.out | apply below_alloc | apply pw_below_drewN | apply below_drew1) | exact HB.out))) : w.heap.size ≤ gb309))
             clear HB
             have HB := n0_
             have BK309 := n1_
             have GW309 := n2_
             have GE309 := n3_
             clear n0_ n1_ n2_ n3_
             clear hb hbox hg
             refine hK.out _ _ ⟨((HB.out.cell (World.block_lt_of_cell? w _ hw307_0)).trans hw307_0), ((HB.out.cell (World.block_lt_of_cell? w _ hw307_1)).trans hw307_1), ((HB.out.cell (World.block_lt_of_cell? w _ hw307_2)).trans hw307_2), ((HB.out.cell (World.block_lt_of_cell? w _ hw307_3)).trans hw307_3), ((HB.out.cell (World.block_lt_of_cell? w _ hw308_0)).trans hw308_0), ((HB.out.cell (World.block_lt_of_cell? w _ hw308_1)).trans hw308_1), ((HB.out.cell (World.block_lt_of_cell? w _ hw308_2)).trans hw308_2), ((HB.out.cell (World.block_lt_of_cell? w _ hw308_3)).trans hw308_3)⟩ (fun hHeld => ?_)
             clear hK K
             refine norm_ (a' := ?_) ?_ ?_
             rotate_left
             ·show Act.put _ (some 10) _ = _
              simp only [Act.put, List.setIfInBounds_toArray, List.set_cons_zero, List.set_cons_succ, i64_w, i32_w]
              rfl
             refine one_ (i := 9) (N := some 11) #[true, true, true, true, true, true, true, true, true, true, false, false] rfl rfl (one_of HT_.out (by kernel_rfl)) (by decide) (fun K hK => ?_)
             refine box_step ?hg (N := 11) ?hd (cs := #[.int .i64 0, .int .i64 0, .string (⟨#[]⟩ : ByteArray), .bool false]) (t := 29) ?hr ?_; (case hd => rfl); (case hg => rfl); (case hr => first | (go_simp; done) | (go_simp; rfl))
             intro gb310 hg w49 hbox hb
             have n0_ := Aside0.mk (blk_below (g := gb309) (o := .cells #[.int .i64 0, .int .i64 0, .string (⟨#[]⟩ : ByteArray), .bool false] 29 (0, 0)) (by (with_reducible repeat (first | apply bN | apply bD | apply bA)); exact BK309.out) hb)
             have n1_ := Aside0.mk (below_step (by repeat (first | (with_reducible first | exact HB.out | apply below_alloc | apply pw_below_drewN | apply below_drew1 | refine below_set ?_ GE309.out) | exact HB.out)) hb)
             have n2_ := Aside0.mk (hbox)
             have n3_ := Aside0.mk ((by rw [hg]; exact (below_size (by repeat (first | (with_reducible first | exact HB.out | apply below_alloc | apply pw_below_drewN | apply below_drew1 | refine below_set ?_ GE309.out) | exact HB.out))) : w.heap.size ≤ gb310))
             have n4_ := Aside0.mk ((by rw [hg]; exact (below_size (by repeat (first | (with_reducible first | exact HB.out | apply below_alloc | apply pw_below_drewN | apply below_drew1 | refine below_set ?_ GE309.out) | exact HB.out))) : w.heap.size ≤ gb310))
             have n5_ := Aside0.mk ((by rw [hg]; exact Nat.ne_of_lt (blk_lt (g := gb309) (o := .cells #[.int .i64 0, .int .i64 0, .string (⟨#[]⟩ : ByteArray), .bool false] 29 (0, 0)) (by (with_reducible repeat (first | apply bN | apply bD | apply bA)); exact BK309.out)) : gb309 ≠ gb310))
             have n6_ := Aside0.mk ((by rw [hg]; exact Nat.ne_of_gt (blk_lt (g := gb309) (o := .cells #[.int .i64 0, .int .i64 0, .string (⟨#[]⟩ : ByteArray), .bool false] 29 (0, 0)) (by (with_reducible repeat (first | apply bN | apply bD | apply bA)); exact BK309.out)) : gb310 ≠ gb309))
             clear BK309
             clear HB
             have BK309 := n0_
             have HB := n1_
             have BK310 := n2_
             have GW310 := n3_
             have GE310 := n4_
             have NB309_310 := n5_
             have NB310_309 := n6_
             clear n0_ n1_ n2_ n3_ n4_ n5_ n6_
             clear hb hbox hg
             refine hK.out _ _ ⟨((HB.out.cell (World.block_lt_of_cell? w _ hw307_0)).trans hw307_0), ((HB.out.cell (World.block_lt_of_cell? w _ hw307_1)).trans hw307_1), ((HB.out.cell (World.block_lt_of_cell? w _ hw307_2)).trans hw307_2), ((HB.out.cell (World.block_lt_of_cell? w _ hw307_3)).trans hw307_3), ((HB.out.cell (World.block_lt_of_cell? w _ hw308_0)).trans hw308_0), ((HB.out.cell (World.block_lt_of_cell? w _ hw308_1)).trans hw308_1), ((HB.out.cell (World.block_lt_of_cell? w _ hw308_2)).trans hw308_2), ((HB.out.cell (World.block_lt_of_cell? w _ hw308_3)).trans hw308_3)⟩ (fun hHeld => ?_)
             clear hK K
             refine norm_ (a' := ?_) ?_ ?_
             rotate_left
             ·show Act.put _ (some 11) _ = _
              simp only [Act.put, List.setIfInBounds_toArray, List.set_cons_zero, List.set_cons_succ, i64_w, i32_w]
              rfl
             exact norm_ (by simp only [putAll, Act.put, List.setIfInBounds_toArray, List.set_cons_zero, List.set_cons_succ]) (hCont (gb309, gb310) _ ⟨hHeld, (by (with_reducible repeat (first | apply bN | apply bD | apply bA)); exact BK309.out), (by (with_reducible repeat (first | apply bN | apply bD | apply bA)); exact BK310.out), GW309.out, GE309.out, NB310_309.out, NB309_310.out, GW310.out, GE310.out, (by repeat (first | (with_reducible first | exact HB.out | apply below_alloc | apply pw_below_drewN | apply below_drew1 | refine below_set ?_ (Aside0.out ‹_›)) | exact HB.out))⟩)
            ·skip
             refine box_step ?hg (N := 11) ?hd (cs := #[.int .i64 0, .int .i64 0, .string (⟨#[]⟩ : ByteArray), .bool false]) (t := 29) ?hr ?_; (case hd => rfl); (case hg => rfl); (case hr => first | (go_simp; done) | (go_simp; rfl))
             intro gb310 hg w48 hbox hb
             have n0_ := Aside0.mk (below_step (by repeat (first | (with_reducible first | exact HB.out | apply below_alloc | apply pw_below_drewN | apply below_drew1) | exact HB.out)) hb)
             have n1_ := Aside0.mk (hbox)
             have n2_ := Aside0.mk ((by rw [hg]; exact (below_size (by repeat (first | (with_reducible first | exact HB.out | apply below_alloc | apply pw_below_drewN | apply below_drew1) | exact HB.out))) : w.heap.size ≤ gb310))
             have n3_ := Aside0.mk ((by rw [hg]; exact (below_size (by repeat (first | (with_reducible first | exact HB.out | apply below_alloc | apply pw_below_drewN | apply below_drew1) | exact HB.out))) : w.heap.size ≤ gb310))
             clear HB
             have HB := n0_
             have BK310 := n1_
             have GW310 := n2_
             have GE310 := n3_
             clear n0_ n1_ n2_ n3_
             clear hb hbox hg
             refine hK.out _ _ ⟨((HB.out.cell (World.block_lt_of_cell? w _ hw307_0)).trans hw307_0), ((HB.out.cell (World.block_lt_of_cell? w _ hw307_1)).trans hw307_1), ((HB.out.cell (World.block_lt_of_cell? w _ hw307_2)).trans hw307_2), ((HB.out.cell (World.block_lt_of_cell? w _ hw307_3)).trans hw307_3), ((HB.out.cell (World.block_lt_of_cell? w _ hw308_0)).trans hw308_0), ((HB.out.cell (World.block_lt_of_cell? w _ hw308_1)).trans hw308_1), ((HB.out.cell (World.block_lt_of_cell? w _ hw308_2)).trans hw308_2), ((HB.out.cell (World.block_lt_of_cell? w _ hw308_3)).trans hw308_3)⟩ (fun hHeld => ?_)
             clear hK K
             refine norm_ (a' := ?_) ?_ ?_
             rotate_left
             ·show Act.put _ (some 11) _ = _
              simp only [Act.put, List.setIfInBounds_toArray, List.set_cons_zero, List.set_cons_succ, i64_w, i32_w]
              rfl
             refine one_ (i := 8) (N := some 10) #[true, true, true, true, true, true, true, true, true, true, false, false] rfl rfl (one_of HT_.out (by kernel_rfl)) (by decide) (fun K hK => ?_)
             refine box_step ?hg (N := 10) ?hd (cs := #[.int .i64 0, .int .i64 0, .string (⟨#[]⟩ : ByteArray), .bool false]) (t := 29) ?hr ?_; (case hd => rfl); (case hg => rfl); (case hr => first | (go_simp; done) | (go_simp; rfl))
             intro gb309 hg w49 hbox hb
             have n0_ := Aside0.mk (blk_below (g := gb310) (o := .cells #[.int .i64 0, .int .i64 0, .string (⟨#[]⟩ : ByteArray), .bool false] 29 (0, 0)) (by (with_reducible repeat (first | apply bN | apply bD | apply bA)); exact BK310.out) hb)
             have n1_ := Aside0.mk (below_step (by repeat (first | (with_reducible first | exact HB.out | apply below_alloc | apply pw_below_drewN | apply below_drew1 | refine below_set ?_ GE310.out) | exact HB.out)) hb)
             have n2_ := Aside0.mk (hbox)
             have n3_ := Aside0.mk ((by rw [hg]; exact (below_size (by repeat (first | (with_reducible first | exact HB.out | apply below_alloc | apply pw_below_drewN | apply below_drew1 | refine below_set ?_ GE310.out) | exact HB.out))) : w.heap.size ≤ gb309))
             have n4_ := Aside0.mk ((by rw [hg]; exact (below_size (by repeat (first | (with_reducible first | exact HB.out | apply below_alloc | apply pw_below_drewN | apply below_drew1 | refine below_set ?_ GE310.out) | exact HB.out))) : w.heap.size ≤ gb309))
             have n5_ := Aside0.mk ((by rw [hg]; exact Nat.ne_of_lt (blk_lt (g := gb310) (o := .cells #[.int .i64 0, .int .i64 0, .string (⟨#[]⟩ : ByteArray), .bool false] 29 (0, 0)) (by (with_reducible repeat (first | apply bN | apply bD | apply bA)); exact BK310.out)) : gb310 ≠ gb309))
             have n6_ := Aside0.mk ((by rw [hg]; exact Nat.ne_of_gt (blk_lt (g := gb310) (o := .cells #[.int .i64 0, .int .i64 0, .string (⟨#[]⟩ : ByteArray), .bool false] 29 (0, 0)) (by (with_reducible repeat (first | apply bN | apply bD | apply bA)); exact BK310.out)) : gb309 ≠ gb310))
             clear BK310
             clear HB
             have BK310 := n0_
             have HB := n1_
             have BK309 := n2_
             have GW309 := n3_
             have GE309 := n4_
             have NB310_309 := n5_
             have NB309_310 := n6_
             clear n0_ n1_ n2_ n3_ n4_ n5_ n6_
             clear hb hbox hg
             refine hK.out _ _ ⟨((HB.out.cell (World.block_lt_of_cell? w _ hw307_0)).trans hw307_0), ((HB.out.cell (World.block_lt_of_cell? w _ hw307_1)).trans hw307_1), ((HB.out.cell (World.block_lt_of_cell? w _ hw307_2)).trans hw307_2), ((HB.out.cell (World.block_lt_of_cell? w _ hw307_3)).trans hw307_3), ((HB.out.cell (World.block_lt_of_cell? w _ hw308_0)).trans hw308_0), ((HB.out.cell (World.block_lt_of_cell? w _ hw308_1)).trans hw308_1), ((HB.out.cell (World.block_lt_of_cell? w _ hw308_2)).trans hw308_2), ((HB.out.cell (World.block_lt_of_cell? w _ hw308_3)).trans hw308_3)⟩ (fun hHeld => ?_)
             clear hK K
             refine norm_ (a' := ?_) ?_ ?_
             rotate_left
             ·show Act.put _ (some 10) _ = _
              simp only [Act.put, List.setIfInBounds_toArray, List.set_cons_zero, List.set_cons_succ, i64_w, i32_w]
              rfl
             exact norm_ (by simp only [putAll, Act.put, List.setIfInBounds_toArray, List.set_cons_zero, List.set_cons_succ]) (hCont (gb309, gb310) _ ⟨hHeld, (by (with_reducible repeat (first | apply bN | apply bD | apply bA)); exact BK309.out), (by (with_reducible repeat (first | apply bN | apply bD | apply bA)); exact BK310.out), GW309.out, GE309.out, NB310_309.out, NB309_310.out, GW310.out, GE310.out, (by repeat (first | (with_reducible first | exact HB.out | apply below_alloc | apply pw_below_drewN | apply below_drew1 | refine below_set ?_ (Aside0.out ‹_›)) | exact HB.out))⟩)
           rintro ⟨gb309, gb310⟩ w50 ⟨hS_, h0_, h1_, h2_, h3_, h4_, h5_, h6_, h7_, h8_⟩
           have n0_ : Aside0 (w50.heap[gb309]? = some (.cells #[.int .i64 0, .int .i64 0, .string (⟨#[]⟩ : ByteArray), .bool false] 29 (0, 0))) := ⟨h0_⟩
           have n1_ : Aside0 (w50.heap[gb310]? = some (.cells #[.int .i64 0, .int .i64 0, .string (⟨#[]⟩ : ByteArray), .bool false] 29 (0, 0))) := ⟨h1_⟩
           have n2_ : Aside0 (w.heap.size ≤ gb309) := ⟨h2_⟩
           have n3_ : Aside0 (w.heap.size ≤ gb309) := ⟨h3_⟩
           have n4_ : Aside0 (gb310 ≠ gb309) := ⟨h4_⟩
           have n5_ : Aside0 (gb309 ≠ gb310) := ⟨h5_⟩
           have n6_ : Aside0 (w.heap.size ≤ gb310) := ⟨h6_⟩
           have n7_ : Aside0 (w.heap.size ≤ gb310) := ⟨h7_⟩
           have n8_ : Aside0 (Below w.heap.size w w50) := ⟨h8_⟩
           clear HB
           clear h0_ h1_ h2_ h3_ h4_ h5_ h6_ h7_ h8_
           have BK309 := n0_
           have BK310 := n1_
           have GW309 := n2_
           have GE309 := n3_
           have NB310_309 := n4_
           have NB309_310 := n5_
           have GW310 := n6_
           have GE310 := n7_
           have HB := n8_
           clear n0_ n1_ n2_ n3_ n4_ n5_ n6_ n7_ n8_
           have hHeld : w50.cell? (ad307.add ((x37_2).toNat * 4)) = some (.int .i64 ((rd_T29 l0 x37_2).f0)) ∧ w50.cell? ⟨(ad307.add ((x37_2).toNat * 4)).block, (ad307.add ((x37_2).toNat * 4)).off + 1, none⟩ = some (.int .i64 ((rd_T29 l0 x37_2).f1)) ∧ w50.cell? ⟨(ad307.add ((x37_2).toNat * 4)).block, (ad307.add ((x37_2).toNat * 4)).off + 2, none⟩ = some (.string ((rd_T29 l0 x37_2).f2)) ∧ w50.cell? ⟨(ad307.add ((x37_2).toNat * 4)).block, (ad307.add ((x37_2).toNat * 4)).off + 3, none⟩ = some (.bool ((rd_T29 l0 x37_2).f3)) ∧ w50.cell? (ad308.add ((x37_2).toNat * 4)) = some (.int .i64 ((rd_T29 l1 x37_2).f0)) ∧ w50.cell? ⟨(ad308.add ((x37_2).toNat * 4)).block, (ad308.add ((x37_2).toNat * 4)).off + 1, none⟩ = some (.int .i64 ((rd_T29 l1 x37_2).f1)) ∧ w50.cell? ⟨(ad308.add ((x37_2).toNat * 4)).block, (ad308.add ((x37_2).toNat * 4)).off + 2, none⟩ = some (.string ((rd_T29 l1 x37_2).f2)) ∧ w50.cell? ⟨(ad308.add ((x37_2).toNat * 4)).block, (ad308.add ((x37_2).toNat * 4)).off + 3, none⟩ = some (.bool ((rd_T29 l1 x37_2).f3)) := hS_
           refine norm_ (a' := ?_) ?_ ?_
           rotate_left
           ·simp only [putAll, Act.put, List.setIfInBounds_toArray, List.set_cons_zero, List.set_cons_succ]
            rfl
           refine one_ (i := 10) (N := none) #[true, true, true, true, true, true, true, true, true, true, true, false] rfl rfl (one_of HT_.out (by kernel_rfl)) (by decide) (fun K hK => ?_)
           have hs51 : w50.cell? ⟨gb309, 0, none⟩ = some (.int .i64 0) := (blk_cell BK309.out 0).trans rfl
           have hfs51 := blk_frozen BK309.out 0
           have hns51_1 := NB310_309.out
           have hms51_1 := NB309_310.out
           have hs52 : w50.cell? ⟨gb309, 1, none⟩ = some (.int .i64 0) := (blk_cell BK309.out 1).trans rfl
           have hfs52 := blk_frozen BK309.out 1
           have hns52_1 := NB310_309.out
           have hms52_1 := NB309_310.out
           have hs53 : w50.cell? ⟨gb309, 2, none⟩ = some (.string (⟨#[]⟩ : ByteArray)) := (blk_cell BK309.out 2).trans rfl
           have hfs53 := blk_frozen BK309.out 2
           have hns53_1 := NB310_309.out
           have hms53_1 := NB309_310.out
           have hs54 : w50.cell? ⟨gb309, 3, none⟩ = some (.bool false) := (blk_cell BK309.out 3).trans rfl
           have hfs54 := blk_frozen BK309.out 3
           have hns54_1 := NB310_309.out
           have hms54_1 := NB309_310.out
           refine skip_ (w1 := ?_) (by rfl) rfl ?_ ?_
           rotate_left
           ·go_simp
            rfl
           refine hK.out _ _ ⟨((cell_far (p := ⟨gb309, _, none⟩) (by first | exact Nat.ne_of_lt (Nat.lt_of_lt_of_le (by have := World.block_lt_of_cell? _ _ hw307_0; first | rwa [add_block] at this | exact this) GW309.out) | (rw [add_block]; exact Nat.ne_of_lt (Nat.lt_of_lt_of_le (by have := World.block_lt_of_cell? _ _ hw307_0; first | rwa [add_block] at this | exact this) GW309.out)) | (show (Addr.add _ _).block ≠ _; rw [add_block]; exact Nat.ne_of_lt (Nat.lt_of_lt_of_le (by have := World.block_lt_of_cell? _ _ hw307_0; first | rwa [add_block] at this | exact this) GW309.out)) | (dsimp only; exact Nat.ne_of_lt (Nat.lt_of_lt_of_le (by have := World.block_lt_of_cell? _ _ hw307_0; first | rwa [add_block] at this | exact this) GW309.out))) _).trans (((cell_far (p := ⟨gb309, _, none⟩) (by first | exact Nat.ne_of_lt (Nat.lt_of_lt_of_le (by have := World.block_lt_of_cell? _ _ hw307_0; first | rwa [add_block] at this | exact this) GW309.out) | (rw [add_block]; exact Nat.ne_of_lt (Nat.lt_of_lt_of_le (by have := World.block_lt_of_cell? _ _ hw307_0; first | rwa [add_block] at this | exact this) GW309.out)) | (show (Addr.add _ _).block ≠ _; rw [add_block]; exact Nat.ne_of_lt (Nat.lt_of_lt_of_le (by have := World.block_lt_of_cell? _ _ hw307_0; first | rwa [add_block] at this | exact this) GW309.out)) | (dsimp only; exact Nat.ne_of_lt (Nat.lt_of_lt_of_le (by have := World.block_lt_of_cell? _ _ hw307_0; first | rwa [add_block] at this | exact this) GW309.out))) _).trans (((cell_far (p := ⟨gb309, _, none⟩) (by first | exact Nat.ne_of_lt (Nat.lt_of_lt_of_le (by have := World.block_lt_of_cell? _ _ hw307_0; first | rwa [add_block] at this | exact this) GW309.out) | (rw [add_block]; exact Nat.ne_of_lt (Nat.lt_of_lt_of_le (by have := World.block_lt_of_cell? _ _ hw307_0; first | rwa [add_block] at this | exact this) GW309.out)) | (show (Addr.add _ _).block ≠ _; rw [add_block]; exact Nat.ne_of_lt (Nat.lt_of_lt_of_le (by have := World.block_lt_of_cell? _ _ hw307_0; first | rwa [add_block] at this | exact this) GW309.out)) | (dsimp only; exact Nat.ne_of_lt (Nat.lt_of_lt_of_le (by have := World.block_lt_of_cell? _ _ hw307_0; first | rwa [add_block] at this | exact this) GW309.out))) _).trans (((cell_far (p := ⟨gb309, _, none⟩) (by first | exact Nat.ne_of_lt (Nat.lt_of_lt_of_le (by have := World.block_lt_of_cell? _ _ hw307_0; first | rwa [add_block] at this | exact this) GW309.out) | (rw [add_block]; exact Nat.ne_of_lt (Nat.lt_of_lt_of_le (by have := World.block_lt_of_cell? _ _ hw307_0; first | rwa [add_block] at this | exact this) GW309.out)) | (show (Addr.add _ _).block ≠ _; rw [add_block]; exact Nat.ne_of_lt (Nat.lt_of_lt_of_le (by have := World.block_lt_of_cell? _ _ hw307_0; first | rwa [add_block] at this | exact this) GW309.out)) | (dsimp only; exact Nat.ne_of_lt (Nat.lt_of_lt_of_le (by have := World.block_lt_of_cell? _ _ hw307_0; first | rwa [add_block] at this | exact this) GW309.out))) _).trans (hHeld.1)))))))), ((cell_far (p := ⟨gb309, _, none⟩) (by first | exact Nat.ne_of_lt (Nat.lt_of_lt_of_le (by have := World.block_lt_of_cell? _ _ hw307_1; first | rwa [add_block] at this | exact this) GW309.out) | (rw [add_block]; exact Nat.ne_of_lt (Nat.lt_of_lt_of_le (by have := World.block_lt_of_cell? _ _ hw307_1; first | rwa [add_block] at this | exact this) GW309.out)) | (show (Addr.add _ _).block ≠ _; rw [add_block]; exact Nat.ne_of_lt (Nat.lt_of_lt_of_le (by have := World.block_lt_of_cell? _ _ hw307_1; first | rwa [add_block] at this | exact this) GW309.out)) | (dsimp only; exact Nat.ne_of_lt (Nat.lt_of_lt_of_le (by have := World.block_lt_of_cell? _ _ hw307_1; first | rwa [add_block] at this | exact this) GW309.out))) _).trans (((cell_far (p := ⟨gb309, _, none⟩) (by first | exact Nat.ne_of_lt (Nat.lt_of_lt_of_le (by have := World.block_lt_of_cell? _ _ hw307_1; first | rwa [add_block] at this | exact this) GW309.out) | (rw [add_block]; exact Nat.ne_of_lt (Nat.lt_of_lt_of_le (by have := World.block_lt_of_cell? _ _ hw307_1; first | rwa [add_block] at this | exact this) GW309.out)) | (show (Addr.add _ _).block ≠ _; rw [add_block]; exact Nat.ne_of_lt (Nat.lt_of_lt_of_le (by have := World.block_lt_of_cell? _ _ hw307_1; first | rwa [add_block] at this | exact this) GW309.out)) | (dsimp only; exact Nat.ne_of_lt (Nat.lt_of_lt_of_le (by have := World.block_lt_of_cell? _ _ hw307_1; first | rwa [add_block] at this | exact this) GW309.out))) _).trans (((cell_far (p := ⟨gb309, _, none⟩) (by first | exact Nat.ne_of_lt (Nat.lt_of_lt_of_le (by have := World.block_lt_of_cell? _ _ hw307_1; first | rwa [add_block] at this | exact this) GW309.out) | (rw [add_block]; exact Nat.ne_of_lt (Nat.lt_of_lt_of_le (by have := World.block_lt_of_cell? _ _ hw307_1; first | rwa [add_block] at this | exact this) GW309.out)) | (show (Addr.add _ _).block ≠ _; rw [add_block]; exact Nat.ne_of_lt (Nat.lt_of_lt_of_le (by have := World.block_lt_of_cell? _ _ hw307_1; first | rwa [add_block] at this | exact this) GW309.out)) | (dsimp only; exact Nat.ne_of_lt (Nat.lt_of_lt_of_le (by have := World.block_lt_of_cell? _ _ hw307_1; first | rwa [add_block] at this | exact this) GW309.out))) _).trans (((cell_far (p := ⟨gb309, _, none⟩) (by first | exact Nat.ne_of_lt (Nat.lt_of_lt_of_le (by have := World.block_lt_of_cell? _ _ hw307_1; first | rwa [add_block] at this | exact this) GW309.out) | (rw [add_block]; exact Nat.ne_of_lt (Nat.lt_of_lt_of_le (by have := World.block_lt_of_cell? _ _ hw307_1; first | rwa [add_block] at this | exact this) GW309.out)) | (show (Addr.add _ _).block ≠ _; rw [add_block]; exact Nat.ne_of_lt (Nat.lt_of_lt_of_le (by have := World.block_lt_of_cell? _ _ hw307_1; first | rwa [add_block] at this | exact this) GW309.out)) | (dsimp only; exact Nat.ne_of_lt (Nat.lt_of_lt_of_le (by have := World.block_lt_of_cell? _ _ hw307_1; first | rwa [add_block] at this | exact this) GW309.out))) _).trans (hHeld.2.1)))))))), ((cell_far (p := ⟨gb309, _, none⟩) (by first | exact Nat.ne_of_lt (Nat.lt_of_lt_of_le (by have := World.block_lt_of_cell? _ _ hw307_2; first | rwa [add_block] at this | exact this) GW309.out) | (rw [add_block]; exact Nat.ne_of_lt (Nat.lt_of_lt_of_le (by have := World.block_lt_of_cell? _ _ hw307_2; first | rwa [add_block] at this | exact this) GW309.out)) | (show (Addr.add _ _).block ≠ _; rw [add_block]; exact Nat.ne_of_lt (Nat.lt_of_lt_of_le (by have := World.block_lt_of_cell? _ _ hw307_2; first | rwa [add_block] at this | exact this) GW309.out)) | (dsimp only; exact Nat.ne_of_lt (Nat.lt_of_lt_of_le (by have := World.block_lt_of_cell? _ _ hw307_2; first | rwa [add_block] at this | exact this) GW309.out))) _).trans (((cell_far (p := ⟨gb309, _, none⟩) (by first | exact Nat.ne_of_lt (Nat.lt_of_lt_of_le (by have := World.block_lt_of_cell? _ _ hw307_2; first | rwa [add_block] at this | exact this) GW309.out) | (rw [add_block]; exact Nat.ne_of_lt (Nat.lt_of_lt_of_le (by have := World.block_lt_of_cell? _ _ hw307_2; first | rwa [add_block] at this | exact this) GW309.out)) | (show (Addr.add _ _).block ≠ _; rw [add_block]; exact Nat.ne_of_lt (Nat.lt_of_lt_of_le (by have := World.block_lt_of_cell? _ _ hw307_2; first | rwa [add_block] at this | exact this) GW309.out)) | (dsimp only; exact Nat.ne_of_lt (Nat.lt_of_lt_of_le (by have := World.block_lt_of_cell? _ _ hw307_2; first | rwa [add_block] at this | exact this) GW309.out))) _).trans (((cell_far (p := ⟨gb309, _, none⟩) (by first | exact Nat.ne_of_lt (Nat.lt_of_lt_of_le (by have := World.block_lt_of_cell? _ _ hw307_2; first | rwa [add_block] at this | exact this) GW309.out) | (rw [add_block]; exact Nat.ne_of_lt (Nat.lt_of_lt_of_le (by have := World.block_lt_of_cell? _ _ hw307_2; first | rwa [add_block] at this | exact this) GW309.out)) | (show (Addr.add _ _).block ≠ _; rw [add_block]; exact Nat.ne_of_lt (Nat.lt_of_lt_of_le (by have := World.block_lt_of_cell? _ _ hw307_2; first | rwa [add_block] at this | exact this) GW309.out)) | (dsimp only; exact Nat.ne_of_lt (Nat.lt_of_lt_of_le (by have := World.block_lt_of_cell? _ _ hw307_2; first | rwa [add_block] at this | exact this) GW309.out))) _).trans (((cell_far (p := ⟨gb309, _, none⟩) (by first | exact Nat.ne_of_lt (Nat.lt_of_lt_of_le (by have := World.block_lt_of_cell? _ _ hw307_2; first | rwa [add_block] at this | exact this) GW309.out) | (rw [add_block]; exact Nat.ne_of_lt (Nat.lt_of_lt_of_le (by have := World.block_lt_of_cell? _ _ hw307_2; first | rwa [add_block] at this | exact this) GW309.out)) | (show (Addr.add _ _).block ≠ _; rw [add_block]; exact Nat.ne_of_lt (Nat.lt_of_lt_of_le (by have := World.block_lt_of_cell? _ _ hw307_2; first | rwa [add_block] at this | exact this) GW309.out)) | (dsimp only; exact Nat.ne_of_lt (Nat.lt_of_lt_of_le (by have := World.block_lt_of_cell? _ _ hw307_2; first | rwa [add_block] at this | exact this) GW309.out))) _).trans (hHeld.2.2.1)))))))), ((cell_far (p := ⟨gb309, _, none⟩) (by first | exact Nat.ne_of_lt (Nat.lt_of_lt_of_le (by have := World.block_lt_of_cell? _ _ hw307_3; first | rwa [add_block] at this | exact this) GW309.out) | (rw [add_block]; exact Nat.ne_of_lt (Nat.lt_of_lt_of_le (by have := World.block_lt_of_cell? _ _ hw307_3; first | rwa [add_block] at this | exact this) GW309.out)) | (show (Addr.add _ _).block ≠ _; rw [add_block]; exact Nat.ne_of_lt (Nat.lt_of_lt_of_le (by have := World.block_lt_of_cell? _ _ hw307_3; first | rwa [add_block] at this | exact this) GW309.out)) | (dsimp only; exact Nat.ne_of_lt (Nat.lt_of_lt_of_le (by have := World.block_lt_of_cell? _ _ hw307_3; first | rwa [add_block] at this | exact this) GW309.out))) _).trans (((cell_far (p := ⟨gb309, _, none⟩) (by first | exact Nat.ne_of_lt (Nat.lt_of_lt_of_le (by have := World.block_lt_of_cell? _ _ hw307_3; first | rwa [add_block] at this | exact this) GW309.out) | (rw [add_block]; exact Nat.ne_of_lt (Nat.lt_of_lt_of_le (by have := World.block_lt_of_cell? _ _ hw307_3; first | rwa [add_block] at this | exact this) GW309.out)) | (show (Addr.add _ _).block ≠ _; rw [add_block]; exact Nat.ne_of_lt (Nat.lt_of_lt_of_le (by have := World.block_lt_of_cell? _ _ hw307_3; first | rwa [add_block] at this | exact this) GW309.out)) | (dsimp only; exact Nat.ne_of_lt (Nat.lt_of_lt_of_le (by have := World.block_lt_of_cell? _ _ hw307_3; first | rwa [add_block] at this | exact this) GW309.out))) _).trans (((cell_far (p := ⟨gb309, _, none⟩) (by first | exact Nat.ne_of_lt (Nat.lt_of_lt_of_le (by have := World.block_lt_of_cell? _ _ hw307_3; first | rwa [add_block] at this | exact this) GW309.out) | (rw [add_block]; exact Nat.ne_of_lt (Nat.lt_of_lt_of_le (by have := World.block_lt_of_cell? _ _ hw307_3; first | rwa [add_block] at this | exact this) GW309.out)) | (show (Addr.add _ _).block ≠ _; rw [add_block]; exact Nat.ne_of_lt (Nat.lt_of_lt_of_le (by have := World.block_lt_of_cell? _ _ hw307_3; first | rwa [add_block] at this | exact this) GW309.out)) | (dsimp only; exact Nat.ne_of_lt (Nat.lt_of_lt_of_le (by have := World.block_lt_of_cell? _ _ hw307_3; first | rwa [add_block] at this | exact this) GW309.out))) _).trans (((cell_far (p := ⟨gb309, _, none⟩) (by first | exact Nat.ne_of_lt (Nat.lt_of_lt_of_le (by have := World.block_lt_of_cell? _ _ hw307_3; first | rwa [add_block] at this | exact this) GW309.out) | (rw [add_block]; exact Nat.ne_of_lt (Nat.lt_of_lt_of_le (by have := World.block_lt_of_cell? _ _ hw307_3; first | rwa [add_block] at this | exact this) GW309.out)) | (show (Addr.add _ _).block ≠ _; rw [add_block]; exact Nat.ne_of_lt (Nat.lt_of_lt_of_le (by have := World.block_lt_of_cell? _ _ hw307_3; first | rwa [add_block] at this | exact this) GW309.out)) | (dsimp only; exact Nat.ne_of_lt (Nat.lt_of_lt_of_le (by have := World.block_lt_of_cell? _ _ hw307_3; first | rwa [add_block] at this | exact this) GW309.out))) _).trans (hHeld.2.2.2.1)))))))), ((cell_far (p := ⟨gb309, _, none⟩) (by first | exact Nat.ne_of_lt (Nat.lt_of_lt_of_le (by have := World.block_lt_of_cell? _ _ hw308_0; first | rwa [add_block] at this | exact this) GW309.out) | (rw [add_block]; exact Nat.ne_of_lt (Nat.lt_of_lt_of_le (by have := World.block_lt_of_cell? _ _ hw308_0; first | rwa [add_block] at this | exact this) GW309.out)) | (show (Addr.add _ _).block ≠ _; rw [add_block]; exact Nat.ne_of_lt (Nat.lt_of_lt_of_le (by have := World.block_lt_of_cell? _ _ hw308_0; first | rwa [add_block] at this | exact this) GW309.out)) | (dsimp only; exact Nat.ne_of_lt (Nat.lt_of_lt_of_le (by have := World.block_lt_of_cell? _ _ hw308_0; first | rwa [add_block] at this | exact this) GW309.out))) _).trans (((cell_far (p := ⟨gb309, _, none⟩) (by first | exact Nat.ne_of_lt (Nat.lt_of_lt_of_le (by have := World.block_lt_of_cell? _ _ hw308_0; first | rwa [add_block] at this | exact this) GW309.out) | (rw [add_block]; exact Nat.ne_of_lt (Nat.lt_of_lt_of_le (by have := World.block_lt_of_cell? _ _ hw308_0; first | rwa [add_block] at this | exact this) GW309.out)) | (show (Addr.add _ _).block ≠ _; rw [add_block]; exact Nat.ne_of_lt (Nat.lt_of_lt_of_le (by have := World.block_lt_of_cell? _ _ hw308_0; first | rwa [add_block] at this | exact this) GW309.out)) | (dsimp only; exact Nat.ne_of_lt (Nat.lt_of_lt_of_le (by have := World.block_lt_of_cell? _ _ hw308_0; first | rwa [add_block] at this | exact this) GW309.out))) _).trans (((cell_far (p := ⟨gb309, _, none⟩) (by first | exact Nat.ne_of_lt (Nat.lt_of_lt_of_le (by have := World.block_lt_of_cell? _ _ hw308_0; first | rwa [add_block] at this | exact this) GW309.out) | (rw [add_block]; exact Nat.ne_of_lt (Nat.lt_of_lt_of_le (by have := World.block_lt_of_cell? _ _ hw308_0; first | rwa [add_block] at this | exact this) GW309.out)) | (show (Addr.add _ _).block ≠ _; rw [add_block]; exact Nat.ne_of_lt (Nat.lt_of_lt_of_le (by have := World.block_lt_of_cell? _ _ hw308_0; first | rwa [add_block] at this | exact this) GW309.out)) | (dsimp only; exact Nat.ne_of_lt (Nat.lt_of_lt_of_le (by have := World.block_lt_of_cell? _ _ hw308_0; first | rwa [add_block] at this | exact this) GW309.out))) _).trans (((cell_far (p := ⟨gb309, _, none⟩) (by first | exact Nat.ne_of_lt (Nat.lt_of_lt_of_le (by have := World.block_lt_of_cell? _ _ hw308_0; first | rwa [add_block] at this | exact this) GW309.out) | (rw [add_block]; exact Nat.ne_of_lt (Nat.lt_of_lt_of_le (by have := World.block_lt_of_cell? _ _ hw308_0; first | rwa [add_block] at this | exact this) GW309.out)) | (show (Addr.add _ _).block ≠ _; rw [add_block]; exact Nat.ne_of_lt (Nat.lt_of_lt_of_le (by have := World.block_lt_of_cell? _ _ hw308_0; first | rwa [add_block] at this | exact this) GW309.out)) | (dsimp only; exact Nat.ne_of_lt (Nat.lt_of_lt_of_le (by have := World.block_lt_of_cell? _ _ hw308_0; first | rwa [add_block] at this | exact this) GW309.out))) _).trans (hHeld.2.2.2.2.1)))))))), ((cell_far (p := ⟨gb309, _, none⟩) (by first | exact Nat.ne_of_lt (Nat.lt_of_lt_of_le (by have := World.block_lt_of_cell? _ _ hw308_1; first | rwa [add_block] at this | exact this) GW309.out) | (rw [add_block]; exact Nat.ne_of_lt (Nat.lt_of_lt_of_le (by have := World.block_lt_of_cell? _ _ hw308_1; first | rwa [add_block] at this | exact this) GW309.out)) | (show (Addr.add _ _).block ≠ _; rw [add_block]; exact Nat.ne_of_lt (Nat.lt_of_lt_of_le (by have := World.block_lt_of_cell? _ _ hw308_1; first | rwa [add_block] at this | exact this) GW309.out)) | (dsimp only; exact Nat.ne_of_lt (Nat.lt_of_lt_of_le (by have := World.block_lt_of_cell? _ _ hw308_1; first | rwa [add_block] at this | exact this) GW309.out))) _).trans (((cell_far (p := ⟨gb309, _, none⟩) (by first | exact Nat.ne_of_lt (Nat.lt_of_lt_of_le (by have := World.block_lt_of_cell? _ _ hw308_1; first | rwa [add_block] at this | exact this) GW309.out) | (rw [add_block]; exact Nat.ne_of_lt (Nat.lt_of_lt_of_le (by have := World.block_lt_of_cell? _ _ hw308_1; first | rwa [add_block] at this | exact this) GW309.out)) | (show (Addr.add _ _).block ≠ _; rw [add_block]; exact Nat.ne_of_lt (Nat.lt_of_lt_of_le (by have := World.block_lt_of_cell? _ _ hw308_1; first | rwa [add_block] at this | exact this) GW309.out)) | (dsimp only; exact Nat.ne_of_lt (Nat.lt_of_lt_of_le (by have := World.block_lt_of_cell? _ _ hw308_1; first | rwa [add_block] at this | exact this) GW309.out))) _).trans (((cell_far (p := ⟨gb309, _, none⟩) (by first | exact Nat.ne_of_lt (Nat.lt_of_lt_of_le (by have := World.block_lt_of_cell? _ _ hw308_1; first | rwa [add_block] at this | exact this) GW309.out) | (rw [add_block]; exact Nat.ne_of_lt (Nat.lt_of_lt_of_le (by have := World.block_lt_of_cell? _ _ hw308_1; first | rwa [add_block] at this | exact this) GW309.out)) | (show (Addr.add _ _).block ≠ _; rw [add_block]; exact Nat.ne_of_lt (Nat.lt_of_lt_of_le (by have := World.block_lt_of_cell? _ _ hw308_1; first | rwa [add_block] at this | exact this) GW309.out)) | (dsimp only; exact Nat.ne_of_lt (Nat.lt_of_lt_of_le (by have := World.block_lt_of_cell? _ _ hw308_1; first | rwa [add_block] at this | exact this) GW309.out))) _).trans (((cell_far (p := ⟨gb309, _, none⟩) (by first | exact Nat.ne_of_lt (Nat.lt_of_lt_of_le (by have := World.block_lt_of_cell? _ _ hw308_1; first | rwa [add_block] at this | exact this) GW309.out) | (rw [add_block]; exact Nat.ne_of_lt (Nat.lt_of_lt_of_le (by have := World.block_lt_of_cell? _ _ hw308_1; first | rwa [add_block] at this | exact this) GW309.out)) | (show (Addr.add _ _).block ≠ _; rw [add_block]; exact Nat.ne_of_lt (Nat.lt_of_lt_of_le (by have := World.block_lt_of_cell? _ _ hw308_1; first | rwa [add_block] at this | exact this) GW309.out)) | (dsimp only; exact Nat.ne_of_lt (Nat.lt_of_lt_of_le (by have := World.block_lt_of_cell? _ _ hw308_1; first | rwa [add_block] at this | exact this) GW309.out))) _).trans (hHeld.2.2.2.2.2.1)))))))), ((cell_far (p := ⟨gb309, _, none⟩) (by first | exact Nat.ne_of_lt (Nat.lt_of_lt_of_le (by have := World.block_lt_of_cell? _ _ hw308_2; first | rwa [add_block] at this | exact this) GW309.out) | (rw [add_block]; exact Nat.ne_of_lt (Nat.lt_of_lt_of_le (by have := World.block_lt_of_cell? _ _ hw308_2; first | rwa [add_block] at this | exact this) GW309.out)) | (show (Addr.add _ _).block ≠ _; rw [add_block]; exact Nat.ne_of_lt (Nat.lt_of_lt_of_le (by have := World.block_lt_of_cell? _ _ hw308_2; first | rwa [add_block] at this | exact this) GW309.out)) | (dsimp only; exact Nat.ne_of_lt (Nat.lt_of_lt_of_le (by have := World.block_lt_of_cell? _ _ hw308_2; first | rwa [add_block] at this | exact this) GW309.out))) _).trans (((cell_far (p := ⟨gb309, _, none⟩) (by first | exact Nat.ne_of_lt (Nat.lt_of_lt_of_le (by have := World.block_lt_of_cell? _ _ hw308_2; first | rwa [add_block] at this | exact this) GW309.out) | (rw [add_block]; exact Nat.ne_of_lt (Nat.lt_of_lt_of_le (by have := World.block_lt_of_cell? _ _ hw308_2; first | rwa [add_block] at this | exact this) GW309.out)) | (show (Addr.add _ _).block ≠ _; rw [add_block]; exact Nat.ne_of_lt (Nat.lt_of_lt_of_le (by have := World.block_lt_of_cell? _ _ hw308_2; first | rwa [add_block] at this | exact this) GW309.out)) | (dsimp only; exact Nat.ne_of_lt (Nat.lt_of_lt_of_le (by have := World.block_lt_of_cell? _ _ hw308_2; first | rwa [add_block] at this | exact this) GW309.out))) _).trans (((cell_far (p := ⟨gb309, _, none⟩) (by first | exact Nat.ne_of_lt (Nat.lt_of_lt_of_le (by have := World.block_lt_of_cell? _ _ hw308_2; first | rwa [add_block] at this | exact this) GW309.out) | (rw [add_block]; exact Nat.ne_of_lt (Nat.lt_of_lt_of_le (by have := World.block_lt_of_cell? _ _ hw308_2; first | rwa [add_block] at this | exact this) GW309.out)) | (show (Addr.add _ _).block ≠ _; rw [add_block]; exact Nat.ne_of_lt (Nat.lt_of_lt_of_le (by have := World.block_lt_of_cell? _ _ hw308_2; first | rwa [add_block] at this | exact this) GW309.out)) | (dsimp only; exact Nat.ne_of_lt (Nat.lt_of_lt_of_le (by have := World.block_lt_of_cell? _ _ hw308_2; first | rwa [add_block] at this | exact this) GW309.out))) _).trans (((cell_far (p := ⟨gb309, _, none⟩) (by first | exact Nat.ne_of_lt (Nat.lt_of_lt_of_le (by have := World.block_lt_of_cell? _ _ hw308_2; first | rwa [add_block] at this | exact this) GW309.out) | (rw [add_block]; exact Nat.ne_of_lt (Nat.lt_of_lt_of_le (by have := World.block_lt_of_cell? _ _ hw308_2; first | rwa [add_block] at this | exact this) GW309.out)) | (show (Addr.add _ _).block ≠ _; rw [add_block]; exact Nat.ne_of_lt (Nat.lt_of_lt_of_le (by have := World.block_lt_of_cell? _ _ hw308_2; first | rwa [add_block] at this | exact this) GW309.out)) | (dsimp only; exact Nat.ne_of_lt (Nat.lt_of_lt_of_le (by have := World.block_lt_of_cell? _ _ hw308_2; first | rwa [add_block] at this | exact this) GW309.out))) _).trans (hHeld.2.2.2.2.2.2.1)))))))), ((cell_far (p := ⟨gb309, _, none⟩) (by first | exact Nat.ne_of_lt (Nat.lt_of_lt_of_le (by have := World.block_lt_of_cell? _ _ hw308_3; first | rwa [add_block] at this | exact this) GW309.out) | (rw [add_block]; exact Nat.ne_of_lt (Nat.lt_of_lt_of_le (by have := World.block_lt_of_cell? _ _ hw308_3; first | rwa [add_block] at this | exact this) GW309.out)) | (show (Addr.add _ _).block ≠ _; rw [add_block]; exact Nat.ne_of_lt (Nat.lt_of_lt_of_le (by have := World.block_lt_of_cell? _ _ hw308_3; first | rwa [add_block] at this | exact this) GW309.out)) | (dsimp only; exact Nat.ne_of_lt (Nat.lt_of_lt_of_le (by have := World.block_lt_of_cell? _ _ hw308_3; first | rwa [add_block] at this | exact this) GW309.out))) _).trans (((cell_far (p := ⟨gb309, _, none⟩) (by first | exact Nat.ne_of_lt (Nat.lt_of_lt_of_le (by have := World.block_lt_of_cell? _ _ hw308_3; first | rwa [add_block] at this | exact this) GW309.out) | (rw [add_block]; exact Nat.ne_of_lt (Nat.lt_of_lt_of_le (by have := World.block_lt_of_cell? _ _ hw308_3; first | rwa [add_block] at this | exact this) GW309.out)) | (show (Addr.add _ _).block ≠ _; rw [add_block]; exact Nat.ne_of_lt (Nat.lt_of_lt_of_le (by have := World.block_lt_of_cell? _ _ hw308_3; first | rwa [add_block] at this | exact this) GW309.out)) | (dsimp only; exact Nat.ne_of_lt (Nat.lt_of_lt_of_le (by have := World.block_lt_of_cell? _ _ hw308_3; first | rwa [add_block] at this | exact this) GW309.out))) _).trans (((cell_far (p := ⟨gb309, _, none⟩) (by first | exact Nat.ne_of_lt (Nat.lt_of_lt_of_le (by have := World.block_lt_of_cell? _ _ hw308_3; first | rwa [add_block] at this | exact this) GW309.out) | (rw [add_block]; exact Nat.ne_of_lt (Nat.lt_of_lt_of_le (by have := World.block_lt_of_cell? _ _ hw308_3; first | rwa [add_block] at this | exact this) GW309.out)) | (show (Addr.add _ _).block ≠ _; rw [add_block]; exact Nat.ne_of_lt (Nat.lt_of_lt_of_le (by have := World.block_lt_of_cell? _ _ hw308_3; first | rwa [add_block] at this | exact this) GW309.out)) | (dsimp only; exact Nat.ne_of_lt (Nat.lt_of_lt_of_le (by have := World.block_lt_of_cell? _ _ hw308_3; first | rwa [add_block] at this | exact this) GW309.out))) _).trans (((cell_far (p := ⟨gb309, _, none⟩) (by first | exact Nat.ne_of_lt (Nat.lt_of_lt_of_le (by have := World.block_lt_of_cell? _ _ hw308_3; first | rwa [add_block] at this | exact this) GW309.out) | (rw [add_block]; exact Nat.ne_of_lt (Nat.lt_of_lt_of_le (by have := World.block_lt_of_cell? _ _ hw308_3; first | rwa [add_block] at this | exact this) GW309.out)) | (show (Addr.add _ _).block ≠ _; rw [add_block]; exact Nat.ne_of_lt (Nat.lt_of_lt_of_le (by have := World.block_lt_of_cell? _ _ hw308_3; first | rwa [add_block] at this | exact this) GW309.out)) | (dsimp only; exact Nat.ne_of_lt (Nat.lt_of_lt_of_le (by have := World.block_lt_of_cell? _ _ hw308_3; first | rwa [add_block] at this | exact this) GW309.out))) _).trans (hHeld.2.2.2.2.2.2.2))))))))⟩ (fun hHeld => ?_)
           clear hK K
           refine one_ (i := 11) (N := none) #[true, true, true, true, true, true, true, true, true, true, true, true] rfl rfl (one_of HT_.out (by kernel_rfl)) (by decide) (fun K hK => ?_)
           have hs55 : w50.cell? ⟨gb310, 0, none⟩ = some (.int .i64 0) := (blk_cell BK310.out 0).trans rfl
           have hfs55 := blk_frozen BK310.out 0
           have hns55_0 := NB309_310.out
           have hms55_0 := NB310_309.out
           have hs56 : w50.cell? ⟨gb310, 1, none⟩ = some (.int .i64 0) := (blk_cell BK310.out 1).trans rfl
           have hfs56 := blk_frozen BK310.out 1
           have hns56_0 := NB309_310.out
           have hms56_0 := NB310_309.out
           have hs57 : w50.cell? ⟨gb310, 2, none⟩ = some (.string (⟨#[]⟩ : ByteArray)) := (blk_cell BK310.out 2).trans rfl
           have hfs57 := blk_frozen BK310.out 2
           have hns57_0 := NB309_310.out
           have hms57_0 := NB310_309.out
           have hs58 : w50.cell? ⟨gb310, 3, none⟩ = some (.bool false) := (blk_cell BK310.out 3).trans rfl
           have hfs58 := blk_frozen BK310.out 3
           have hns58_0 := NB309_310.out
           have hms58_0 := NB310_309.out
           refine skip_ (w1 := ?_) (by rfl) rfl ?_ ?_
           rotate_left
           ·go_simp
            rfl
           refine hK.out _ _ ⟨((cell_far (p := ⟨gb310, _, none⟩) (by first | exact Nat.ne_of_lt (Nat.lt_of_lt_of_le (by have := World.block_lt_of_cell? _ _ hw307_0; first | rwa [add_block] at this | exact this) GW310.out) | (rw [add_block]; exact Nat.ne_of_lt (Nat.lt_of_lt_of_le (by have := World.block_lt_of_cell? _ _ hw307_0; first | rwa [add_block] at this | exact this) GW310.out)) | (show (Addr.add _ _).block ≠ _; rw [add_block]; exact Nat.ne_of_lt (Nat.lt_of_lt_of_le (by have := World.block_lt_of_cell? _ _ hw307_0; first | rwa [add_block] at this | exact this) GW310.out)) | (dsimp only; exact Nat.ne_of_lt (Nat.lt_of_lt_of_le (by have := World.block_lt_of_cell? _ _ hw307_0; first | rwa [add_block] at this | exact this) GW310.out))) _).trans (((cell_far (p := ⟨gb310, _, none⟩) (by first | exact Nat.ne_of_lt (Nat.lt_of_lt_of_le (by have := World.block_lt_of_cell? _ _ hw307_0; first | rwa [add_block] at this | exact this) GW310.out) | (rw [add_block]; exact Nat.ne_of_lt (Nat.lt_of_lt_of_le (by have := World.block_lt_of_cell? _ _ hw307_0; first | rwa [add_block] at this | exact this) GW310.out)) | (show (Addr.add _ _).block ≠ _; rw [add_block]; exact Nat.ne_of_lt (Nat.lt_of_lt_of_le (by have := World.block_lt_of_cell? _ _ hw307_0; first | rwa [add_block] at this | exact this) GW310.out)) | (dsimp only; exact Nat.ne_of_lt (Nat.lt_of_lt_of_le (by have := World.block_lt_of_cell? _ _ hw307_0; first | rwa [add_block] at this | exact this) GW310.out))) _).trans (((cell_far (p := ⟨gb310, _, none⟩) (by first | exact Nat.ne_of_lt (Nat.lt_of_lt_of_le (by have := World.block_lt_of_cell? _ _ hw307_0; first | rwa [add_block] at this | exact this) GW310.out) | (rw [add_block]; exact Nat.ne_of_lt (Nat.lt_of_lt_of_le (by have := World.block_lt_of_cell? _ _ hw307_0; first | rwa [add_block] at this | exact this) GW310.out)) | (show (Addr.add _ _).block ≠ _; rw [add_block]; exact Nat.ne_of_lt (Nat.lt_of_lt_of_le (by have := World.block_lt_of_cell? _ _ hw307_0; first | rwa [add_block] at this | exact this) GW310.out)) | (dsimp only; exact Nat.ne_of_lt (Nat.lt_of_lt_of_le (by have := World.block_lt_of_cell? _ _ hw307_0; first | rwa [add_block] at this | exact this) GW310.out))) _).trans (((cell_far (p := ⟨gb310, _, none⟩) (by first | exact Nat.ne_of_lt (Nat.lt_of_lt_of_le (by have := World.block_lt_of_cell? _ _ hw307_0; first | rwa [add_block] at this | exact this) GW310.out) | (rw [add_block]; exact Nat.ne_of_lt (Nat.lt_of_lt_of_le (by have := World.block_lt_of_cell? _ _ hw307_0; first | rwa [add_block] at this | exact this) GW310.out)) | (show (Addr.add _ _).block ≠ _; rw [add_block]; exact Nat.ne_of_lt (Nat.lt_of_lt_of_le (by have := World.block_lt_of_cell? _ _ hw307_0; first | rwa [add_block] at this | exact this) GW310.out)) | (dsimp only; exact Nat.ne_of_lt (Nat.lt_of_lt_of_le (by have := World.block_lt_of_cell? _ _ hw307_0; first | rwa [add_block] at this | exact this) GW310.out))) _).trans (hHeld.1)))))))), ((cell_far (p := ⟨gb310, _, none⟩) (by first | exact Nat.ne_of_lt (Nat.lt_of_lt_of_le (by have := World.block_lt_of_cell? _ _ hw307_1; first | rwa [add_block] at this | exact this) GW310.out) | (rw [add_block]; exact Nat.ne_of_lt (Nat.lt_of_lt_of_le (by have := World.block_lt_of_cell? _ _ hw307_1; first | rwa [add_block] at this | exact this) GW310.out)) | (show (Addr.add _ _).block ≠ _; rw [add_block]; exact Nat.ne_of_lt (Nat.lt_of_lt_of_le (by have := World.block_lt_of_cell? _ _ hw307_1; first | rwa [add_block] at this | exact this) GW310.out)) | (dsimp only; exact Nat.ne_of_lt (Nat.lt_of_lt_of_le (by have := World.block_lt_of_cell? _ _ hw307_1; first | rwa [add_block] at this | exact this) GW310.out))) _).trans (((cell_far (p := ⟨gb310, _, none⟩) (by first | exact Nat.ne_of_lt (Nat.lt_of_lt_of_le (by have := World.block_lt_of_cell? _ _ hw307_1; first | rwa [add_block] at this | exact this) GW310.out) | (rw [add_block]; exact Nat.ne_of_lt (Nat.lt_of_lt_of_le (by have := World.block_lt_of_cell? _ _ hw307_1; first | rwa [add_block] at this | exact this) GW310.out)) | (show (Addr.add _ _).block ≠ _; rw [add_block]; exact Nat.ne_of_lt (Nat.lt_of_lt_of_le (by have := World.block_lt_of_cell? _ _ hw307_1; first | rwa [add_block] at this | exact this) GW310.out)) | (dsimp only; exact Nat.ne_of_lt (Nat.lt_of_lt_of_le (by have := World.block_lt_of_cell? _ _ hw307_1; first | rwa [add_block] at this | exact this) GW310.out))) _).trans (((cell_far (p := ⟨gb310, _, none⟩) (by first | exact Nat.ne_of_lt (Nat.lt_of_lt_of_le (by have := World.block_lt_of_cell? _ _ hw307_1; first | rwa [add_block] at this | exact this) GW310.out) | (rw [add_block]; exact Nat.ne_of_lt (Nat.lt_of_lt_of_le (by have := World.block_lt_of_cell? _ _ hw307_1; first | rwa [add_block] at this | exact this) GW310.out)) | (show (Addr.add _ _).block ≠ _; rw [add_block]; exact Nat.ne_of_lt (Nat.lt_of_lt_of_le (by have := World.block_lt_of_cell? _ _ hw307_1; first | rwa [add_block] at this | exact this) GW310.out)) | (dsimp only; exact Nat.ne_of_lt (Nat.lt_of_lt_of_le (by have := World.block_lt_of_cell? _ _ hw307_1; first | rwa [add_block] at this | exact this) GW310.out))) _).trans (((cell_far (p := ⟨gb310, _, none⟩) (by first | exact Nat.ne_of_lt (Nat.lt_of_lt_of_le (by have := World.block_lt_of_cell? _ _ hw307_1; first | rwa [add_block] at this | exact this) GW310.out) | (rw [add_block]; exact Nat.ne_of_lt (Nat.lt_of_lt_of_le (by have := World.block_lt_of_cell? _ _ hw307_1; first | rwa [add_block] at this | exact this) GW310.out)) | (show (Addr.add _ _).block ≠ _; rw [add_block]; exact Nat.ne_of_lt (Nat.lt_of_lt_of_le (by have := World.block_lt_of_cell? _ _ hw307_1; first | rwa [add_block] at this | exact this) GW310.out)) | (dsimp only; exact Nat.ne_of_lt (Nat.lt_of_lt_of_le (by have := World.block_lt_of_cell? _ _ hw307_1; first | rwa [add_block] at this | exact this) GW310.out))) _).trans (hHeld.2.1)))))))), ((cell_far (p := ⟨gb310, _, none⟩) (by first | exact Nat.ne_of_lt (Nat.lt_of_lt_of_le (by have := World.block_lt_of_cell? _ _ hw307_2; first | rwa [add_block] at this | exact this) GW310.out) | (rw [add_block]; exact Nat.ne_of_lt (Nat.lt_of_lt_of_le (by have := World.block_lt_of_cell? _ _ hw307_2; first | rwa [add_block] at this | exact this) GW310.out)) | (show (Addr.add _ _).block ≠ _; rw [add_block]; exact Nat.ne_of_lt (Nat.lt_of_lt_of_le (by have := World.block_lt_of_cell? _ _ hw307_2; first | rwa [add_block] at this | exact this) GW310.out)) | (dsimp only; exact Nat.ne_of_lt (Nat.lt_of_lt_of_le (by have := World.block_lt_of_cell? _ _ hw307_2; first | rwa [add_block] at this | exact this) GW310.out))) _).trans (((cell_far (p := ⟨gb310, _, none⟩) (by first | exact Nat.ne_of_lt (Nat.lt_of_lt_of_le (by have := World.block_lt_of_cell? _ _ hw307_2; first | rwa [add_block] at this | exact this) GW310.out) | (rw [add_block]; exact Nat.ne_of_lt (Nat.lt_of_lt_of_le (by have := World.block_lt_of_cell? _ _ hw307_2; first | rwa [add_block] at this | exact this) GW310.out)) | (show (Addr.add _ _).block ≠ _; rw [add_block]; exact Nat.ne_of_lt (Nat.lt_of_lt_of_le (by have := World.block_lt_of_cell? _ _ hw307_2; first | rwa [add_block] at this | exact this) GW310.out)) | (dsimp only; exact Nat.ne_of_lt (Nat.lt_of_lt_of_le (by have := World.block_lt_of_cell? _ _ hw307_2; first | rwa [add_block] at this | exact this) GW310.out))) _).trans (((cell_far (p := ⟨gb310, _, none⟩) (by first | exact Nat.ne_of_lt (Nat.lt_of_lt_of_le (by have := World.block_lt_of_cell? _ _ hw307_2; first | rwa [add_block] at this | exact this) GW310.out) | (rw [add_block]; exact Nat.ne_of_lt (Nat.lt_of_lt_of_le (by have := World.block_lt_of_cell? _ _ hw307_2; first | rwa [add_block] at this | exact this) GW310.out)) | (show (Addr.add _ _).block ≠ _; rw [add_block]; exact Nat.ne_of_lt (Nat.lt_of_lt_of_le (by have := World.block_lt_of_cell? _ _ hw307_2; first | rwa [add_block] at this | exact this) GW310.out)) | (dsimp only; exact Nat.ne_of_lt (Nat.lt_of_lt_of_le (by have := World.block_lt_of_cell? _ _ hw307_2; first | rwa [add_block] at this | exact this) GW310.out))) _).trans (((cell_far (p := ⟨gb310, _, none⟩) (by first | exact Nat.ne_of_lt (Nat.lt_of_lt_of_le (by have := World.block_lt_of_cell? _ _ hw307_2; first | rwa [add_block] at this | exact this) GW310.out) | (rw [add_block]; exact Nat.ne_of_lt (Nat.lt_of_lt_of_le (by have := World.block_lt_of_cell? _ _ hw307_2; first | rwa [add_block] at this | exact this) GW310.out)) | (show (Addr.add _ _).block ≠ _; rw [add_block]; exact Nat.ne_of_lt (Nat.lt_of_lt_of_le (by have := World.block_lt_of_cell? _ _ hw307_2; first | rwa [add_block] at this | exact this) GW310.out)) | (dsimp only; exact Nat.ne_of_lt (Nat.lt_of_lt_of_le (by have := World.block_lt_of_cell? _ _ hw307_2; first | rwa [add_block] at this | exact this) GW310.out))) _).trans (hHeld.2.2.1)))))))), ((cell_far (p := ⟨gb310, _, none⟩) (by first | exact Nat.ne_of_lt (Nat.lt_of_lt_of_le (by have := World.block_lt_of_cell? _ _ hw307_3; first | rwa [add_block] at this | exact this) GW310.out) | (rw [add_block]; exact Nat.ne_of_lt (Nat.lt_of_lt_of_le (by have := World.block_lt_of_cell? _ _ hw307_3; first | rwa [add_block] at this | exact this) GW310.out)) | (show (Addr.add _ _).block ≠ _; rw [add_block]; exact Nat.ne_of_lt (Nat.lt_of_lt_of_le (by have := World.block_lt_of_cell? _ _ hw307_3; first | rwa [add_block] at this | exact this) GW310.out)) | (dsimp only; exact Nat.ne_of_lt (Nat.lt_of_lt_of_le (by have := World.block_lt_of_cell? _ _ hw307_3; first | rwa [add_block] at this | exact this) GW310.out))) _).trans (((cell_far (p := ⟨gb310, _, none⟩) (by first | exact Nat.ne_of_lt (Nat.lt_of_lt_of_le (by have := World.block_lt_of_cell? _ _ hw307_3; first | rwa [add_block] at this | exact this) GW310.out) | (rw [add_block]; exact Nat.ne_of_lt (Nat.lt_of_lt_of_le (by have := World.block_lt_of_cell? _ _ hw307_3; first | rwa [add_block] at this | exact this) GW310.out)) | (show (Addr.add _ _).block ≠ _; rw [add_block]; exact Nat.ne_of_lt (Nat.lt_of_lt_of_le (by have := World.block_lt_of_cell? _ _ hw307_3; first | rwa [add_block] at this | exact this) GW310.out)) | (dsimp only; exact Nat.ne_of_lt (Nat.lt_of_lt_of_le (by have := World.block_lt_of_cell? _ _ hw307_3; first | rwa [add_block] at this | exact this) GW310.out))) _).trans (((cell_far (p := ⟨gb310, _, none⟩) (by first | exact Nat.ne_of_lt (Nat.lt_of_lt_of_le (by have := World.block_lt_of_cell? _ _ hw307_3; first | rwa [add_block] at this | exact this) GW310.out) | (rw [add_block]; exact Nat.ne_of_lt (Nat.lt_of_lt_of_le (by have := World.block_lt_of_cell? _ _ hw307_3; first | rwa [add_block] at this | exact this) GW310.out)) | (show (Addr.add _ _).block ≠ _; rw [add_block]; exact Nat.ne_of_lt (Nat.lt_of_lt_of_le (by have := World.block_lt_of_cell? _ _ hw307_3; first | rwa [add_block] at this | exact this) GW310.out)) | (dsimp only; exact Nat.ne_of_lt (Nat.lt_of_lt_of_le (by have := World.block_lt_of_cell? _ _ hw307_3; first | rwa [add_block] at this | exact this) GW310.out))) _).trans (((cell_far (p := ⟨gb310, _, none⟩) (by first | exact Nat.ne_of_lt (Nat.lt_of_lt_of_le (by have := World.block_lt_of_cell? _ _ hw307_3; first | rwa [add_block] at this | exact this) GW310.out) | (rw [add_block]; exact Nat.ne_of_lt (Nat.lt_of_lt_of_le (by have := World.block_lt_of_cell? _ _ hw307_3; first | rwa [add_block] at this | exact this) GW310.out)) | (show (Addr.add _ _).block ≠ _; rw [add_block]; exact Nat.ne_of_lt (Nat.lt_of_lt_of_le (by have := World.block_lt_of_cell? _ _ hw307_3; first | rwa [add_block] at this | exact this) GW310.out)) | (dsimp only; exact Nat.ne_of_lt (Nat.lt_of_lt_of_le (by have := World.block_lt_of_cell? _ _ hw307_3; first | rwa [add_block] at this | exact this) GW310.out))) _).trans (hHeld.2.2.2.1)))))))), ((cell_far (p := ⟨gb310, _, none⟩) (by first | exact Nat.ne_of_lt (Nat.lt_of_lt_of_le (by have := World.block_lt_of_cell? _ _ hw308_0; first | rwa [add_block] at this | exact this) GW310.out) | (rw [add_block]; exact Nat.ne_of_lt (Nat.lt_of_lt_of_le (by have := World.block_lt_of_cell? _ _ hw308_0; first | rwa [add_block] at this | exact this) GW310.out)) | (show (Addr.add _ _).block ≠ _; rw [add_block]; exact Nat.ne_of_lt (Nat.lt_of_lt_of_le (by have := World.block_lt_of_cell? _ _ hw308_0; first | rwa [add_block] at this | exact this) GW310.out)) | (dsimp only; exact Nat.ne_of_lt (Nat.lt_of_lt_of_le (by have := World.block_lt_of_cell? _ _ hw308_0; first | rwa [add_block] at this | exact this) GW310.out))) _).trans (((cell_far (p := ⟨gb310, _, none⟩) (by first | exact Nat.ne_of_lt (Nat.lt_of_lt_of_le (by have := World.block_lt_of_cell? _ _ hw308_0; first | rwa [add_block] at this | exact this) GW310.out) | (rw [add_block]; exact Nat.ne_of_lt (Nat.lt_of_lt_of_le (by have := World.block_lt_of_cell? _ _ hw308_0; first | rwa [add_block] at this | exact this) GW310.out)) | (show (Addr.add _ _).block ≠ _; rw [add_block]; exact Nat.ne_of_lt (Nat.lt_of_lt_of_le (by have := World.block_lt_of_cell? _ _ hw308_0; first | rwa [add_block] at this | exact this) GW310.out)) | (dsimp only; exact Nat.ne_of_lt (Nat.lt_of_lt_of_le (by have := World.block_lt_of_cell? _ _ hw308_0; first | rwa [add_block] at this | exact this) GW310.out))) _).trans (((cell_far (p := ⟨gb310, _, none⟩) (by first | exact Nat.ne_of_lt (Nat.lt_of_lt_of_le (by have := World.block_lt_of_cell? _ _ hw308_0; first | rwa [add_block] at this | exact this) GW310.out) | (rw [add_block]; exact Nat.ne_of_lt (Nat.lt_of_lt_of_le (by have := World.block_lt_of_cell? _ _ hw308_0; first | rwa [add_block] at this | exact this) GW310.out)) | (show (Addr.add _ _).block ≠ _; rw [add_block]; exact Nat.ne_of_lt (Nat.lt_of_lt_of_le (by have := World.block_lt_of_cell? _ _ hw308_0; first | rwa [add_block] at this | exact this) GW310.out)) | (dsimp only; exact Nat.ne_of_lt (Nat.lt_of_lt_of_le (by have := World.block_lt_of_cell? _ _ hw308_0; first | rwa [add_block] at this | exact this) GW310.out))) _).trans (((cell_far (p := ⟨gb310, _, none⟩) (by first | exact Nat.ne_of_lt (Nat.lt_of_lt_of_le (by have := World.block_lt_of_cell? _ _ hw308_0; first | rwa [add_block] at this | exact this) GW310.out) | (rw [add_block]; exact Nat.ne_of_lt (Nat.lt_of_lt_of_le (by have := World.block_lt_of_cell? _ _ hw308_0; first | rwa [add_block] at this | exact this) GW310.out)) | (show (Addr.add _ _).block ≠ _; rw [add_block]; exact Nat.ne_of_lt (Nat.lt_of_lt_of_le (by have := World.block_lt_of_cell? _ _ hw308_0; first | rwa [add_block] at this | exact this) GW310.out)) | (dsimp only; exact Nat.ne_of_lt (Nat.lt_of_lt_of_le (by have := World.block_lt_of_cell? _ _ hw308_0; first | rwa [add_block] at this | exact this) GW310.out))) _).trans (hHeld.2.2.2.2.1)))))))), ((cell_far (p := ⟨gb310, _, none⟩) (by first | exact Nat.ne_of_lt (Nat.lt_of_lt_of_le (by have := World.block_lt_of_cell? _ _ hw308_1; first | rwa [add_block] at this | exact this) GW310.out) | (rw [add_block]; exact Nat.ne_of_lt (Nat.lt_of_lt_of_le (by have := World.block_lt_of_cell? _ _ hw308_1; first | rwa [add_block] at this | exact this) GW310.out)) | (show (Addr.add _ _).block ≠ _; rw [add_block]; exact Nat.ne_of_lt (Nat.lt_of_lt_of_le (by have := World.block_lt_of_cell? _ _ hw308_1; first | rwa [add_block] at this | exact this) GW310.out)) | (dsimp only; exact Nat.ne_of_lt (Nat.lt_of_lt_of_le (by have := World.block_lt_of_cell? _ _ hw308_1; first | rwa [add_block] at this | exact this) GW310.out))) _).trans (((cell_far (p := ⟨gb310, _, none⟩) (by first | exact Nat.ne_of_lt (Nat.lt_of_lt_of_le (by have := World.block_lt_of_cell? _ _ hw308_1; first | rwa [add_block] at this | exact this) GW310.out) | (rw [add_block]; exact Nat.ne_of_lt (Nat.lt_of_lt_of_le (by have := World.block_lt_of_cell? _ _ hw308_1; first | rwa [add_block] at this | exact this) GW310.out)) | (show (Addr.add _ _).block ≠ _; rw [add_block]; exact Nat.ne_of_lt (Nat.lt_of_lt_of_le (by have := World.block_lt_of_cell? _ _ hw308_1; first | rwa [add_block] at this | exact this) GW310.out)) | (dsimp only; exact Nat.ne_of_lt (Nat.lt_of_lt_of_le (by have := World.block_lt_of_cell? _ _ hw308_1; first | rwa [add_block] at this | exact this) GW310.out))) _).trans (((cell_far (p := ⟨gb310, _, none⟩) (by first | exact Nat.ne_of_lt (Nat.lt_of_lt_of_le (by have := World.block_lt_of_cell? _ _ hw308_1; first | rwa [add_block] at this | exact this) GW310.out) | (rw [add_block]; exact Nat.ne_of_lt (Nat.lt_of_lt_of_le (by have := World.block_lt_of_cell? _ _ hw308_1; first | rwa [add_block] at this | exact this) GW310.out)) | (show (Addr.add _ _).block ≠ _; rw [add_block]; exact Nat.ne_of_lt (Nat.lt_of_lt_of_le (by have := World.block_lt_of_cell? _ _ hw308_1; first | rwa [add_block] at this | exact this) GW310.out)) | (dsimp only; exact Nat.ne_of_lt (Nat.lt_of_lt_of_le (by have := World.block_lt_of_cell? _ _ hw308_1; first | rwa [add_block] at this | exact this) GW310.out))) _).trans (((cell_far (p := ⟨gb310, _, none⟩) (by first | exact Nat.ne_of_lt (Nat.lt_of_lt_of_le (by have := World.block_lt_of_cell? _ _ hw308_1; first | rwa [add_block] at this | exact this) GW310.out) | (rw [add_block]; exact Nat.ne_of_lt (Nat.lt_of_lt_of_le (by have := World.block_lt_of_cell? _ _ hw308_1; first | rwa [add_block] at this | exact this) GW310.out)) | (show (Addr.add _ _).block ≠ _; rw [add_block]; exact Nat.ne_of_lt (Nat.lt_of_lt_of_le (by have := World.block_lt_of_cell? _ _ hw308_1; first | rwa [add_block] at this | exact this) GW310.out)) | (dsimp only; exact Nat.ne_of_lt (Nat.lt_of_lt_of_le (by have := World.block_lt_of_cell? _ _ hw308_1; first | rwa [add_block] at this | exact this) GW310.out))) _).trans (hHeld.2.2.2.2.2.1)))))))), ((cell_far (p := ⟨gb310, _, none⟩) (by first | exact Nat.ne_of_lt (Nat.lt_of_lt_of_le (by have := World.block_lt_of_cell? _ _ hw308_2; first | rwa [add_block] at this | exact this) GW310.out) | (rw [add_block]; exact Nat.ne_of_lt (Nat.lt_of_lt_of_le (by have := World.block_lt_of_cell? _ _ hw308_2; first | rwa [add_block] at this | exact this) GW310.out)) | (show (Addr.add _ _).block ≠ _; rw [add_block]; exact Nat.ne_of_lt (Nat.lt_of_lt_of_le (by have := World.block_lt_of_cell? _ _ hw308_2; first | rwa [add_block] at this | exact this) GW310.out)) | (dsimp only; exact Nat.ne_of_lt (Nat.lt_of_lt_of_le (by have := World.block_lt_of_cell? _ _ hw308_2; first | rwa [add_block] at this | exact this) GW310.out))) _).trans (((cell_far (p := ⟨gb310, _, none⟩) (by first | exact Nat.ne_of_lt (Nat.lt_of_lt_of_le (by have := World.block_lt_of_cell? _ _ hw308_2; first | rwa [add_block] at this | exact this) GW310.out) | (rw [add_block]; exact Nat.ne_of_lt (Nat.lt_of_lt_of_le (by have := World.block_lt_of_cell? _ _ hw308_2; first | rwa [add_block] at this | exact this) GW310.out)) | (show (Addr.add _ _).block ≠ _; rw [add_block]; exact Nat.ne_of_lt (Nat.lt_of_lt_of_le (by have := World.block_lt_of_cell? _ _ hw308_2; first | rwa [add_block] at this | exact this) GW310.out)) | (dsimp only; exact Nat.ne_of_lt (Nat.lt_of_lt_of_le (by have := World.block_lt_of_cell? _ _ hw308_2; first | rwa [add_block] at this | exact this) GW310.out))) _).trans (((cell_far (p := ⟨gb310, _, none⟩) (by first | exact Nat.ne_of_lt (Nat.lt_of_lt_of_le (by have := World.block_lt_of_cell? _ _ hw308_2; first | rwa [add_block] at this | exact this) GW310.out) | (rw [add_block]; exact Nat.ne_of_lt (Nat.lt_of_lt_of_le (by have := World.block_lt_of_cell? _ _ hw308_2; first | rwa [add_block] at this | exact this) GW310.out)) | (show (Addr.add _ _).block ≠ _; rw [add_block]; exact Nat.ne_of_lt (Nat.lt_of_lt_of_le (by have := World.block_lt_of_cell? _ _ hw308_2; first | rwa [add_block] at this | exact this) GW310.out)) | (dsimp only; exact Nat.ne_of_lt (Nat.lt_of_lt_of_le (by have := World.block_lt_of_cell? _ _ hw308_2; first | rwa [add_block] at this | exact this) GW310.out))) _).trans (((cell_far (p := ⟨gb310, _, none⟩) (by first | exact Nat.ne_of_lt (Nat.lt_of_lt_of_le (by have := World.block_lt_of_cell? _ _ hw308_2; first | rwa [add_block] at this | exact this) GW310.out) | (rw [add_block]; exact Nat.ne_of_lt (Nat.lt_of_lt_of_le (by have := World.block_lt_of_cell? _ _ hw308_2; first | rwa [add_block] at this | exact this) GW310.out)) | (show (Addr.add _ _).block ≠ _; rw [add_block]; exact Nat.ne_of_lt (Nat.lt_of_lt_of_le (by have := World.block_lt_of_cell? _ _ hw308_2; first | rwa [add_block] at this | exact this) GW310.out)) | (dsimp only; exact Nat.ne_of_lt (Nat.lt_of_lt_of_le (by have := World.block_lt_of_cell? _ _ hw308_2; first | rwa [add_block] at this | exact this) GW310.out))) _).trans (hHeld.2.2.2.2.2.2.1)))))))), ((cell_far (p := ⟨gb310, _, none⟩) (by first | exact Nat.ne_of_lt (Nat.lt_of_lt_of_le (by have := World.block_lt_of_cell? _ _ hw308_3; first | rwa [add_block] at this | exact this) GW310.out) | (rw [add_block]; exact Nat.ne_of_lt (Nat.lt_of_lt_of_le (by have := World.block_lt_of_cell? _ _ hw308_3; first | rwa [add_block] at this | exact this) GW310.out)) | (show (Addr.add _ _).block ≠ _; rw [add_block]; exact Nat.ne_of_lt (Nat.lt_of_lt_of_le (by have := World.block_lt_of_cell? _ _ hw308_3; first | rwa [add_block] at this | exact this) GW310.out)) | (dsimp only; exact Nat.ne_of_lt (Nat.lt_of_lt_of_le (by have := World.block_lt_of_cell? _ _ hw308_3; first | rwa [add_block] at this | exact this) GW310.out))) _).trans (((cell_far (p := ⟨gb310, _, none⟩) (by first | exact Nat.ne_of_lt (Nat.lt_of_lt_of_le (by have := World.block_lt_of_cell? _ _ hw308_3; first | rwa [add_block] at this | exact this) GW310.out) | (rw [add_block]; exact Nat.ne_of_lt (Nat.lt_of_lt_of_le (by have := World.block_lt_of_cell? _ _ hw308_3; first | rwa [add_block] at this | exact this) GW310.out)) | (show (Addr.add _ _).block ≠ _; rw [add_block]; exact Nat.ne_of_lt (Nat.lt_of_lt_of_le (by have := World.block_lt_of_cell? _ _ hw308_3; first | rwa [add_block] at this | exact this) GW310.out)) | (dsimp only; exact Nat.ne_of_lt (Nat.lt_of_lt_of_le (by have := World.block_lt_of_cell? _ _ hw308_3; first | rwa [add_block] at this | exact this) GW310.out))) _).trans (((cell_far (p := ⟨gb310, _, none⟩) (by first | exact Nat.ne_of_lt (Nat.lt_of_lt_of_le (by have := World.block_lt_of_cell? _ _ hw308_3; first | rwa [add_block] at this | exact this) GW310.out) | (rw [add_block]; exact Nat.ne_of_lt (Nat.lt_of_lt_of_le (by have := World.block_lt_of_cell? _ _ hw308_3; first | rwa [add_block] at this | exact this) GW310.out)) | (show (Addr.add _ _).block ≠ _; rw [add_block]; exact Nat.ne_of_lt (Nat.lt_of_lt_of_le (by have := World.block_lt_of_cell? _ _ hw308_3; first | rwa [add_block] at this | exact this) GW310.out)) | (dsimp only; exact Nat.ne_of_lt (Nat.lt_of_lt_of_le (by have := World.block_lt_of_cell? _ _ hw308_3; first | rwa [add_block] at this | exact this) GW310.out))) _).trans (((cell_far (p := ⟨gb310, _, none⟩) (by first | exact Nat.ne_of_lt (Nat.lt_of_lt_of_le (by have := World.block_lt_of_cell? _ _ hw308_3; first | rwa [add_block] at this | exact this) GW310.out) | (rw [add_block]; exact Nat.ne_of_lt (Nat.lt_of_lt_of_le (by have := World.block_lt_of_cell? _ _ hw308_3; first | rwa [add_block] at this | exact this) GW310.out)) | (show (Addr.add _ _).block ≠ _; rw [add_block]; exact Nat.ne_of_lt (Nat.lt_of_lt_of_le (by have := World.block_lt_of_cell? _ _ hw308_3; first | rwa [add_block] at this | exact this) GW310.out)) | (dsimp only; exact Nat.ne_of_lt (Nat.lt_of_lt_of_le (by have := World.block_lt_of_cell? _ _ hw308_3; first | rwa [add_block] at this | exact this) GW310.out))) _).trans (hHeld.2.2.2.2.2.2.2))))))))⟩ (fun hHeld => ?_)
           clear hK K
           refine done_ (done_of HT_.out (by kernel_rfl)) ?_
           try go_wp2
           have n0_ : Aside0 (((((((((w50.setCell ⟨gb309, 0, none⟩ (.int .i64 ((rd_T29 l0 x37_2).f0))).setCell ⟨gb309, 1, none⟩ (.int .i64 ((rd_T29 l0 x37_2).f1))).setCell ⟨gb309, 2, none⟩ (.string ((rd_T29 l0 x37_2).f2))).setCell ⟨gb309, 3, none⟩ (.bool ((rd_T29 l0 x37_2).f3))).setCell ⟨gb310, 0, none⟩ (.int .i64 ((rd_T29 l1 x37_2).f0))).setCell ⟨gb310, 1, none⟩ (.int .i64 ((rd_T29 l1 x37_2).f1))).setCell ⟨gb310, 2, none⟩ (.string ((rd_T29 l1 x37_2).f2))).setCell ⟨gb310, 3, none⟩ (.bool ((rd_T29 l1 x37_2).f3))).heap[gb309]? = some (.cells #[.int .i64 ((rd_T29 l0 x37_2).f0), .int .i64 ((rd_T29 l0 x37_2).f1), .string ((rd_T29 l0 x37_2).f2), .bool ((rd_T29 l0 x37_2).f3)] 29 (0, 0))) := ⟨by (with_reducible repeat (first | apply bN | apply bD | apply bA)); refine blk_far ?_ NB309_310.out _; (with_reducible repeat (first | apply bN | apply bD | apply bA)); refine blk_far ?_ NB309_310.out _; (with_reducible repeat (first | apply bN | apply bD | apply bA)); refine blk_far ?_ NB309_310.out _; (with_reducible repeat (first | apply bN | apply bD | apply bA)); refine blk_far ?_ NB309_310.out _; (with_reducible repeat (first | apply bN | apply bD | apply bA)); refine blk_put (cs := #[.int .i64 ((rd_T29 l0 x37_2).f0), .int .i64 ((rd_T29 l0 x37_2).f1), .string ((rd_T29 l0 x37_2).f2), .bool false]) ?_ 3 _ rfl; (with_reducible repeat (first | apply bN | apply bD | apply bA)); refine blk_put (cs := #[.int .i64 ((rd_T29 l0 x37_2).f0), .int .i64 ((rd_T29 l0 x37_2).f1), .string (⟨#[]⟩ : ByteArray), .bool false]) ?_ 2 _ rfl; (with_reducible repeat (first | apply bN | apply bD | apply bA)); refine blk_put (cs := #[.int .i64 ((rd_T29 l0 x37_2).f0), .int .i64 0, .string (⟨#[]⟩ : ByteArray), .bool false]) ?_ 1 _ rfl; (with_reducible repeat (first | apply bN | apply bD | apply bA)); refine blk_put (cs := #[.int .i64 0, .int .i64 0, .string (⟨#[]⟩ : ByteArray), .bool false]) ?_ 0 _ rfl; (with_reducible repeat (first | apply bN | apply bD | apply bA)); exact BK309.out⟩
           have n1_ : Aside0 (((((((((w50.setCell ⟨gb309, 0, none⟩ (.int .i64 ((rd_T29 l0 x37_2).f0))).setCell ⟨gb309, 1, none⟩ (.int .i64 ((rd_T29 l0 x37_2).f1))).setCell ⟨gb309, 2, none⟩ (.string ((rd_T29 l0 x37_2).f2))).setCell ⟨gb309, 3, none⟩ (.bool ((rd_T29 l0 x37_2).f3))).setCell ⟨gb310, 0, none⟩ (.int .i64 ((rd_T29 l1 x37_2).f0))).setCell ⟨gb310, 1, none⟩ (.int .i64 ((rd_T29 l1 x37_2).f1))).setCell ⟨gb310, 2, none⟩ (.string ((rd_T29 l1 x37_2).f2))).setCell ⟨gb310, 3, none⟩ (.bool ((rd_T29 l1 x37_2).f3))).heap[gb310]? = some (.cells #[.int .i64 ((rd_T29 l1 x37_2).f0), .int .i64 ((rd_T29 l1 x37_2).f1), .string ((rd_T29 l1 x37_2).f2), .bool ((rd_T29 l1 x37_2).f3)] 29 (0, 0))) := ⟨by (with_reducible repeat (first | apply bN | apply bD | apply bA)); refine blk_put (cs := #[.int .i64 ((rd_T29 l1 x37_2).f0), .int .i64 ((rd_T29 l1 x37_2).f1), .string ((rd_T29 l1 x37_2).f2), .bool false]) ?_ 3 _ rfl; (with_reducible repeat (first | apply bN | apply bD | apply bA)); refine blk_put (cs := #[.int .i64 ((rd_T29 l1 x37_2).f0), .int .i64 ((rd_T29 l1 x37_2).f1), .string (⟨#[]⟩ : ByteArray), .bool false]) ?_ 2 _ rfl; (with_reducible repeat (first | apply bN | apply bD | apply bA)); refine blk_put (cs := #[.int .i64 ((rd_T29 l1 x37_2).f0), .int .i64 0, .string (⟨#[]⟩ : ByteArray), .bool false]) ?_ 1 _ rfl; (with_reducible repeat (first | apply bN | apply bD | apply bA)); refine blk_put (cs := #[.int .i64 0, .int .i64 0, .string (⟨#[]⟩ : ByteArray), .bool false]) ?_ 0 _ rfl; (with_reducible repeat (first | apply bN | apply bD | apply bA)); refine blk_far ?_ NB310_309.out _; (with_reducible repeat (first | apply bN | apply bD | apply bA)); refine blk_far ?_ NB310_309.out _; (with_reducible repeat (first | apply bN | apply bD | apply bA)); refine blk_far ?_ NB310_309.out _; (with_reducible repeat (first | apply bN | apply bD | apply bA)); refine blk_far ?_ NB310_309.out _; (with_reducible repeat (first | apply bN | apply bD | apply bA)); exact BK310.out⟩
           have n2_ : Aside0 (Below w.heap.size w ((((((((w50.setCell ⟨gb309, 0, none⟩ (.int .i64 ((rd_T29 l0 x37_2).f0))).setCell ⟨gb309, 1, none⟩ (.int .i64 ((rd_T29 l0 x37_2).f1))).setCell ⟨gb309, 2, none⟩ (.string ((rd_T29 l0 x37_2).f2))).setCell ⟨gb309, 3, none⟩ (.bool ((rd_T29 l0 x37_2).f3))).setCell ⟨gb310, 0, none⟩ (.int .i64 ((rd_T29 l1 x37_2).f0))).setCell ⟨gb310, 1, none⟩ (.int .i64 ((rd_T29 l1 x37_2).f1))).setCell ⟨gb310, 2, none⟩ (.string ((rd_T29 l1 x37_2).f2))).setCell ⟨gb310, 3, none⟩ (.bool ((rd_T29 l1 x37_2).f3)))) := ⟨by repeat (first | (with_reducible first | exact HB.out | apply below_alloc | apply pw_below_drewN | apply below_drew1 | refine below_set ?_ (Aside0.out ‹_›)) | exact HB.out)⟩
           (try clear BK309)
           (try clear BK310)
           (try clear HB)
           generalize ((((((((w50.setCell ⟨gb309, 0, none⟩ (.int .i64 ((rd_T29 l0 x37_2).f0))).setCell ⟨gb309, 1, none⟩ (.int .i64 ((rd_T29 l0 x37_2).f1))).setCell ⟨gb309, 2, none⟩ (.string ((rd_T29 l0 x37_2).f2))).setCell ⟨gb309, 3, none⟩ (.bool ((rd_T29 l0 x37_2).f3))).setCell ⟨gb310, 0, none⟩ (.int .i64 ((rd_T29 l1 x37_2).f0))).setCell ⟨gb310, 1, none⟩ (.int .i64 ((rd_T29 l1 x37_2).f1))).setCell ⟨gb310, 2, none⟩ (.string ((rd_T29 l1 x37_2).f2))).setCell ⟨gb310, 3, none⟩ (.bool ((rd_T29 l1 x37_2).f3))) = w59 at n0_ n1_ n2_ ⊢
           have BK309 := n0_
           have BK310 := n1_
           have HB := n2_
           clear n0_ n1_ n2_
           have n0_ := Aside0.mk (blk_drew BK309.out)
           have n1_ := Aside0.mk (blk_drew BK310.out)
           have n2_ := Aside0.mk (below_drew1 HB.out)
           clear BK309
           clear BK310
           clear HB
           have BK309 := n0_
           have BK310 := n1_
           have HB := n2_
           clear n0_ n1_ n2_
           refine start_ (n := 25) (S := fun w' => w'.cell? ⟨gb309, 0, none⟩ = some (.int .i64 ((rd_T29 l0 x37_2).f0)) ∧ w'.cell? ⟨gb309, 1, none⟩ = some (.int .i64 ((rd_T29 l0 x37_2).f1)) ∧ w'.cell? ⟨gb309, 2, none⟩ = some (.string ((rd_T29 l0 x37_2).f2)) ∧ w'.cell? ⟨gb309, 3, none⟩ = some (.bool ((rd_T29 l0 x37_2).f3)) ∧ w'.cell? ⟨gb310, 0, none⟩ = some (.int .i64 ((rd_T29 l1 x37_2).f0)) ∧ w'.cell? ⟨gb310, 1, none⟩ = some (.int .i64 ((rd_T29 l1 x37_2).f1)) ∧ w'.cell? ⟨gb310, 2, none⟩ = some (.string ((rd_T29 l1 x37_2).f2)) ∧ w'.cell? ⟨gb310, 3, none⟩ = some (.bool ((rd_T29 l1 x37_2).f3))) (ds := []) #[false, false, false, false, false, false, false, false, false, false, false, false, false, false, false, false, false, false, false, false, false, false, false, false, false] (by kernel_rfl) rfl rfl ⟨(blk_cell BK309.out 0).trans rfl, (blk_cell BK309.out 1).trans rfl, (blk_cell BK309.out 2).trans rfl, (blk_cell BK309.out 3).trans rfl, (blk_cell BK310.out 0).trans rfl, (blk_cell BK310.out 1).trans rfl, (blk_cell BK310.out 2).trans rfl, (blk_cell BK310.out 3).trans rfl⟩ (fun hHeld => ?_); refine with_tabW code_Order.tab15 code_Order.bits15 (fun HT_ HW_ => ?_)
           generalize w59.drew = w60 at BK309 BK310 HB hHeld ⊢
           refine pure_ (i := 0) (N := some 48) (v := ?_) (a' := ?_) #[true, false, false, false, false, false, false, false, false, false, false, false, false, false, false, false, false, false, false, false, false, false, false, false, false] rfl rfl (any_of HT_.out (by kernel_rfl)) (fun _ _ _ h => h) (Or.inl ⟨by rfl, ?_⟩) ?_ ?_
           rotate_left
           ·intro w'
            go_simp
            with_reducible rfl
           rotate_left
           ·simp only [Act.put, List.setIfInBounds_toArray, List.set_cons_zero, List.set_cons_succ, i64_w, i32_w]
            rfl
           refine pure_ (i := 2) (N := some 50) (v := ?_) (a' := ?_) #[true, false, true, false, false, false, false, false, false, false, false, false, false, false, false, false, false, false, false, false, false, false, false, false, false] rfl rfl (any_of HT_.out (by kernel_rfl)) (fun _ _ _ h => h) (Or.inl ⟨by rfl, ?_⟩) ?_ ?_
           rotate_left
           ·intro w'
            go_simp
            with_reducible rfl
           rotate_left
           ·simp only [Act.put, List.setIfInBounds_toArray, List.set_cons_zero, List.set_cons_succ, i64_w, i32_w]
            rfl
           refine pure_ (i := 5) (N := some 53) (v := ?_) (a' := ?_) #[true, false, true, false, false, true, false, false, false, false, false, false, false, false, false, false, false, false, false, false, false, false, false, false, false] rfl rfl (any_of HT_.out (by kernel_rfl)) (fun _ _ _ h => h) (Or.inl ⟨by rfl, ?_⟩) ?_ ?_
           rotate_left
           ·intro w'
            go_simp
            with_reducible rfl
           rotate_left
           ·simp only [Act.put, List.setIfInBounds_toArray, List.set_cons_zero, List.set_cons_succ, i64_w, i32_w]
            rfl
           refine pure_ (i := 7) (N := some 55) (v := ?_) (a' := ?_) #[true, false, true, false, false, true, false, true, false, false, false, false, false, false, false, false, false, false, false, false, false, false, false, false, false] rfl rfl (any_of HT_.out (by kernel_rfl)) (fun _ _ _ h => h) (Or.inl ⟨by rfl, ?_⟩) ?_ ?_
           rotate_left
           ·intro w'
            go_simp
            with_reducible rfl
           rotate_left
           ·simp only [Act.put, List.setIfInBounds_toArray, List.set_cons_zero, List.set_cons_succ, i64_w, i32_w]
            rfl
           refine pure_ (i := 10) (N := some 58) (v := ?_) (a' := ?_) #[true, false, true, false, false, true, false, true, false, false, true, false, false, false, false, false, false, false, false, false, false, false, false, false, false] rfl rfl (any_of HT_.out (by kernel_rfl)) (fun _ _ _ h => h) (Or.inl ⟨by rfl, ?_⟩) ?_ ?_
           rotate_left
           ·intro w'
            go_simp
            with_reducible rfl
           rotate_left
           ·simp only [Act.put, List.setIfInBounds_toArray, List.set_cons_zero, List.set_cons_succ, i64_w, i32_w]
            rfl
           refine pure_ (i := 12) (N := some 60) (v := ?_) (a' := ?_) #[true, false, true, false, false, true, false, true, false, false, true, false, true, false, false, false, false, false, false, false, false, false, false, false, false] rfl rfl (any_of HT_.out (by kernel_rfl)) (fun _ _ _ h => h) (Or.inl ⟨by rfl, ?_⟩) ?_ ?_
           rotate_left
           ·intro w'
            go_simp
            with_reducible rfl
           rotate_left
           ·simp only [Act.put, List.setIfInBounds_toArray, List.set_cons_zero, List.set_cons_succ, i64_w, i32_w]
            rfl
           refine pure_ (i := 15) (N := some 63) (v := ?_) (a' := ?_) #[true, false, true, false, false, true, false, true, false, false, true, false, true, false, false, true, false, false, false, false, false, false, false, false, false] rfl rfl (any_of HT_.out (by kernel_rfl)) (fun _ _ _ h => h) (Or.inl ⟨by rfl, ?_⟩) ?_ ?_
           rotate_left
           ·intro w'
            go_simp
            with_reducible rfl
           rotate_left
           ·simp only [Act.put, List.setIfInBounds_toArray, List.set_cons_zero, List.set_cons_succ, i64_w, i32_w]
            rfl
           refine pure_ (i := 18) (N := some 66) (v := ?_) (a' := ?_) #[true, false, true, false, false, true, false, true, false, false, true, false, true, false, false, true, false, false, true, false, false, false, false, false, false] rfl rfl (any_of HT_.out (by kernel_rfl)) (fun _ _ _ h => h) (Or.inl ⟨by rfl, ?_⟩) ?_ ?_
           rotate_left
           ·intro w'
            go_simp
            with_reducible rfl
           rotate_left
           ·simp only [Act.put, List.setIfInBounds_toArray, List.set_cons_zero, List.set_cons_succ, i64_w, i32_w]
            rfl
           refine take_ (i := 1) (N := some 49) (v := ?_) (a' := ?_) #[true, true, true, false, false, true, false, true, false, false, true, false, true, false, false, true, false, false, true, false, false, false, false, false, false] rfl rfl (take_ofW HT_.out HW_.out (by kernel_rfl)) (fun _ _ _ h => h) (Or.inl ⟨by rfl, ?_⟩) hHeld ?_ ?_
           rotate_left
           ·rintro w' ⟨s0, s1, s2, s3, s4, s5, s6, s7⟩
            go_simp
            with_reducible rfl
           rotate_left
           ·simp only [Act.put, List.setIfInBounds_toArray, List.set_cons_zero, List.set_cons_succ, i64_w, i32_w]
            rfl
           refine take_ (i := 3) (N := some 51) (v := ?_) (a' := ?_) #[true, true, true, true, false, true, false, true, false, false, true, false, true, false, false, true, false, false, true, false, false, false, false, false, false] rfl rfl (take_ofW HT_.out HW_.out (by kernel_rfl)) (fun _ _ _ h => h) (Or.inl ⟨by rfl, ?_⟩) hHeld ?_ ?_
           rotate_left
           ·rintro w' ⟨s0, s1, s2, s3, s4, s5, s6, s7⟩
            go_simp
            with_reducible rfl
           rotate_left
           ·simp only [Act.put, List.setIfInBounds_toArray, List.set_cons_zero, List.set_cons_succ, i64_w, i32_w]
            rfl
           refine take_ (i := 6) (N := some 54) (v := ?_) (a' := ?_) #[true, true, true, true, false, true, true, true, false, false, true, false, true, false, false, true, false, false, true, false, false, false, false, false, false] rfl rfl (take_ofW HT_.out HW_.out (by kernel_rfl)) (fun _ _ _ h => h) (Or.inl ⟨by rfl, ?_⟩) hHeld ?_ ?_
           rotate_left
           ·rintro w' ⟨s0, s1, s2, s3, s4, s5, s6, s7⟩
            go_simp
            with_reducible rfl
           rotate_left
           ·simp only [Act.put, List.setIfInBounds_toArray, List.set_cons_zero, List.set_cons_succ, i64_w, i32_w]
            rfl
           refine take_ (i := 8) (N := some 56) (v := ?_) (a' := ?_) #[true, true, true, true, false, true, true, true, true, false, true, false, true, false, false, true, false, false, true, false, false, false, false, false, false] rfl rfl (take_ofW HT_.out HW_.out (by kernel_rfl)) (fun _ _ _ h => h) (Or.inl ⟨by rfl, ?_⟩) hHeld ?_ ?_
           rotate_left
           ·rintro w' ⟨s0, s1, s2, s3, s4, s5, s6, s7⟩
            go_simp
            with_reducible rfl
           rotate_left
           ·simp only [Act.put, List.setIfInBounds_toArray, List.set_cons_zero, List.set_cons_succ, i64_w, i32_w]
            rfl
           refine take_ (i := 11) (N := some 59) (v := ?_) (a' := ?_) #[true, true, true, true, false, true, true, true, true, false, true, true, true, false, false, true, false, false, true, false, false, false, false, false, false] rfl rfl (take_ofW HT_.out HW_.out (by kernel_rfl)) (fun _ _ _ h => h) (Or.inl ⟨by rfl, ?_⟩) hHeld ?_ ?_
           rotate_left
           ·rintro w' ⟨s0, s1, s2, s3, s4, s5, s6, s7⟩
            go_simp
            with_reducible rfl
           rotate_left
           ·simp only [Act.put, List.setIfInBounds_toArray, List.set_cons_zero, List.set_cons_succ, i64_w, i32_w]
            rfl
           refine take_ (i := 13) (N := some 61) (v := ?_) (a' := ?_) #[true, true, true, true, false, true, true, true, true, false, true, true, true, true, false, true, false, false, true, false, false, false, false, false, false] rfl rfl (take_ofW HT_.out HW_.out (by kernel_rfl)) (fun _ _ _ h => h) (Or.inl ⟨by rfl, ?_⟩) hHeld ?_ ?_
           rotate_left
           ·rintro w' ⟨s0, s1, s2, s3, s4, s5, s6, s7⟩
            go_simp
            with_reducible rfl
           rotate_left
           ·simp only [Act.put, List.setIfInBounds_toArray, List.set_cons_zero, List.set_cons_succ, i64_w, i32_w]
            rfl
           refine take_ (i := 16) (N := some 64) (v := ?_) (a' := ?_) #[true, true, true, true, false, true, true, true, true, false, true, true, true, true, false, true, true, false, true, false, false, false, false, false, false] rfl rfl (take_ofW HT_.out HW_.out (by kernel_rfl)) (fun _ _ _ h => h) (Or.inl ⟨by rfl, ?_⟩) hHeld ?_ ?_
           rotate_left
           ·rintro w' ⟨s0, s1, s2, s3, s4, s5, s6, s7⟩
            go_simp
            with_reducible rfl
           rotate_left
           ·simp only [Act.put, List.setIfInBounds_toArray, List.set_cons_zero, List.set_cons_succ, i64_w, i32_w]
            rfl
           refine take_ (i := 19) (N := some 67) (v := ?_) (a' := ?_) #[true, true, true, true, false, true, true, true, true, false, true, true, true, true, false, true, true, false, true, true, false, false, false, false, false] rfl rfl (take_ofW HT_.out HW_.out (by kernel_rfl)) (fun _ _ _ h => h) (Or.inl ⟨by rfl, ?_⟩) hHeld ?_ ?_
           rotate_left
           ·rintro w' ⟨s0, s1, s2, s3, s4, s5, s6, s7⟩
            go_simp
            with_reducible rfl
           rotate_left
           ·simp only [Act.put, List.setIfInBounds_toArray, List.set_cons_zero, List.set_cons_succ, i64_w, i32_w]
            rfl
           refine one_ (i := 4) (N := some 52) #[true, true, true, true, true, true, true, true, true, false, true, true, true, true, false, true, true, false, true, true, false, false, false, false, false] rfl rfl (one_of HT_.out (by kernel_rfl)) (by decide) (fun K hK => ?_)
           refine goes_ Tryd.func30 (by kernel_rfl) rfl #[.int .i64 ((rd_T29 l0 x37_2).f0), .int .i64 ((rd_T29 l1 x37_2).f0)] (by rfl) rfl rfl (by (try simp only [List.map_toArray, List.map_cons, List.map_nil]); first | done | rfl | (simp only [List.length_drop, List.length_take]; rfl)) ?_
           with_reducible refine (cmp_Compare_int.calls ((rd_T29 l0 x37_2).f0) ((rd_T29 l1 x37_2).f0) t311 _ A23.out).mono ?_
           rintro e w' ⟨rfl, ⟨nd, rfl⟩⟩
           refine ⟨_, rfl, ?_⟩
           refine hK.out _ _ ⟨(blk_cell BK309.out 0).trans rfl, (blk_cell BK309.out 1).trans rfl, (blk_cell BK309.out 2).trans rfl, (blk_cell BK309.out 3).trans rfl, (blk_cell BK310.out 0).trans rfl, (blk_cell BK310.out 1).trans rfl, (blk_cell BK310.out 2).trans rfl, (blk_cell BK310.out 3).trans rfl⟩ (fun hHeld => ?_)
           clear hK K
           refine norm_ (a' := ?_) ?_ ?_
           rotate_left
           ·show Act.put _ (some 52) _ = _
            simp only [Act.put, List.setIfInBounds_toArray, List.set_cons_zero, List.set_cons_succ, i64_w, i32_w]
            rfl
           refine one_ (i := 9) (N := some 57) #[true, true, true, true, true, true, true, true, true, true, true, true, true, true, false, true, true, false, true, true, false, false, false, false, false] rfl rfl (one_of HT_.out (by kernel_rfl)) (by decide) (fun K hK => ?_)
           refine goes_ Tryd.func31 (by kernel_rfl) rfl #[.int .i64 ((rd_T29 l0 x37_2).f1), .int .i64 ((rd_T29 l1 x37_2).f1)] (by rfl) rfl rfl (by (try simp only [List.map_toArray, List.map_cons, List.map_nil]); first | done | rfl | (simp only [List.length_drop, List.length_take]; rfl)) ?_
           with_reducible refine (cmp_Compare_int64.calls ((rd_T29 l0 x37_2).f1) ((rd_T29 l1 x37_2).f1) t312 _ A24.out).mono ?_
           rintro e w' ⟨rfl, ⟨nd, rfl⟩⟩
           refine ⟨_, rfl, ?_⟩
           refine hK.out _ _ ⟨(blk_cell BK309.out 0).trans rfl, (blk_cell BK309.out 1).trans rfl, (blk_cell BK309.out 2).trans rfl, (blk_cell BK309.out 3).trans rfl, (blk_cell BK310.out 0).trans rfl, (blk_cell BK310.out 1).trans rfl, (blk_cell BK310.out 2).trans rfl, (blk_cell BK310.out 3).trans rfl⟩ (fun hHeld => ?_)
           clear hK K
           refine norm_ (a' := ?_) ?_ ?_
           rotate_left
           ·show Act.put _ (some 57) _ = _
            simp only [Act.put, List.setIfInBounds_toArray, List.set_cons_zero, List.set_cons_succ, i64_w, i32_w]
            rfl
           refine one_ (i := 14) (N := some 62) #[true, true, true, true, true, true, true, true, true, true, true, true, true, true, true, true, true, false, true, true, false, false, false, false, false] rfl rfl (one_of HT_.out (by kernel_rfl)) (by decide) (fun K hK => ?_)
           refine goes_ Tryd.func32 (by kernel_rfl) rfl #[.string ((rd_T29 l0 x37_2).f2), .string ((rd_T29 l1 x37_2).f2)] (by rfl) rfl rfl (by (try simp only [List.map_toArray, List.map_cons, List.map_nil]); first | done | rfl | (simp only [List.length_drop, List.length_take]; rfl)) ?_
           with_reducible refine (cmp_Compare_string.calls ((rd_T29 l0 x37_2).f2) ((rd_T29 l1 x37_2).f2) t313 _ A25.out).mono ?_
           rintro e w' ⟨rfl, ⟨nd, rfl⟩⟩
           refine ⟨_, rfl, ?_⟩
           refine hK.out _ _ ⟨(blk_cell BK309.out 0).trans rfl, (blk_cell BK309.out 1).trans rfl, (blk_cell BK309.out 2).trans rfl, (blk_cell BK309.out 3).trans rfl, (blk_cell BK310.out 0).trans rfl, (blk_cell BK310.out 1).trans rfl, (blk_cell BK310.out 2).trans rfl, (blk_cell BK310.out 3).trans rfl⟩ (fun hHeld => ?_)
           clear hK K
           refine norm_ (a' := ?_) ?_ ?_
           rotate_left
           ·show Act.put _ (some 62) _ = _
            simp only [Act.put, List.setIfInBounds_toArray, List.set_cons_zero, List.set_cons_succ, i64_w, i32_w]
            rfl
           refine one_ (i := 17) (N := some 65) #[true, true, true, true, true, true, true, true, true, true, true, true, true, true, true, true, true, true, true, true, false, false, false, false, false] rfl rfl (one_of HT_.out (by kernel_rfl)) (by decide) (fun K hK => ?_)
           refine goes_ Tryd.func33 (by kernel_rfl) rfl #[.bool ((rd_T29 l0 x37_2).f3)] (by rfl) rfl rfl (by (try simp only [List.map_toArray, List.map_cons, List.map_nil]); first | done | rfl | (simp only [List.length_drop, List.length_take]; rfl)) ?_
           with_reducible refine (code_truth.calls ((rd_T29 l0 x37_2).f3) t314 _ A26.out).mono ?_
           rintro e w' ⟨rfl, ⟨nd, rfl⟩⟩
           refine ⟨_, rfl, ?_⟩
           refine hK.out _ _ ⟨(blk_cell BK309.out 0).trans rfl, (blk_cell BK309.out 1).trans rfl, (blk_cell BK309.out 2).trans rfl, (blk_cell BK309.out 3).trans rfl, (blk_cell BK310.out 0).trans rfl, (blk_cell BK310.out 1).trans rfl, (blk_cell BK310.out 2).trans rfl, (blk_cell BK310.out 3).trans rfl⟩ (fun hHeld => ?_)
           clear hK K
           refine norm_ (a' := ?_) ?_ ?_
           rotate_left
           ·show Act.put _ (some 65) _ = _
            simp only [Act.put, List.setIfInBounds_toArray, List.set_cons_zero, List.set_cons_succ, i64_w, i32_w]
            rfl
           refine one_ (i := 20) (N := some 68) #[true, true, true, true, true, true, true, true, true, true, true, true, true, true, true, true, true, true, true, true, true, false, false, false, false] rfl rfl (one_of HT_.out (by kernel_rfl)) (by decide) (fun K hK => ?_)
           refine goes_ Tryd.func33 (by kernel_rfl) rfl #[.bool ((rd_T29 l1 x37_2).f3)] (by rfl) rfl rfl (by (try simp only [List.map_toArray, List.map_cons, List.map_nil]); first | done | rfl | (simp only [List.length_drop, List.length_take]; rfl)) ?_
           with_reducible refine (code_truth.calls ((rd_T29 l1 x37_2).f3) t315 _ A27.out).mono ?_
           rintro e w' ⟨rfl, ⟨nd, rfl⟩⟩
           refine ⟨_, rfl, ?_⟩
           refine hK.out _ _ ⟨(blk_cell BK309.out 0).trans rfl, (blk_cell BK309.out 1).trans rfl, (blk_cell BK309.out 2).trans rfl, (blk_cell BK309.out 3).trans rfl, (blk_cell BK310.out 0).trans rfl, (blk_cell BK310.out 1).trans rfl, (blk_cell BK310.out 2).trans rfl, (blk_cell BK310.out 3).trans rfl⟩ (fun hHeld => ?_)
           clear hK K
           refine norm_ (a' := ?_) ?_ ?_
           rotate_left
           ·show Act.put _ (some 68) _ = _
            simp only [Act.put, List.setIfInBounds_toArray, List.set_cons_zero, List.set_cons_succ, i64_w, i32_w]
            rfl
           refine pure_ (i := 21) (N := some 69) (v := ?_) (a' := ?_) #[true, true, true, true, true, true, true, true, true, true, true, true, true, true, true, true, true, true, true, true, true, true, false, false, false] rfl rfl (any_of HT_.out (by kernel_rfl)) (fun _ _ _ h => h) (Or.inl ⟨by rfl, ?_⟩) ?_ ?_
           rotate_left
           ·intro w'
            go_simp
            with_reducible rfl
           rotate_left
           ·simp only [Act.put, List.setIfInBounds_toArray, List.set_cons_zero, List.set_cons_succ, i64_w, i32_w]
            rfl
           refine one_ (i := 22) (N := some 70) #[true, true, true, true, true, true, true, true, true, true, true, true, true, true, true, true, true, true, true, true, true, true, true, false, false] rfl rfl (one_of HT_.out (by kernel_rfl)) (by decide) (fun K hK => ?_)
           refine Kd.R_lit_step (Kd.int .i64) _ 3 ?hg (N := 70) ?hd (xs := ([t311, t312, t313, wrap64 (t314 - t315)] : List Int)) (inner := [.int .i64 t311, .int .i64 t312, .int .i64 t313, .int .i64 (wrap64 (t314 - t315))]) (ok := fun _ => True) (okp := fun _ => True) ?hr ?hp (fun _ hk => hk) trivial (Below.refl _ _) (Nat.le_refl _) (by simp) ?_; (case hd => rfl); (case hg => rfl); (case hr => first | (go_simp; done) | (go_simp; rfl)); (case hp => exact (Reps.one (show Kd.M (Kd.int .i64) _ _ _ t311 [.int .i64 t311] from rfl) (Reps.one (show Kd.M (Kd.int .i64) _ _ _ t312 [.int .i64 t312] from rfl) (Reps.one (show Kd.M (Kd.int .i64) _ _ _ t313 [.int .i64 t313] from rfl) (Reps.one (show Kd.M (Kd.int .i64) _ _ _ (wrap64 (t314 - t315)) [.int .i64 (wrap64 (t314 - t315))] from rfl) (Reps.none _ _))))))
           intro v317 w61 ho62 hb hg_ hnew_
           clear hg_ hnew_
           (first | rw [← Ny316.out] at ho62 | (simp only [Int.reduceToNat] at ho62; rw [← Ny316.out] at ho62))
           have n0_ := Aside0.mk (Kd.R_lower ho62 (below_size (by repeat (first | (with_reducible first | exact HB.out | apply below_alloc | apply pw_below_drewN | apply below_drew1 | refine below_set ?_ (Aside0.out ‹_›)) | exact HB.out))))
           have n1_ := Aside0.mk (blk_below (g := gb309) (o := .cells #[.int .i64 ((rd_T29 l0 x37_2).f0), .int .i64 ((rd_T29 l0 x37_2).f1), .string ((rd_T29 l0 x37_2).f2), .bool ((rd_T29 l0 x37_2).f3)] 29 (0, 0)) (by (with_reducible repeat (first | apply bN | apply bD | apply bA)); exact BK309.out) hb)
           have n2_ := Aside0.mk (blk_below (g := gb310) (o := .cells #[.int .i64 ((rd_T29 l1 x37_2).f0), .int .i64 ((rd_T29 l1 x37_2).f1), .string ((rd_T29 l1 x37_2).f2), .bool ((rd_T29 l1 x37_2).f3)] 29 (0, 0)) (by (with_reducible repeat (first | apply bN | apply bD | apply bA)); exact BK310.out) hb)
           have n3_ := Aside0.mk (below_step (by repeat (first | (with_reducible first | exact HB.out | apply below_alloc | apply pw_below_drewN | apply below_drew1 | refine below_set ?_ (Aside0.out ‹_›)) | exact HB.out)) hb)
           clear BK309
           clear BK310
           clear HB
           have HO318 := n0_
           have BK309 := n1_
           have BK310 := n2_
           have HB := n3_
           clear n0_ n1_ n2_ n3_
           clear hb ho62
           obtain ⟨Ao63, co63, eo63⟩ := Kd.R_slice HO318.out
           (first | subst eo63 | (injection eo63 with f1_ f2_ f3_; have f4_ := f1_.symm; have f5_ := f3_.symm; clear f1_ f2_ f3_; subst f4_; subst f5_))
           refine hK.out _ _ ⟨(blk_cell BK309.out 0).trans rfl, (blk_cell BK309.out 1).trans rfl, (blk_cell BK309.out 2).trans rfl, (blk_cell BK309.out 3).trans rfl, (blk_cell BK310.out 0).trans rfl, (blk_cell BK310.out 1).trans rfl, (blk_cell BK310.out 2).trans rfl, (blk_cell BK310.out 3).trans rfl⟩ (fun hHeld => ?_)
           clear hK K
           refine norm_ (a' := ?_) ?_ ?_
           rotate_left
           ·show Act.put _ (some 70) _ = _
            simp only [Act.put, List.setIfInBounds_toArray, List.set_cons_zero, List.set_cons_succ, i64_w, i32_w]
            rfl
           refine one_ (i := 23) (N := some 71) #[true, true, true, true, true, true, true, true, true, true, true, true, true, true, true, true, true, true, true, true, true, true, true, true, false] rfl rfl (one_of HT_.out (by kernel_rfl)) (by decide) (fun K hK => ?_)
           refine goes_ Tryd.func29 (by kernel_rfl) rfl #[.slice Ao63 y316.length co63] (by rfl) rfl rfl (by (try simp only [List.map_toArray, List.map_cons, List.map_nil]); first | done | rfl | (simp only [List.length_drop, List.length_take]; rfl)) ?_
           with_reducible refine (cmp_Or_int.calls k2 _ _ y316 t319 _ ?side1 ?side2 A28.out).mono ?_
           (case side1 => repeat (first | exact (Kd.R_reads' HO318.out).2.2 | (with_reducible refine Kd.C_alloc ?_ _) | (with_reducible refine Kd.C_drewN ?_ _) | (with_reducible refine Kd.C_drew ?_)))
           (case side2 => exact (Kd.R_reads' HO318.out).2.1)
           rintro e w' ⟨rfl, ⟨nd, rfl⟩⟩
           refine ⟨_, rfl, ?_⟩
           refine hK.out _ _ ⟨(blk_cell BK309.out 0).trans rfl, (blk_cell BK309.out 1).trans rfl, (blk_cell BK309.out 2).trans rfl, (blk_cell BK309.out 3).trans rfl, (blk_cell BK310.out 0).trans rfl, (blk_cell BK310.out 1).trans rfl, (blk_cell BK310.out 2).trans rfl, (blk_cell BK310.out 3).trans rfl⟩ (fun hHeld => ?_)
           clear hK K
           refine norm_ (a' := ?_) ?_ ?_
           rotate_left
           ·show Act.put _ (some 71) _ = _
            simp only [Act.put, List.setIfInBounds_toArray, List.set_cons_zero, List.set_cons_succ, i64_w, i32_w]
            rfl
           refine pure_ (i := 24) (N := some 12) (v := ?_) (a' := ?_) #[true, true, true, true, true, true, true, true, true, true, true, true, true, true, true, true, true, true, true, true, true, true, true, true, true] rfl rfl (any_of HT_.out (by kernel_rfl)) (fun _ _ _ h => h) (Or.inl ⟨by rfl, ?_⟩) ?_ ?_
           rotate_left
           ·intro w'
            go_simp
            with_reducible rfl
           rotate_left
           ·simp only [Act.put, List.setIfInBounds_toArray, List.set_cons_zero, List.set_cons_succ, i64_w, i32_w]
            rfl
           refine done_ (done_of HT_.out (by kernel_rfl)) ?_
           try go_wp2
           go_ret
           exact ⟨by first | rfl | (simp [errW_none, errW_some] <;> rfl) | (simp only [← hji18]; first | rfl | (simp [errW_none, errW_some] <;> rfl)) | (simp [*, errW_none, errW_some] <;> rfl), by repeat (first | (with_reducible first | exact HB.out | apply below_alloc | apply pw_below_drewN | apply below_drew1 | refine below_set ?_ (Aside0.out ‹_›)) | exact HB.out)⟩
         ·rw [if_neg c22] at H
          exact absurd H (by simp)
        ·rw [if_neg c21] at H
         exact absurd H (by simp)
       ·rw [if_neg c20] at H
        exact absurd H (by simp)
      ·rw [if_neg c19] at H
       have c19b0 : decide (x37_2 < ji18) = false := decide_eq_false c19
       clear c19
       replace H := Option.bind_eq_some_iff.mp H
       obtain ⟨t306, A640, H⟩ := H
       replace H : (some t306) = some r := H
       have A64 := Aside0.mk A640
       clear A640
       obtain rfl := Option.some.inj H
       go_wp2_with (first | ((with_reducible refine gate_callee (f := 30) rfl ?_); refine goesL_ (some 80) rfl rfl Tryd.func30 (by kernel_rfl) rfl #[.int .i64 (l0.length : Int), .int .i64 (l1.length : Int)] rfl (by (try simp only [List.map_toArray, List.map_cons, List.map_nil]); first | done | rfl | (simp only [List.length_drop, List.length_take]; rfl)) ?_; (with_reducible refine (cmp_Compare_int.calls (l0.length : Int) (l1.length : Int) t306 _ A64.out).mono ?_); rintro e w' ⟨rfl, ⟨nd, rfl⟩⟩; refine ⟨_, rfl, ?_⟩))
       go_ret
       exact ⟨by first | rfl | (simp [errW_none, errW_some] <;> rfl) | (simp only [← hji18]; first | rfl | (simp [errW_none, errW_some] <;> rfl)) | (simp [*, errW_none, errW_some] <;> rfl), by repeat (first | (with_reducible first | exact HB.out | apply below_alloc | apply pw_below_drewN | apply below_drew1) | exact HB.out)⟩
end Go.Proofs.YtcheinjlgojepaaDoor.P
