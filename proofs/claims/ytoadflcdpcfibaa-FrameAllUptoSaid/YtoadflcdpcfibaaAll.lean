/- frame.All. -/
import Derived.Lib.Hide
import Derived.Outline
import Derived.Test.YtoadflcdpcfibaaReader
namespace Go.Proofs.Ytoadflcdpcfibaa.P
open Go.RowKit Go.Proofs.YtoadflcdpcfibaaW.PrintWords Go.Proofs.YtoadflcdpcfibaaW.PrintLast Go.Proofs.YtoadflcdpcfibaaW.PrintMore
set_option linter.unusedVariables false
set_option linter.unusedSimpArgs false
def frame_All.l0 : Nat → List Int → List ByteArray → Int → Option (List ByteArray × Int × Int)
 | 0, _, _, _ => none
 | k + 1, x0, x5, x6 => if x6 < (x0.length : Int) then (if 0 ≤ x6 then ((openL k (x0.drop x6.toNat)).bind fun bt => (if bt.2.2.2 = 0 then (if (strOfNums [bt.1]).size + (strOfNums bt.2.1).size ≤ 9223372036854775807 then (if x5.length < 8796093022208 then (frame_All.l0 k x0 (x5 ++ [(strOfNums [bt.1]) ++ (strOfNums bt.2.1)]) (wrap64 (x6 + bt.2.2.1))) else (none)) else (none)) else (some (x5, x6, bt.2.2.2)))) else (none)) else (some (x5, x6, 0))
def frame_All.f (k : Nat) (l0 : List Int) : Option (List ByteArray × Int × Int) := frame_All.l0 k l0 ([] : List ByteArray) 0
theorem frame_All.mono_l : ∀ k, (∀ y0 y1 y2, LeO (frame_All.l0 k y0 y1 y2) (frame_All.l0 (k + 1) y0 y1 y2))
 | 0 => fun _ _ _ r h => by simp [frame_All.l0] at h
 | k + 1 => by
  have ih0 := frame_All.mono_l k
  have io := openL.mono
  intro y0 y1 y2
  unfold frame_All.l0
  repeat' first
   | (with_reducible exact ih0 _ _ _)
   | (with_reducible exact io _ _)
   | (with_reducible exact LeO.refl _)
   | (with_reducible exact LeO.none _)
   | (with_reducible refine LeO.ite ?_ ?_)
   | (with_reducible refine LeO.bind ?_ (fun _ => ?_))
theorem frame_All.mono : ∀ a0 k, LeO (frame_All.f k a0) (frame_All.f (k + 1) a0) := fun a0 k => frame_All.mono_l k _ _ _
set_option maxHeartbeats 4000000 in
set_option maxRecDepth 100000 in
theorem frame_All.calls (k : Nat) (A0 : Option Addr) (c0 : Nat) (l0 : List Int) (r1 : List ByteArray) (r2 : Int) (r3 : Int) (w : World) (hr0 : Kd.C (Kd.int .u8) w A0 l0.length l0) (hc0 : l0.length ≤ c0) (h : frame_All.f k l0 = some (r1, r2, r3)) :
    Calls Try.prog 14 #[.slice A0 l0.length c0] w fun e w' => ∃ v0_ : Value, e = .returned (.tuple #[v0_, .int .i64 r2, .int .i64 r3]) ∧ Kd.R Kd.string 9 w' w.heap.size (fun _ => True) v0_ r1 ∧ Below w.heap.size w w' := by
  have HR0 := Aside0.mk hr0
  have HC0 := Aside0.mk hc0
  have H' := Aside0.mk (show frame_All.l0 k l0 ([] : List ByteArray) 0 = some (r1, r2, r3) from h)
  have hm := Kd.C_max hr0
  clear hr0 hc0 h
  go_enter Try.func14, Try.ntmps14
  go_wp2
  go_loopg [6, 7, 8, 9, 10] k (fun kq v6 v7 v8 v9 v10 wr => ∃ (x5 : List ByteArray) (x6 : Int), Aside0 (frame_All.l0 kq l0 x5 x6 = some (r1, r2, r3)) ∧ Aside0 (kq ≤ k) ∧ Aside0 (wr.heap[w.heap.size]? = some (.cells #[.slice A0 l0.length c0, .int .i64 x6] 52 (0, 0))) ∧ Aside0 (Kd.R Kd.string 9 wr w.heap.size (fun _ => True) v6 x5) ∧ Aside0 (Below w.heap.size w wr))
  case atStart => exact ⟨[], 0, H', ⟨Nat.le_refl _⟩, ⟨blk_new w _⟩, ⟨Kd.R_nil _ _ _ _ _⟩, ⟨(Below.refl _ _).alloc (Nat.le_refl _) _⟩⟩
  case round =>
    clear H'
    obtain ⟨x5, x6, HA, HK, HBX, HO, HB⟩ := hrel
    cases gk with
    | zero => exact absurd HA.out (by simp [frame_All.l0])
    | succ k1 =>
      have hb0 := blk_cell HBX.out 0
      have hb1 := blk_cell HBX.out 1
      simp only [List.getElem?_toArray, List.getElem?_cons_zero, List.getElem?_cons_succ] at hb0 hb1
      have H := HA.out
      clear HA
      simp only [frame_All.l0] at H
      by_cases c2 : x6 < (l0.length : Int)
      · rw [if_pos c2] at H
        have c2b0 : decide (x6 < (l0.length : Int)) = true := decide_eq_true c2
        by_cases c3 : 0 ≤ x6
        · rw [if_pos c3] at H
          obtain ⟨⟨t1, t2, t3, t4⟩, A5, H⟩ := Option.bind_eq_some_iff.mp H
          have HO5 := Aside0.mk A5
          clear A5
          have HH := Aside0.mk H
          clear H
          obtain ⟨m, rfl⟩ := Int.eq_ofNat_of_zero_le c3
          have hml : m ≤ l0.length := by omega
          have c2n : decide (m < l0.length) = true := decide_eq_true (by omega)
          clear c2 c3
          go_wp2_with fail
          go_quiet (fail)
          go_wp2_with fail
          (with_reducible refine (reader_open.calls k1 w.heap.size A0 c0 l0 m hml t1 t2 t3 t4 _ ?s1 ?s2 HC0.out ?s3).mono ?_)
          case s1 => exact blk_drewN HBX.out _
          case s2 => exact Kd.C_drewN (Kd.C_below HR0.out HB.out) _
          case s3 => have := HO5.out; rw [Int.toNat_natCast] at this; exact this
          rintro e w1 ⟨v, rfl, ho, hb⟩
          have X1 := Aside0.mk (blk_below (blk_drewN HBX.out _) hb)
          have O1 := Aside0.mk (Kd.R_below (Kd.R_drewN HO.out _) hb)
          have P1 := Aside0.mk (Kd.R_lower ho (show w.heap.size ≤ _ from HB.out.size))
          have B1 := Aside0.mk (HB.out.trans ((pw_below_drewN (Below.refl _ wr) nq).mono HB.out.size |>.trans (hb.mono HB.out.size)))
          clear ho hb hb0 hb1 H
          have hb1 := blk_cell X1.out 1
          simp only [List.getElem?_toArray, List.getElem?_cons_zero, List.getElem?_cons_succ] at hb1
          by_cases c6 : t4 = 0
          · have H := HH.out
            simp only [if_pos c6] at H
            have c6b0 : (t4 == 0) = true := beq_iff_eq.mpr c6
            have c6b1 : (t4 != 0) = false := bne_eq_false_iff_eq.mpr c6
            clear c6
            by_cases c7 : (strOfNums [t1]).size + (strOfNums t2).size ≤ 9223372036854775807
            · rw [if_pos c7] at H
              by_cases c8 : x5.length < 8796093022208
              · rw [if_pos c8] at H
                have c7b0 := eq_true c7
                have c7b1 : decide ((strOfNums [t1]).size + (strOfNums t2).size ≤ 9223372036854775807) = true := decide_eq_true c7
                have c7b2 : (9223372036854775807 < (strOfNums [t1]).size + (strOfNums t2).size) = False := eq_false (Nat.not_lt.2 c7)
                have L8 := Aside0.mk c8
                have H2 := Aside0.mk H
                have hcv2 := own_string (P := Try.prog) Try.underlying22 Try.underlying5 Try.underlying9 (Kd.own_of_R P1.out)
                clear c8 H HH
                clear hcv2
                go_wp2_with (first | ((with_reducible refine gate_dst (N := 43) rfl ?_); refine Kd.R_lit (Kd.int .u8) _ 5 ?hg (N := 43) ?hd (xs := ([t1] : List Int)) (inner := [.int .u8 t1]) (ok := fun _ => True) (okp := fun _ => True) ?hr ?hp (fun _ hk => hk) trivial (Below.refl _ _) (Nat.le_refl _) (by simp) ?_; (case hd => rfl); (case hg => rfl); (case hr => first | (go_simp; done) | (go_simp; rfl)); (case hp => exact (Reps.one (show Kd.M (Kd.int .u8) _ _ _ t1 [.int .u8 t1] from rfl) (Reps.none _ _))); intro v2 w2 ho hb hg_ hnew_; clear hg_ hnew_; have X2 := Aside0.mk (blk_below X1.out hb); have O2 := Aside0.mk (Kd.R_below O1.out hb); have Q2 := Aside0.mk ho; have P2 := Aside0.mk (Kd.R_below P1.out hb); have B2 := Aside0.mk (B1.out.trans (hb.mono B1.out.size)); have hcv1 := own_string (P := Try.prog) Try.underlying22 Try.underlying5 Try.underlying9 (Kd.own_of_R ho); have hcv2 := own_string (P := Try.prog) Try.underlying22 Try.underlying5 Try.underlying9 (Kd.own_of_R P2.out); clear hb ho hb1) | ((with_reducible refine gate_builtin (b := .append) (xs := #[.tmp 41, .tmp 48]) rfl ?_); at_builtin; refine Kd.R_append Kd.string (w0 := w) w.heap.size rfl (.tmp 41) (.tmp 48) 40 9 (.string ⟨#[]⟩) 16 rfl Try.underlying40 info9 rfl (by decide) (by omega) u6 x5 ((strOfNums [t1]) ++ (strOfNums t2)) [.string ((strOfNums [t1]) ++ (strOfNums t2))] (fun _ => True) (fun _ => False) rfl rfl ?aP (fun _ hk => hk.elim) ?aF ?aO ?aB ?aS ?aL ?_; (case aP => exact rfl); (case aB => exact (by with_reducible repeat (first | exact B2.out | apply below_alloc | apply pw_below_drewN | apply below_drew1))); (case aF => exact (fun _ _ => trivial)); (case aO => exact (by (with_reducible repeat (first | apply Kd.R_alloc | apply Kd.R_drewN | apply Kd.R_drew)); exact O2.out)); (case aS => exact (below_size (by with_reducible repeat (first | exact B2.out | apply below_alloc | apply pw_below_drewN | apply below_drew1)))); (case aL => have := L8.out; omega); intro v3 w3 ho hb hg hat; have X3 := Aside0.mk (blk_grown X2.out hg (Kd.R_ne O2.out X2.out (by decide))); have O3 := Aside0.mk ho; have B3 := Aside0.mk hb; clear ho hb hg hat; have q2 : w3.cell? ⟨w.heap.size, 1, none⟩ = some (.int .i64 m) := blk_cell X3.out 1; have q3 := blk_frozen X3.out 1))
                go_roundg k1
                case measure => have := HK.out; omega
                case rel => exact ⟨_, _, H2, ⟨by have := HK.out; omega⟩, ⟨blk_set X3.out 1 _⟩, ⟨Kd.R_set O3.out X3.out (by decide) 1 _⟩, ⟨B3.out.setCell (Nat.le_refl _) _⟩⟩
              · rw [if_neg c8] at H
                cases H
            · rw [if_neg c7] at H
              cases H
          · have H := HH.out
            simp only [if_neg c6, Option.some.injEq, Prod.mk.injEq] at H
            have c6b0 : (t4 == 0) = false := beq_eq_false_iff_ne.mpr c6
            have c6b1 : (t4 != 0) = true := bne_iff_ne.mpr c6
            have H2 := Aside0.mk H
            clear H c6
            go_wp2_with fail
            go_quiet (fail)
            go_wp2_with fail
            refine bodyPost_ret (results_list (rs := [.tmp 2, .tmp 3, .tmp 4]) rfl (by simp) (.tmp (.tmp (.tmp .nil)))) rfl ?_
            obtain ⟨rfl, rfl, rfl⟩ := H2.out
            exact ⟨_, rfl, by (with_reducible repeat (first | apply Kd.R_alloc | apply Kd.R_drewN | apply Kd.R_drew)); exact O1.out, by repeat (first | exact B1.out | apply pw_below_drewN | apply below_drew1)⟩
        · rw [if_neg c3] at H
          cases H
      · rw [if_neg c2] at H
        have c2b0 : decide (x6 < (l0.length : Int)) = false := decide_eq_false c2
        simp only [Option.some.injEq, Prod.mk.injEq] at H
        have HH := Aside0.mk H
        clear H c2
        go_wp2_with fail
        go_quiet (fail)
        go_wp2_with fail
        go_quiet (fail)
        go_wp2_with fail
        refine bodyPost_ret (results_list (rs := [.tmp 2, .tmp 3, .tmp 4]) rfl (by simp) (.tmp (.tmp (.tmp .nil)))) rfl ?_
        obtain ⟨rfl, rfl, rfl⟩ := HH.out
        exact ⟨_, rfl, by (with_reducible repeat (first | apply Kd.R_alloc | apply Kd.R_drewN | apply Kd.R_drew)); exact HO.out, by repeat (first | exact HB.out | apply pw_below_drewN | apply below_drew1)⟩
end Go.Proofs.Ytoadflcdpcfibaa.P
