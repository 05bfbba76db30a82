/- The reader of frame: what is opened at its place. -/
import Derived.Lib.Hide
import Derived.Deep.RegionLaw
import Derived.Test.YtoadflcdpcfibaaOfframeSum
import Derived.Test.YtoadflcdpcfibaaOfframesourcehas
import Derived.Test.YtoadflcdpcfibaaOfframesourcelow
namespace Go.Proofs.Ytoadflcdpcfibaa.P
open Go.RowKit Go.Proofs.YtoadflcdpcfibaaW.PrintWords Go.Proofs.YtoadflcdpcfibaaW.PrintLast Go.Proofs.YtoadflcdpcfibaaW.PrintMore
set_option linter.unusedVariables false
set_option linter.unusedSimpArgs false

/-- What is read at the beginning of bytes. -/
def openL (k : Nat) (q : List Int) : Option (Int × List Int × Int × Int) :=
  if 1 ≤ q.length ∧ (rd q 0 == 167) = false then some (0, [], 0, 10)
  else if q.length < 5 then some (0, [], 0, 11)
  else (frame_source_low.f k q 2 3).bind fun n =>
    if 1048575 < n then some (0, [], 0, 10)
    else if n < 0 then none
    else if (q.length : Int) < n + 9 then some (0, [], 0, 11)
    else (frame_Sum.f k ((q.take (5 + n).toNat).drop 1)).bind fun s => (frame_source_low.f k q (5 + n) 4).bind fun t =>
      if (s == t % 4294967296) = true then some (rd q 1, (q.take (5 + n).toNat).drop 5, n + 9, 0) else some (0, [], 0, 12)
theorem openL.mono : ∀ a0 k, LeO (openL k a0) (openL (k + 1) a0) := by
  intro a0 k
  unfold openL
  repeat' first
    | (with_reducible exact frame_source_low.mono _ _ _ _)
    | (with_reducible exact frame_Sum.mono _ _)
    | (with_reducible exact LeO.refl _)
    | (with_reducible exact LeO.none _)
    | (with_reducible refine LeO.ite ?_ ?_)
    | (with_reducible refine LeO.bind ?_ (fun _ => ?_))
    | exact LeO.none _
    | refine LeO.ite ?_ ?_
    | refine LeO.bind ?_ (fun _ => ?_)
theorem below_drawn {B : Nat} {W W' : World} (h : Drawn0 W W') : Below B W W' := by
  obtain ⟨n, rfl⟩ := h
  exact ⟨rfl, rfl, rfl, Nat.le_refl _, fun _ _ => rfl⟩
theorem below_of_row {W W' : World} (h : W.grownBy W' (Value.slice none 0 0).ownBlock) : Below W.heap.size W W' := ⟨h.os, h.tape, h.output, h.size, fun k hk => h.block k hk (by simp [Value.ownBlock])⟩
theorem has_yes (A : Option Addr) (c : Nat) (l : List Int) (a : Int) (w : World) (hr : Kd.C (Kd.int .u8) w A l.length l) (hc : l.length ≤ c) (h : a ≤ l.length) :
    Calls Try.prog 20 #[.agg #[.slice A l.length c], .int .i64 a] w fun e w' => e = .returned (.bool true) ∧ Below w.heap.size w w' :=
  frame_source_has.calls A c l a true w hr hc (by unfold frame_source_has.f; rw [decide_eq_true (by omega)])
theorem has_no (A : Option Addr) (c : Nat) (l : List Int) (a : Int) (w : World) (hr : Kd.C (Kd.int .u8) w A l.length l) (hc : l.length ≤ c) (h : l.length < a) :
    Calls Try.prog 20 #[.agg #[.slice A l.length c], .int .i64 a] w fun e w' => e = .returned (.bool false) ∧ Below w.heap.size w w' :=
  frame_source_has.calls A c l a false w hr hc (by unfold frame_source_has.f; rw [decide_eq_false (by omega)])

set_option maxRecDepth 100000 in
set_option maxHeartbeats 4000000 in
theorem reader_open.calls (k : Nat) (B : Nat) (A : Option Addr) (c : Nat) (l : List Int) (at_ : Nat) (hat : at_ ≤ l.length) (r1 : Int) (r2 : List Int) (r3 r4 : Int) (w : World)
    (hB : w.heap[B]? = some (.cells #[.slice A l.length c, .int .i64 at_] 52 (0, 0))) (hr : Kd.C (Kd.int .u8) w A l.length l) (hc : l.length ≤ c) (h : openL k (l.drop at_) = some (r1, r2, r3, r4)) :
    Calls Try.prog 18 #[.pointer (some ⟨B, 0, none⟩)] w fun e w' => ∃ v : Value, e = .returned (.tuple #[.int .u8 r1, v, .int .i64 r3, .int .i64 r4]) ∧ Kd.R (Kd.int .u8) 5 w' w.heap.size (fun _ => True) v r2 ∧ Below w.heap.size w w' := by
  have hb0 := blk_cell hB 0
  have hb1 := blk_cell hB 1
  have hb2 := blk_cell (blk_alloc hB (.cells #[.slice none 0 0] 50)) 0
  have hb3 := blk_cell (blk_alloc hB (.cells #[.slice none 0 0] 50)) 1
  simp only [List.getElem?_toArray, List.getElem?_cons_zero, List.getElem?_cons_succ] at hb0 hb1 hb2 hb3
  obtain ⟨i0, hi, _, hsz, _⟩ := info_parts info5
  have hcut := cut_from (P := Try.prog) 22 5 .i64 Try.underlying22 hi 1 hsz A l.length c (at_ : Int) (by omega) (by omega)
  have hD := Kd.C_drop hr hat hc
  rw [Int.toNat_natCast] at hcut
  have hsz1 : (Kd.int .u8).sz = 1 := rfl
  rw [hsz1] at hD
  obtain ⟨A', hA'⟩ : ∃ A', (if c = at_ then A else A.map (·.add (at_ * 1))) = A' := ⟨_, rfl⟩
  rw [hA'] at hcut hD
  have hlen : (l.drop at_).length = l.length - at_ := List.length_drop
  obtain ⟨q, hq⟩ : ∃ q, l.drop at_ = q := ⟨_, rfl⟩
  rw [hq] at hlen hD h
  rw [← hlen] at hcut
  have hc' : q.length ≤ c - at_ := by omega
  obtain ⟨c', hcc⟩ : ∃ c', c - at_ = c' := ⟨_, rfl⟩
  rw [hcc] at hcut hc'
  have HD := Aside0.mk hD
  have HH := Aside0.mk h
  have HC' := Aside0.mk hc'
  clear hA' hD hsz hsz1 hq hlen hr hc h hB hcc hc' hi
  go_enter Try.func18, Try.ntmps18
  go_upto_region 1 with fail
  go_cut [6] (fun v wx => ∃ g : Nat, v = .pointer (some ⟨g, 0, none⟩) ∧ w.heap.size ≤ g ∧ Aside0 (wx.heap[g]? = some (.cells #[.slice A' q.length c'] 50 (0, 0))) ∧ Aside0 (Below w.heap.size w wx))
  case first =>
    go_region
    all_goals (go_wp2_with fail; go_meet)
    all_goals exact ⟨w.heap.size, rfl, Nat.le_refl _, Aside0.mk (by repeat (first | exact blk_new w _ | apply blk_drewN | apply blk_drew)), Aside0.mk (by repeat (first | exact (Below.refl _ _).alloc (Nat.le_refl _) _ | apply pw_below_drewN | apply below_drew1))⟩
  case rest =>
    obtain ⟨g, rfl, hg, HG, HB⟩ := hcut
    clear hb0 hb1 hb2 hb3 hcut
    have hg0 := blk_cell HG.out 0
    simp only [List.getElem?_toArray, List.getElem?_cons_zero] at hg0
    have HR := Aside0.mk (Kd.C_below HD.out HB.out)
    have hm := Kd.C_max HD.out
    by_cases p1 : 1 ≤ q.length
    · have P1 := Aside0.mk p1
      clear p1
      go_wp2_with fail
      (with_reducible refine (has_yes A' c' q 1 _ ?s1 ?s2 ?s3).mono ?_)
      case s1 => exact HR.out
      case s2 => exact HC'.out
      case s3 => have := P1.out; omega
      rintro e w1 ⟨rfl, b1⟩
      have G1 := Aside0.mk (blk_below HG.out b1)
      have R1 := Aside0.mk (Kd.C_below HR.out b1)
      have B1 := Aside0.mk (HB.out.trans (b1.mono HB.out.size))
      clear b1 hg0
      have hg1 := blk_cell G1.out 0
      simp only [List.getElem?_toArray, List.getElem?_cons_zero] at hg1
      obtain ⟨ad, e0, hx0⟩ := Kd.at_int R1.out 0 (by omega) (by have := P1.out; omega)
      cases e0
      rw [show ((0 : Int)).toNat = 0 from rfl, Addr.add_zero'] at hx0
      by_cases p2 : (rd q 0 == 167) = false
      · have hq0 : (rd q 0 != 167) = true := by simp [bne, p2]
        have hl : (0 : Int) < (q.length : Int) := by have := P1.out; omega
        have hl2 : (0 < q.length) = True := eq_true (by have := P1.out; omega)
        go_wp2
        refine bodyPost_ret (results_list (rs := [.tmp 2, .tmp 3, .tmp 4, .tmp 5]) rfl (by simp) (.tmp (.tmp (.tmp (.tmp .nil))))) rfl ?_
        have e := HH.out
        unfold openL at e
        rw [if_pos ⟨P1.out, p2⟩] at e
        simp only [Option.some.injEq, Prod.mk.injEq] at e
        obtain ⟨rfl, rfl, rfl, rfl⟩ := e
        exact ⟨_, rfl, Kd.R_nil _ _ _ _ _, B1.out⟩
      · have hq0 : (rd q 0 != 167) = false := by simpa using p2
        have hl : (0 : Int) < (q.length : Int) := by have := P1.out; omega
        have hl2 : (0 < q.length) = True := eq_true (by have := P1.out; omega)
        by_cases p3 : q.length < 5
        · have P3 := Aside0.mk p3
          clear p3
          go_wp2_with fail
          (with_reducible refine (has_no _ c' q 5 _ ?s4 ?s5 ?s6).mono ?_)
          case s4 => exact R1.out
          case s5 => exact HC'.out
          case s6 => have := P3.out; omega
          rintro e w2 ⟨rfl, b2⟩
          have B2 := Aside0.mk (B1.out.trans (b2.mono B1.out.size))
          clear b2
          go_wp2
          refine bodyPost_ret (results_list (rs := [.tmp 2, .tmp 3, .tmp 4, .tmp 5]) rfl (by simp) (.tmp (.tmp (.tmp (.tmp .nil))))) rfl ?_
          have e := HH.out
          unfold openL at e
          rw [if_neg (fun h => p2 h.2), if_pos P3.out] at e
          simp only [Option.some.injEq, Prod.mk.injEq] at e
          obtain ⟨rfl, rfl, rfl, rfl⟩ := e
          exact ⟨_, rfl, Kd.R_nil _ _ _ _ _, B2.out⟩
        · have P3 := Aside0.mk p3
          clear p3
          go_wp2_with fail
          (with_reducible refine (has_yes _ c' q 5 _ ?t1 ?t2 ?t3).mono ?_)
          case t1 => exact R1.out
          case t2 => exact HC'.out
          case t3 => have := P3.out; omega
          rintro e w2 ⟨rfl, b2⟩
          have G2 := Aside0.mk (blk_below G1.out b2)
          have R2 := Aside0.mk (Kd.C_below R1.out b2)
          have B2 := Aside0.mk (B1.out.trans (b2.mono B1.out.size))
          clear b2 hg1
          have hg2 := blk_cell G2.out 0
          simp only [List.getElem?_toArray, List.getElem?_cons_zero] at hg2
          have e := HH.out
          unfold openL at e
          rw [if_neg (fun h => p2 h.2), if_neg P3.out] at e
          obtain ⟨n, hn, e⟩ := Option.bind_eq_some_iff.1 e
          have N := Aside0.mk hn
          have E := Aside0.mk e
          clear e hn
          go_wp2_with fail
          (with_reducible refine (frame_source_low.calls k _ c' q 2 3 n _ ?t4 ?t5 N.out).mono ?_)
          case t4 => exact R2.out
          case t5 => exact HC'.out
          rintro e w3 ⟨rfl, b3⟩
          have G3 := Aside0.mk (blk_below G2.out b3)
          have R3 := Aside0.mk (Kd.C_below R2.out b3)
          have B3 := Aside0.mk (B2.out.trans (b3.mono B2.out.size))
          clear b3 hg2
          have hg3 := blk_cell G3.out 0
          simp only [List.getElem?_toArray, List.getElem?_cons_zero] at hg3
          by_cases p4 : 1048575 < n
          · have e := E.out
            rw [if_pos p4] at e
            have e_ := Aside0.mk e
            clear e
            go_wp2
            refine bodyPost_ret (results_list (rs := [.tmp 2, .tmp 3, .tmp 4, .tmp 5]) rfl (by simp) (.tmp (.tmp (.tmp (.tmp .nil))))) rfl ?_
            have e := e_.out
            simp only [Option.some.injEq, Prod.mk.injEq] at e
            obtain ⟨rfl, rfl, rfl, rfl⟩ := e
            exact ⟨_, rfl, Kd.R_nil _ _ _ _ _, B3.out⟩
          · have e := E.out
            rw [if_neg p4] at e
            by_cases p5 : n < 0
            · rw [if_pos p5] at e
              cases e
            rw [if_neg p5] at e
            have E2 := Aside0.mk e
            clear e E
            have n0 : 0 ≤ n := by omega
            have n1 : n ≤ 1048575 := by omega
            clear p4 p5
            by_cases p6 : (q.length : Int) < n + 9
            · have P6 := Aside0.mk p6
              clear p6
              go_wp2_with fail
              (with_reducible refine (has_no _ c' q _ _ ?t6 ?t7 ?t8).mono ?_)
              case t6 => exact R3.out
              case t7 => exact HC'.out
              case t8 => have := P6.out; omega
              rintro e w4 ⟨rfl, b4⟩
              have G4 := Aside0.mk (blk_below G3.out b4)
              have R4 := Aside0.mk (Kd.C_below R3.out b4)
              have B4 := Aside0.mk (B3.out.trans (b4.mono B3.out.size))
              clear b4 hg3
              have hg4 := blk_cell G4.out 0
              simp only [List.getElem?_toArray, List.getElem?_cons_zero] at hg4
              go_wp2
              refine bodyPost_ret (results_list (rs := [.tmp 2, .tmp 3, .tmp 4, .tmp 5]) rfl (by simp) (.tmp (.tmp (.tmp (.tmp .nil))))) rfl ?_
              have e := E2.out
              rw [if_pos (by have := P6.out; omega)] at e
              simp only [Option.some.injEq, Prod.mk.injEq] at e
              obtain ⟨rfl, rfl, rfl, rfl⟩ := e
              exact ⟨_, rfl, Kd.R_nil _ _ _ _ _, B4.out⟩
            · have P6 := Aside0.mk p6
              clear p6
              go_wp2_with fail
              (with_reducible refine (has_yes _ c' q _ _ ?t9 ?t10 ?t11).mono ?_)
              case t9 => exact R3.out
              case t10 => exact HC'.out
              case t11 => have := P6.out; omega
              rintro e w4 ⟨rfl, b4⟩
              have G4 := Aside0.mk (blk_below G3.out b4)
              have R4 := Aside0.mk (Kd.C_below R3.out b4)
              have B4 := Aside0.mk (B3.out.trans (b4.mono B3.out.size))
              clear b4 hg3
              have hg4 := blk_cell G4.out 0
              simp only [List.getElem?_toArray, List.getElem?_cons_zero] at hg4
              have e := E2.out
              rw [if_neg (by have := P6.out; omega)] at e
              obtain ⟨s, hs, e⟩ := Option.bind_eq_some_iff.1 e
              obtain ⟨u, hu, e⟩ := Option.bind_eq_some_iff.1 e
              have E3 := Aside0.mk e
              clear e E2
              obtain ⟨i0, hi, _, hsz, _⟩ := info_parts info5
              obtain ⟨A1, hcut1, hA1, hC1⟩ := print_mid_of (P := Try.prog) (Value.int .u8) 0 22 5 .i64 .i64 Try.underlying22 hi hsz (some ad) c' q 1 (5 + n) (by omega) (by omega) (by have := P6.out; omega) HC'.out
              obtain ⟨A2, hcut2, hA2, hC2⟩ := print_mid_of (P := Try.prog) (Value.int .u8) 0 22 5 .i64 .i64 Try.underlying22 hi hsz (some ad) c' q 5 (5 + n) (by omega) (by omega) (by have := P6.out; omega) HC'.out
              have hr1 := fun W (h : Kd.C (Kd.int .u8) W (some ad) q.length q) => Kd.C_of_reads (h1 := fun _ => rfl) (hA1 W (Kd.reads_of_C h))
              have hr2 := fun W (h : Kd.C (Kd.int .u8) W (some ad) q.length q) => Kd.C_of_reads (h1 := fun _ => rfl) (hA2 W (Kd.reads_of_C h))
              simp only [show (1 : Int).toNat = 1 from rfl, show (5 : Int).toNat = 5 from rfl] at hcut1 hcut2 hr1 hr2 hC1 hC2
              obtain ⟨y1, hy1⟩ : ∃ y, (q.take (5 + n).toNat).drop 1 = y := ⟨_, rfl⟩
              obtain ⟨y2, hy2⟩ : ∃ y, (q.take (5 + n).toNat).drop 5 = y := ⟨_, rfl⟩
              simp only [hy1] at hcut1 hr1 hC1 hs
              simp only [hy2] at hcut2 hr2 hC2
              have HY2 := Aside0.mk hy2
              have L2 : y2.length ≤ 1048575 := by rw [← hy2, List.length_drop, List.length_take]; omega
              have HR1 := Aside0.mk hr1
              have HR2 := Aside0.mk hr2
              have HC1 := Aside0.mk hC1
              have HC2 := Aside0.mk hC2
              have HSUM := Aside0.mk hs
              have HLOW := Aside0.mk hu
              clear hr1 hr2 hC1 hC2 hs hu hy1 hy2 hA1 hA2 hi hsz
              go_upto_region 11 with fail
              go_cut [43] (fun v wx => v = .bool (s != u % 4294967296) ∧ Aside0 (wx.heap[g]? = some (.cells #[.slice (some ad) q.length c'] 50 (0, 0))) ∧ Aside0 (Below w.heap.size w wx) ∧ Aside0 (Kd.C (Kd.int .u8) wx (some ad) q.length q))
              case first =>
                have hwr : IntKind.i64.wrap (5 + n) = 5 + n := by rw [IntKind.wrap_i64]; omega
                have stay : ∀ W, Below w4.heap.size w4 W → W.cell? ⟨g, 0, none⟩ = some (.slice (some ad) q.length c') := fun W h => blk_cell (blk_below G4.out h) 0
                have sumC : ∀ W, Below w4.heap.size w4 W → Calls Try.prog 9 #[.slice A1 y1.length (c' - 1)] W fun e w' => e = .returned (.int .u32 s) ∧ Below w4.heap.size w4 w' ∧ w'.cell? ⟨g, 0, none⟩ = some (.slice (some ad) q.length c') := fun W hW =>
                  (frame_Sum.calls k A1 (c' - 1) y1 s W (HR1.out W (Kd.C_below R4.out hW)) HC1.out HSUM.out).mono fun e w' ⟨he, hd⟩ => ⟨he, hW.trans (below_drawn hd), stay _ (hW.trans (below_drawn hd))⟩
                have lowC : ∀ W, Below w4.heap.size w4 W → Calls Try.prog 21 #[.agg #[.slice (some ad) q.length c'], .int .i64 (5 + n), .int .i64 4] W fun e w' => e = .returned (.int .i64 u) ∧ Below w4.heap.size w4 w' ∧ w'.cell? ⟨g, 0, none⟩ = some (.slice (some ad) q.length c') := fun W hW =>
                  (frame_source_low.calls k (some ad) c' q (5 + n) 4 u W (Kd.C_below R4.out hW) HC'.out HLOW.out).mono fun e w' ⟨he, hd⟩ => ⟨he, hW.trans (hd.mono hW.size), stay _ (hW.trans (hd.mono hW.size))⟩
                have SC := Aside0.mk sumC
                have LC := Aside0.mk lowC
                have hbw : Below w4.heap.size w4 w4.drew := below_drew1 (Below.refl _ _)
                clear sumC lowC stay
                go_region_with (first | (go_at_call 9; (with_reducible refine (SC.out _ (by assumption)).mono ?_); rintro e w' ⟨rfl, hbx, hgx⟩) | (go_at_call 21; (with_reducible refine (LC.out _ (by assumption)).mono ?_); rintro e w' ⟨rfl, hbx, hgx⟩))
                all_goals (go_wp2_with fail; go_meet)
                all_goals exact ⟨rfl, Aside0.mk (blk_below G4.out (by assumption)), Aside0.mk (B4.out.trans (Below.mono (by assumption) B4.out.size)), Aside0.mk (Kd.C_below R4.out (by assumption))⟩
              case rest =>
                obtain ⟨rfl, GX, BX, RX⟩ := hcut
                have hgx := blk_cell GX.out 0
                simp only [List.getElem?_toArray, List.getElem?_cons_zero] at hgx
                clear hg4 hx0
                by_cases p7 : (s == u % 4294967296) = true
                · have h7 : (s != u % 4294967296) = false := by simp [bne, p7]
                  have hwr : IntKind.i64.wrap (5 + n) = 5 + n := by rw [IntKind.wrap_i64]; omega
                  have hwr2 : IntKind.i64.wrap (5 + n + 4) = n + 9 := by rw [IntKind.wrap_i64]; omega
                  obtain ⟨ad', e0, hx1⟩ := Kd.at_int RX.out 1 (by omega) (by have := P6.out; omega)
                  cases e0
                  simp only [show (1 : Int).toNat = 1 from rfl, Nat.reduceMul, Nat.reduceEqDiff, Go.Addr.add, ↓reduceIte] at hx1
                  have lx1 := World.block_lt_of_cell? wc _ hx1
                  have lgx := blk_lt GX.out
                  have hl1 : (1 : Int) < (q.length : Int) := by have := P6.out; omega
                  have hl3 : (1 < q.length) = True := eq_true (by have := P6.out; omega)
                  go_wp2_with fail
                  go_region_law (refine Kd.R_append_rows_step (Kd.int .u8) (w0 := w) w.heap.size rfl (.const (.slice none 0 0)) (.tmp 64) 22 5 (.int .u8 0) 1 rfl Try.underlying22 info5 rfl (by decide) (by decide) (.slice none 0 0) [] y2 A2 y2.length (c' - 5) (fun _ => True) (fun _ => False) rfl ?bx ?bO ?bR (fun _ _ h => h) (fun _ h => h.elim) (fun _ _ => trivial) ?bB ?bS ?bL ?_; (case bx => first | rfl | (go_simp; done)); (case bO => exact Kd.R_nil _ _ _ _ _); (case bR => exact HR2.out _ (Kd.C_drew RX.out)); (case bB => exact below_drew1 BX.out); (case bS => exact BX.out.size); (case bL => simp; omega); intro v1 wy ho hbq hgq hatq; have hy0 := (below_of_row hgq).cell (p := ⟨g, 0, none⟩) lgx; have hy1 := (below_of_row hgq).cell (p := { block := ad.block, off := ad.off + 1 }) lx1; simp only [World.cell?_drew] at hy0 hy1; rw [hgx] at hy0; rw [hx1] at hy1; have HO := Aside0.mk ho; have HBq := Aside0.mk hbq; clear ho hbq hgq hatq)
                  all_goals go_wp2
                  all_goals refine bodyPost_ret (results_list (rs := [.tmp 2, .tmp 3, .tmp 4, .tmp 5]) rfl (by simp) (.tmp (.tmp (.tmp (.tmp .nil))))) rfl ?_
                  all_goals
                    have e := E3.out
                    rw [if_pos p7] at e
                    simp only [Option.some.injEq, Prod.mk.injEq] at e
                    obtain ⟨rfl, rfl, rfl, rfl⟩ := e
                    exact ⟨_, rfl, by rw [HY2.out]; (with_reducible repeat (first | apply Kd.R_alloc | apply Kd.R_drewN | apply Kd.R_drew)); exact Kd.R_mono HO.out (fun _ _ => trivial), HBq.out⟩
                · have h7 : (s != u % 4294967296) = true := by simp [bne]; simpa using p7
                  go_wp2
                  refine bodyPost_ret (results_list (rs := [.tmp 2, .tmp 3, .tmp 4, .tmp 5]) rfl (by simp) (.tmp (.tmp (.tmp (.tmp .nil))))) rfl ?_
                  have e := E3.out
                  rw [if_neg p7] at e
                  simp only [Option.some.injEq, Prod.mk.injEq] at e
                  obtain ⟨rfl, rfl, rfl, rfl⟩ := e
                  exact ⟨_, rfl, Kd.R_nil _ _ _ _ _, BX.out⟩
    · have hl : q.length < 1 := by omega
      go_wp2_with fail
      (with_reducible refine (has_no A' c' q 1 _ ?s7 ?s8 ?s9).mono ?_)
      case s7 => exact HR.out
      case s8 => exact HC'.out
      case s9 => omega
      rintro e w1 ⟨rfl, b1⟩
      have G1 := Aside0.mk (blk_below HG.out b1)
      have R1 := Aside0.mk (Kd.C_below HR.out b1)
      have B1 := Aside0.mk (HB.out.trans (b1.mono HB.out.size))
      clear b1 hg0
      have hg1 := blk_cell G1.out 0
      simp only [List.getElem?_toArray, List.getElem?_cons_zero] at hg1
      go_wp2_with fail
      (with_reducible refine (has_no A' c' q 5 _ ?s10 ?s11 ?s12).mono ?_)
      case s10 => exact R1.out
      case s11 => exact HC'.out
      case s12 => omega
      rintro e w2 ⟨rfl, b2⟩
      have B2 := Aside0.mk (B1.out.trans (b2.mono B1.out.size))
      clear b2
      go_wp2
      refine bodyPost_ret (results_list (rs := [.tmp 2, .tmp 3, .tmp 4, .tmp 5]) rfl (by simp) (.tmp (.tmp (.tmp (.tmp .nil))))) rfl ?_
      have e := HH.out
      unfold openL at e
      rw [if_neg (fun h => p1 h.1), if_pos (by omega)] at e
      simp only [Option.some.injEq, Prod.mk.injEq] at e
      obtain ⟨rfl, rfl, rfl, rfl⟩ := e
      exact ⟨_, rfl, Kd.R_nil _ _ _ _ _, B2.out⟩

end Go.Proofs.Ytoadflcdpcfibaa.P
