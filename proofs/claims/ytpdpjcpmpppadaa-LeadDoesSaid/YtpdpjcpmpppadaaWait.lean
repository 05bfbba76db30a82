import Derived.Test.YtpdpjcpmpppadaaP0
import Derived.Test.YtpdpjcpmpppadaaP14
-- left of the seat's texts by prune.py, a program of this session
namespace Go.Proofs.Ytpdpjcpmpppadaa.P
open Go.RowKit Go.Proofs.YtpdpjcpmpppadaaW.PrintWords Go.Proofs.YtpdpjcpmpppadaaW.PrintLast Go.Proofs.YtpdpjcpmpppadaaW.PrintMore
set_option linter.unusedVariables false
set_option linter.unusedSimpArgs false
theorem ofMon_calls (x : S39) (i : Int) (g : Nat) (w : World) (hg : w.cell? ⟨g, 0, none⟩ = some (.int .i64 i)) (hlt : g < w.heap.size) :
    Calls Try.prog 52 #[.agg #[.int .i64 x.f0, .int .i64 x.f1, .bool x.f2, .int .i64 x.f3.f0, .int .i64 x.f3.f1, .string x.f4], .pointer (some ⟨g, 0, none⟩)] w fun e w' => e = .returned (.bool (x.f0 == i)) ∧ Below w.heap.size w w' := by
  have hu39 := Try.underlying39
  have hn : (w.heap.size = g) = False := eq_false (by omega)
  have hn2 : (g = w.heap.size) = False := eq_false (by omega)
  have hb : Below w.heap.size w (w.alloc (Obj.cells #[.int .i64 x.f0, .int .i64 x.f1, .bool x.f2, .int .i64 x.f3.f0, .int .i64 x.f3.f1, .string x.f4] 39)) := (Below.refl _ w).alloc (Nat.le_refl _) _
  have hc := (hb.cell (p := ⟨g, 0, none⟩) hlt).trans hg
  go_enter Try.func52, Try.ntmps52
  go_wp2
  go_ret
  exact ⟨rfl, hb⟩
set_option maxHeartbeats 4000000 in
set_option maxRecDepth 100000 in
theorem indexMon_calls (A0 : Option Addr) (c0 : Nat) (l0 : List S39) (i : Int) (g : Nat) (w : World) (hr0 : Kd.C k39 w A0 l0.length l0) (hc0 : l0.length ≤ c0) (hg : w.cell? ⟨g, 0, none⟩ = some (.int .i64 i)) (hlt : g < w.heap.size) :
    Calls Try.prog 66 #[.slice A0 l0.length c0, .func (.func 52) #[] #[.pointer (some ⟨g, 0, none⟩)]] w fun e w' => (∃ r : Int, e = .returned (.int .i64 r) ∧ (decide (0 ≤ r) = l0.any fun x => x.f0 == i)) ∧ Below w.heap.size w w' := by
  have HR := Aside0.mk hr0
  have hm := Kd.C_max hr0
  have hu39 := Try.underlying39
  have HCL := Aside0.mk (fun (x : S39) (W : World) (hb : Below w.heap.size w W) => ofMon_calls x i g W ((hb.cell hlt).trans hg) (Nat.lt_of_lt_of_le hlt hb.size))
  clear hr0 hg hlt
  go_enter Try.func66, Try.ntmps66
  go_wp2
  go_loopw [8] (fun j wr => ∃ k : Nat, k ≤ l0.length ∧ j = .int .i64 (k : Int) ∧ Aside0 (((l0.take k).any fun x => x.f0 == i) = false) ∧ Aside0 (Below w.heap.size w wr)) (fun j _ => l0.length - (intOf j).toNat)
  case atStart => exact ⟨0, Nat.zero_le _, rfl, ⟨by simp⟩, ⟨Below.refl _ _⟩⟩
  case round =>
    obtain ⟨k, hk, rfl, HA, HB⟩ := hrel
    by_cases hlt : k < l0.length
    · obtain ⟨ad, e0, x0, x1, x2, x3, x4, x5⟩ := at_T39 HR.out (k : Int) (by omega) (by omega)
      cases e0
      replace x0 := (HB.out.cell (World.block_lt_of_cell? w _ x0)).trans x0
      replace x1 := (HB.out.cell (World.block_lt_of_cell? w _ x1)).trans x1
      replace x2 := (HB.out.cell (World.block_lt_of_cell? w _ x2)).trans x2
      replace x3 := (HB.out.cell (World.block_lt_of_cell? w _ x3)).trans x3
      replace x4 := (HB.out.cell (World.block_lt_of_cell? w _ x4)).trans x4
      replace x5 := (HB.out.cell (World.block_lt_of_cell? w _ x5)).trans x5
      have hx : rd_T39 l0 (k : Int) = l0[k] := by simp [rd_T39, hlt]
      simp only [Int.toNat_natCast, hx] at x0 x1 x2 x3 x4 x5
      have hs : ((l0.take (k + 1)).any fun x => x.f0 == i) = (l0[k].f0 == i) := by
        rw [List.take_succ_eq_append_getElem hlt, List.any_append, HA.out]; simp
      have HS := Aside0.mk hs
      clear hs hx
      have hend : ∀ W, Below w.heap.size w W → (l0[k].f0 == i) = true → (∃ r : Int, Ending.returned (.int .i64 (k : Int)) = .returned (.int .i64 r) ∧ (decide (0 ≤ r) = l0.any fun x => x.f0 == i)) ∧ Below w.heap.size w W := fun W hW hv => by
        refine ⟨⟨k, rfl, ?_⟩, hW⟩
        have h1 : (l0.any fun x => x.f0 == i) = true := List.any_eq_true.2 ⟨l0[k], List.getElem_mem hlt, hv⟩
        rw [h1]
        exact decide_eq_true (by omega)
      have HE := Aside0.mk hend
      clear hend
      have hc := HCL.out l0[k]
      cases hv : (l0[k].f0 == i) with
      | false =>
        rw [hv] at hc
        have HV := Aside0.mk hv
        have HCC := Aside0.mk hc
        clear hv hc
        go_wp2_with (go_at_call 52; refine (HCC.out _ HB.out).mono ?_; rintro e w' ⟨rfl, hd⟩; have HB2 := Aside0.mk (HB.out.trans (hd.mono HB.out.size)); clear hd)
        go_roundw
        case rel => exact ⟨k + 1, by omega, by simp, ⟨by rw [HS.out, HV.out]⟩, HB2⟩
        case measure => simp [intOf]; omega
      | true =>
        rw [hv] at hc
        have HV := Aside0.mk hv
        have HCC := Aside0.mk hc
        clear hv hc
        go_wp2_with (go_at_call 52; refine (HCC.out _ HB.out).mono ?_; rintro e w' ⟨rfl, hd⟩; have HB2 := Aside0.mk (HB.out.trans (hd.mono HB.out.size)); clear hd)
        go_ret
        exact HE.out _ HB2.out HV.out
    · obtain rfl : k = l0.length := by omega
      have HA2 := Aside0.mk ((by have := HA.out; rw [List.take_length] at this; exact this) : (l0.any fun x => x.f0 == i) = false)
      go_wp2
      go_ret
      exact ⟨⟨-1, rfl, by rw [HA2.out]; rfl⟩, HB.out⟩
theorem containsMon_calls (A0 : Option Addr) (c0 : Nat) (l0 : List S39) (i : Int) (g : Nat) (w : World) (hr0 : Kd.C k39 w A0 l0.length l0) (hc0 : l0.length ≤ c0) (hg : w.cell? ⟨g, 0, none⟩ = some (.int .i64 i)) (hlt : g < w.heap.size) :
    Calls Try.prog 51 #[.slice A0 l0.length c0, .func (.func 52) #[] #[.pointer (some ⟨g, 0, none⟩)]] w fun e w' => e = .returned (.bool (l0.any fun x => x.f0 == i)) ∧ Below w.heap.size w w' := by
  have HC := Aside0.mk (indexMon_calls A0 c0 l0 i g w hr0 hc0 hg hlt)
  clear hr0 hg hlt
  go_enter Try.func51, Try.ntmps51
  go_wp2_with (go_at_call 66; refine HC.out.mono ?_; rintro e w' ⟨⟨q, rfl, hq⟩, hd⟩; have HQ := Aside0.mk hq; clear hq)
  go_ret
  exact ⟨by rw [← HQ.out]; rfl, hd⟩
end Go.Proofs.Ytpdpjcpmpppadaa.P
-- left of the seat's texts by prune.py, a program of this session
namespace Go.Proofs.Ytpdpjcpmpppadaa.P
open Go.RowKit Go.Proofs.YtpdpjcpmpppadaaW.PrintWords Go.Proofs.YtpdpjcpmpppadaaW.PrintLast Go.Proofs.YtpdpjcpmpppadaaW.PrintMore
attribute [local go_sem] max2_int min2_int max_two min_two
set_option linter.unusedVariables false
set_option linter.unusedSimpArgs false
theorem containsInt_ev (l : List Int) (x : Int) (hl : l.length ≤ 9223372036854775807) : Ev (fun k => slices_Contains_int_int.f k l x) (l.any fun y => y == x) := by
  have key : ∀ d i, i + d = l.length → ∃ q : Int, Ev (fun k => slices_Index_int_int.l0 k l x (l.length : Int) (i : Int)) q ∧ decide (q ≥ 0) = ((l.drop i).any fun y => y == x) := by
    intro d
    induction d with
    | zero =>
      intro i hi
      refine ⟨-1, Ev.step (f := fun _ => some (-1)) (fun k => ?_) (Ev.now _), ?_⟩
      · simp only [slices_Index_int_int.l0]
        rw [if_neg (by omega)]
      · rw [List.drop_eq_nil_of_le (by omega)]; rfl
    | succ d ih =>
      intro i hi
      have hlt : i < l.length := by omega
      have e0 : rd l (i : Int) = l[i] := by simp [rd, hlt]
      rw [List.drop_eq_getElem_cons hlt, List.any_cons]
      by_cases hx : x = l[i]
      · refine ⟨(i : Int), Ev.step (f := fun _ => some (i : Int)) (fun k => ?_) (Ev.now _), ?_⟩
        · simp only [slices_Index_int_int.l0]
          rw [if_pos (by omega), if_pos (by omega), if_pos (by omega), if_pos (by rw [e0]; exact hx)]
        · rw [hx]; simp
      · obtain ⟨q, hq, hd⟩ := ih (i + 1) (by omega)
        refine ⟨q, Ev.step (f := fun k => slices_Index_int_int.l0 k l x (l.length : Int) ((i + 1 : Nat) : Int)) (fun k => ?_) hq, ?_⟩
        · have w : wrap64 ((i : Int) + 1) = ((i + 1 : Nat) : Int) := by unfold wrap64; omega
          simp only [slices_Index_int_int.l0, w]
          rw [if_pos (by omega), if_pos (by omega), if_pos (by omega), if_neg (by rw [e0]; exact hx)]
        · rw [hd, beq_eq_false_iff_ne.mpr (fun z => hx z.symm), Bool.false_or]
  obtain ⟨q, hq, hd⟩ := key l.length 0 (by omega)
  rw [List.drop_zero] at hd
  unfold slices_Contains_int_int.f
  refine Ev.bind (a := q) hq ?_
  rw [hd]
  exact Ev.now _
def lead_Wait.keep (a0_0 : Int) (l0_3 : List S39) (a0_4 : Bool) (l0_6 : List Int) (i : Int) : Bool :=
  if a0_0 = 1 then !(l0_3.any fun x => x.f0 == i) else if a0_0 = 2 then (if a0_4 = true then !(l0_6.any fun y => y == i) else false) else false
def lead_Wait.row (a0_0 : Int) (l0_3 : List S39) (a0_4 : Bool) (l0_6 : List Int) : Nat → List Int
  | 0 => []
  | k + 1 => if lead_Wait.keep a0_0 l0_3 a0_4 l0_6 (k : Int) = true then lead_Wait.row a0_0 l0_3 a0_4 l0_6 k ++ [(k : Int)] else lead_Wait.row a0_0 l0_3 a0_4 l0_6 k
theorem lead_Wait.row_len (a0_0 : Int) (l0_3 : List S39) (a0_4 : Bool) (l0_6 : List Int) : ∀ k, (lead_Wait.row a0_0 l0_3 a0_4 l0_6 k).length ≤ k
  | 0 => Nat.le_refl _
  | k + 1 => by
    have := lead_Wait.row_len a0_0 l0_3 a0_4 l0_6 k
    unfold lead_Wait.row
    split
    · rw [List.length_append, List.length_singleton]; omega
    · omega
def lead_Wait.f (a0_0 : Int) (a0_1 : Int) (a0_2 : Int) (l0_3 : List (S39)) (a0_4 : Bool) (a0_5 : ByteArray) (l0_6 : List Int) (a1 : Int) : Option (List Int) :=
  some (lead_Wait.row a0_0 l0_3 a0_4 l0_6 (mn (mx a1 0) 64).toNat)
set_option maxHeartbeats 8000000 in
set_option maxRecDepth 100000 in
theorem lead_Wait.calls (a0_0 : Int) (a0_1 : Int) (a0_2 : Int) (A0_3 : Option Addr) (c0_3 : Nat) (l0_3 : List (S39)) (a0_4 : Bool) (a0_5 : ByteArray) (A0_6 : Option Addr) (c0_6 : Nat) (l0_6 : List Int) (a1 : Int) (r : List Int) (w : World) (hr0_3 : Kd.C k39 w A0_3 l0_3.length l0_3) (hc0_3 : l0_3.length ≤ c0_3) (hr0_6 : Kd.C (Kd.int .i64) w A0_6 l0_6.length l0_6) (hc0_6 : l0_6.length ≤ c0_6) (h : lead_Wait.f a0_0 a0_1 a0_2 l0_3 a0_4 a0_5 l0_6 a1 = some r) :
    Calls Try.prog 36 #[.agg #[.int .i64 a0_0, .int .i64 a0_1, .int .i64 a0_2, .slice A0_3 l0_3.length c0_3, .bool a0_4, .string a0_5, .slice A0_6 l0_6.length c0_6], .int .i64 a1] w fun e w' => ∃ v0_ : Value, e = .returned (v0_) ∧ Kd.R (Kd.int .i64) 3 w' w.heap.size (fun _ => True) v0_ r ∧ Below w.heap.size w w' := by
  have hu37 := Try.underlying37
  have HM : Aside0 (l0_6.length ≤ 9223372036854775807) := ⟨Kd.C_max hr0_6⟩
  have HR0_3 := Aside0.mk hr0_3
  have HC0_3 := Aside0.mk hc0_3
  have HR0_6 := Aside0.mk hr0_6
  have HC0_6 := Aside0.mk hc0_6
  clear hr0_3 hc0_3 hr0_6 hc0_6
  have HB := Aside0.mk (Below.refl w.heap.size w)
  obtain ⟨n, hn, hn64⟩ : ∃ n : Nat, mn (mx a1 0) 64 = (n : Int) ∧ n ≤ 64 := ⟨(mn (mx a1 0) 64).toNat, by unfold mn mx; split <;> split <;> omega, by unfold mn mx; split <;> split <;> omega⟩
  obtain ⟨m0, hm0⟩ : ∃ m0, mx a1 0 = m0 := ⟨_, rfl⟩
  obtain rfl : lead_Wait.row a0_0 l0_3 a0_4 l0_6 n = r := by unfold lead_Wait.f at h; rw [hn, Int.toNat_natCast] at h; exact Option.some.inj h
  clear h
  rw [hm0] at hn
  have hm0_ : (if a1 < 0 then 0 else a1) = m0 := hm0
  have hn_ : (if 64 < m0 then 64 else m0) = (n : Int) := hn
  clear hm0 hn
  go_enter Try.func36, Try.ntmps36
  go_wp2_with (first | ((with_reducible refine gate_dst (N := 2) rfl ?_); refine box_event ?hg (N := 2) ?hd (cs := #[.int .i64 a0_0, .int .i64 a0_1, .int .i64 a0_2, .slice A0_3 l0_3.length c0_3, .bool a0_4, .string a0_5, .slice A0_6 l0_6.length c0_6]) (t := 37) ?hr ?_; (case hd => rfl); (case hg => rfl); (case hr => first | (go_simp; done) | (go_simp; rfl)); intro gb hg w3 hbox hb; have n0_ := Aside0.mk (below_step HB.out hb); have n1_ := Aside0.mk hbox; have n2_ := Aside0.mk ((by rw [hg]; exact below_size HB.out) : w.heap.size ≤ gb); clear HB; have HB := n0_; have BK := n1_; have GW := n2_; clear n0_ n1_ n2_; clear hb hbox hg))
  go_loopw [5, 11] (fun v5 v11 wr => ∃ k : Nat, k ≤ n ∧ v11 = .int .i64 (k : Int) ∧ Aside0 (Kd.R (Kd.int .i64) 3 wr w.heap.size (fun _ => True) v5 (lead_Wait.row a0_0 l0_3 a0_4 l0_6 k)) ∧ Aside0 (wr.heap[gb]? = some (.cells #[.int .i64 a0_0, .int .i64 a0_1, .int .i64 a0_2, .slice A0_3 l0_3.length c0_3, .bool a0_4, .string a0_5, .slice A0_6 l0_6.length c0_6] 37 (0, 0))) ∧ Aside0 (Below w.heap.size w wr)) (fun _ j _ => n - (intOf j).toNat)
  case atStart => exact ⟨0, Nat.zero_le _, rfl, ⟨Kd.R_nil _ _ _ _ _⟩, ⟨bup BK.out⟩, HB⟩
  case round =>
    clear BK HB
    obtain ⟨k, hk, rfl, HO, BK, HB⟩ := hrel
    by_cases hlt : k < n
    · have hlt' : decide ((k : Int) < (n : Int)) = true := decide_eq_true (by omega)
      go_upto_region 5 with (fail)
      obtain ⟨w1, hw1⟩ : ∃ w1, wr.alloc (Obj.cells #[.int .i64 (k : Int)] 3) = w1 := ⟨_, rfl⟩
      obtain ⟨gi, hgi⟩ : ∃ gi, wr.heap.size = gi := ⟨_, rfl⟩
      have HR1 : Aside0 (Below wr.heap.size wr w1) := ⟨by rw [← hw1]; exact below_alloc (Below.refl _ _) _⟩
      have HB1 : Aside0 (Below w.heap.size w w1) := ⟨by rw [← hw1]; exact below_alloc HB.out _⟩
      have BI : Aside0 (w1.heap[gi]? = some (.cells #[.int .i64 (k : Int)] 3 (0, 0))) := ⟨by rw [← hw1, ← hgi]; exact blk_new wr _⟩
      have HI : Aside0 (w1.cell? ⟨gi, 0, none⟩ = some (.int .i64 (k : Int))) := ⟨(blk_cell BI.out 0).trans rfl⟩
      have HL : Aside0 (gi < w1.heap.size) := ⟨blk_lt BI.out⟩
      have BK1 : Aside0 (w1.heap[gb]? = some (.cells #[.int .i64 a0_0, .int .i64 a0_1, .int .i64 a0_2, .slice A0_3 l0_3.length c0_3, .bool a0_4, .string a0_5, .slice A0_6 l0_6.length c0_6] 37 (0, 0))) := ⟨by rw [← hw1]; exact blk_alloc BK.out _⟩
      rw [hw1, hgi]
      clear hw1
      obtain ⟨hcz0, hcz1, hcz2, hcz3, hcz4, hcz5, hcz6⟩ := blkC7 w1 gb (.int .i64 a0_0) (.int .i64 a0_1) (.int .i64 a0_2) (.slice A0_3 l0_3.length c0_3) (.bool a0_4) (.string a0_5) (.slice A0_6 l0_6.length c0_6) BK1.out
      obtain ⟨hfz0, hfz1, hfz2, hfz3, hfz4, hfz5, hfz6⟩ := blkF7 BK1.out
      go_upto_region 6 with (go_at_call 51; refine (containsMon_calls A0_3 c0_3 l0_3 (k : Int) gi _ (Kd.C_below HR0_3.out HB1.out) HC0_3.out HI.out HL.out).mono ?_; rintro e w5 ⟨rfl, hd5⟩; have HB5 := Aside0.mk (below_step HR1.out hd5); have BK5 := Aside0.mk (blk_below BK1.out hd5); have BI5 := Aside0.mk (blk_below BI.out hd5); clear hd5 BK1 BI HI HL HR1 HB1 hcz0 hcz1 hcz2 hcz3 hcz4 hcz5 hcz6 hfz0 hfz1 hfz2 hfz3 hfz4 hfz5 hfz6)
      have HO6 := Aside0.mk (Kd.R_below HO.out HB5.out)
      have HBW := Aside0.mk (below_step HB.out HB5.out)
      have HR6 := Aside0.mk (Kd.C_below HR0_6.out HBW.out)
      clear HB5 HO HB BK
      have hci : w5.cell? ⟨gi, 0, none⟩ = some (.int .i64 (k : Int)) := (blk_cell BI5.out 0).trans rfl
      have hfi : w5.frozen? ⟨gi, 0, none⟩ = false := blk_frozen BI5.out 0
      obtain ⟨hcz0, hcz1, hcz2, hcz3, hcz4, hcz5, hcz6⟩ := blkC7 w5 gb (.int .i64 a0_0) (.int .i64 a0_1) (.int .i64 a0_2) (.slice A0_3 l0_3.length c0_3) (.bool a0_4) (.string a0_5) (.slice A0_6 l0_6.length c0_6) BK5.out
      obtain ⟨hfz0, hfz1, hfz2, hfz3, hfz4, hfz5, hfz6⟩ := blkF7 BK5.out
      have HLEN := Aside0.mk (lead_Wait.row_len a0_0 l0_3 a0_4 l0_6 k)
      obtain ⟨p, hp⟩ : ∃ p, (l0_3.any fun x => x.f0 == (k : Int)) = p := ⟨_, rfl⟩
      rw [hp]
      by_cases c1 : a0_0 = 1
      · have c1b : (a0_0 == 1) = true := beq_iff_eq.mpr c1
        have c2b : (a0_0 == 2) = false := by rw [c1]; rfl
        have HK : Aside0 (lead_Wait.row a0_0 l0_3 a0_4 l0_6 (k + 1) = if (!p) = true then lead_Wait.row a0_0 l0_3 a0_4 l0_6 k ++ [(k : Int)] else lead_Wait.row a0_0 l0_3 a0_4 l0_6 k) := ⟨by rw [lead_Wait.row, lead_Wait.keep, if_pos c1, hp]⟩
        clear c1 hp
        cases p with
        | true =>
          go_wp2
          go_roundw
          case rel => exact ⟨k + 1, by omega, by first | rfl | simp, ⟨by rw [HK.out]; exact (Kd.R_up HO6.out)⟩, ⟨(bup BK5.out)⟩, ⟨(by repeat (first | (with_reducible first | exact HBW.out | apply below_alloc | apply pw_below_drewN | apply below_drew1) | exact HBW.out))⟩⟩
          case measure => simp [intOf]; omega
        | false =>
          go_wp2_with (((with_reducible refine gate_builtin (b := .append) (xs := #[.tmp 41, .tmp 43]) rfl ?_); at_builtin; refine Kd.R_append (Kd.int .i64) (w0 := w) w.heap.size rfl (.tmp 41) (.tmp 43) 35 3 (.int .i64 0) 8 rfl Try.underlying35 info3 rfl (by decide) (by omega) u5 (lead_Wait.row a0_0 l0_3 a0_4 l0_6 k) (k : Int) [.int .i64 (k : Int)] (fun _ => True) (fun _ => False) rfl rfl ?aP (fun _ hk => hk.elim) ?aF ?aO ?aB ?aS ?aL ?_; (case aP => exact rfl); (case aB => exact (by repeat (first | (with_reducible first | exact HBW.out | apply below_alloc | apply pw_below_drewN | apply below_drew1) | exact HBW.out))); (case aF => exact (fun _ _ => trivial)); (case aO => exact (Kd.R_up HO6.out)); (case aS => exact (below_size (by repeat (first | (with_reducible first | exact HBW.out | apply below_alloc | apply pw_below_drewN | apply below_drew1) | exact HBW.out)))); (case aL => have := HLEN.out; omega); intro v7 w7 ho hb hg hat; have n0_ := Aside0.mk (blk_grown (g := gb) (bup BK5.out) hg (Kd.R_ne HO6.out BK5.out (by decide))); have n1_ := Aside0.mk hb; have n2_ := Aside0.mk ho; clear BK5 HBW HO6; have BK5 := n0_; have HBW := n1_; have HO6 := n2_; clear n0_ n1_ n2_ ho hb hg hat))
          go_roundw
          case rel => exact ⟨k + 1, by omega, by first | rfl | simp, ⟨by rw [HK.out]; exact (Kd.R_up HO6.out)⟩, ⟨(bup BK5.out)⟩, ⟨(by repeat (first | (with_reducible first | exact HBW.out | apply below_alloc | apply pw_below_drewN | apply below_drew1) | exact HBW.out))⟩⟩
          case measure => simp [intOf]; omega
      · have c1b : (a0_0 == 1) = false := beq_eq_false_iff_ne.mpr c1
        by_cases c2 : a0_0 = 2
        · have c2b : (a0_0 == 2) = true := beq_iff_eq.mpr c2
          cases a0_4 with
          | false =>
            have HK : Aside0 (lead_Wait.row a0_0 l0_3 false l0_6 (k + 1) = lead_Wait.row a0_0 l0_3 false l0_6 k) := ⟨by rw [lead_Wait.row, lead_Wait.keep, if_neg c1, if_pos c2]; simp only [Bool.false_eq_true, if_false]⟩
            clear c1 c2 hp
            go_wp2
            go_roundw
            case rel => exact ⟨k + 1, by omega, by first | rfl | simp, ⟨by rw [HK.out]; exact (Kd.R_up HO6.out)⟩, ⟨(bup BK5.out)⟩, ⟨(by repeat (first | (with_reducible first | exact HBW.out | apply below_alloc | apply pw_below_drewN | apply below_drew1) | exact HBW.out))⟩⟩
            case measure => simp [intOf]; omega
          | true =>
            obtain ⟨q, hq⟩ : ∃ q, (l0_6.any fun y => y == (k : Int)) = q := ⟨_, rfl⟩
            have HK : Aside0 (lead_Wait.row a0_0 l0_3 true l0_6 (k + 1) = if (!q) = true then lead_Wait.row a0_0 l0_3 true l0_6 k ++ [(k : Int)] else lead_Wait.row a0_0 l0_3 true l0_6 k) := ⟨by rw [lead_Wait.row, lead_Wait.keep, if_neg c1, if_pos c2, if_pos rfl, hq]⟩
            obtain ⟨kc, hkc⟩ := (containsInt_ev l0_6 (k : Int) HM.out).rounds
            rw [hq] at hkc
            have HC := Aside0.mk hkc
            clear c1 c2 hp hq hkc
            cases q with
            | true =>
              go_wp2_with (first | (go_at_call 48; refine (slices_Contains_int_int.calls kc A0_6 c0_6 l0_6 (k : Int) _ _ HR6.out HC0_6.out HC.out).mono ?_; rintro e w6 ⟨rfl, nd6, hd6⟩; have hb6 : Below w5.heap.size w5 w6 := (by rw [hd6]; exact pw_below_drewN (Below.refl _ _) _); have n0_ := Aside0.mk (Kd.R_below HO6.out hb6); have n1_ := Aside0.mk (below_step HBW.out hb6); have n2_ := Aside0.mk (blk_below BK5.out hb6); have hci6 : w6.cell? ⟨gi, 0, none⟩ = some (.int .i64 (k : Int)) := (blk_cell (blk_below BI5.out hb6) 0).trans rfl; have hfi6 : w6.frozen? ⟨gi, 0, none⟩ = false := blk_frozen (blk_below BI5.out hb6) 0; clear HO6 HBW BK5; have HO6 := n0_; have HBW := n1_; have BK5 := n2_; clear n0_ n1_ n2_ hb6 hd6))
              go_roundw
              case rel => exact ⟨k + 1, by omega, by first | rfl | simp, ⟨by rw [HK.out]; exact (Kd.R_up HO6.out)⟩, ⟨(bup BK5.out)⟩, ⟨(by repeat (first | (with_reducible first | exact HBW.out | apply below_alloc | apply pw_below_drewN | apply below_drew1) | exact HBW.out))⟩⟩
              case measure => simp [intOf]; omega
            | false =>
              go_wp2_with (first | (go_at_call 48; refine (slices_Contains_int_int.calls kc A0_6 c0_6 l0_6 (k : Int) _ _ HR6.out HC0_6.out HC.out).mono ?_; rintro e w6 ⟨rfl, nd6, hd6⟩; have hb6 : Below w5.heap.size w5 w6 := (by rw [hd6]; exact pw_below_drewN (Below.refl _ _) _); have n0_ := Aside0.mk (Kd.R_below HO6.out hb6); have n1_ := Aside0.mk (below_step HBW.out hb6); have n2_ := Aside0.mk (blk_below BK5.out hb6); have hci6 : w6.cell? ⟨gi, 0, none⟩ = some (.int .i64 (k : Int)) := (blk_cell (blk_below BI5.out hb6) 0).trans rfl; have hfi6 : w6.frozen? ⟨gi, 0, none⟩ = false := blk_frozen (blk_below BI5.out hb6) 0; clear HO6 HBW BK5; have HO6 := n0_; have HBW := n1_; have BK5 := n2_; clear n0_ n1_ n2_ hb6 hd6) | ((with_reducible refine gate_builtin (b := .append) (xs := #[.tmp 41, .tmp 43]) rfl ?_); at_builtin; refine Kd.R_append (Kd.int .i64) (w0 := w) w.heap.size rfl (.tmp 41) (.tmp 43) 35 3 (.int .i64 0) 8 rfl Try.underlying35 info3 rfl (by decide) (by omega) u5 (lead_Wait.row a0_0 l0_3 true l0_6 k) (k : Int) [.int .i64 (k : Int)] (fun _ => True) (fun _ => False) rfl rfl ?aP (fun _ hk => hk.elim) ?aF ?aO ?aB ?aS ?aL ?_; (case aP => exact rfl); (case aB => exact (by repeat (first | (with_reducible first | exact HBW.out | apply below_alloc | apply pw_below_drewN | apply below_drew1) | exact HBW.out))); (case aF => exact (fun _ _ => trivial)); (case aO => exact (Kd.R_up HO6.out)); (case aS => exact (below_size (by repeat (first | (with_reducible first | exact HBW.out | apply below_alloc | apply pw_below_drewN | apply below_drew1) | exact HBW.out)))); (case aL => have := HLEN.out; omega); intro v7 w7 ho hb hg hat; have n0_ := Aside0.mk (blk_grown (g := gb) (bup BK5.out) hg (Kd.R_ne HO6.out BK5.out (by decide))); have n1_ := Aside0.mk hb; have n2_ := Aside0.mk ho; clear BK5 HBW HO6; have BK5 := n0_; have HBW := n1_; have HO6 := n2_; clear n0_ n1_ n2_ ho hb hg hat))
              go_roundw
              case rel => exact ⟨k + 1, by omega, by first | rfl | simp, ⟨by rw [HK.out]; exact (Kd.R_up HO6.out)⟩, ⟨(bup BK5.out)⟩, ⟨(by repeat (first | (with_reducible first | exact HBW.out | apply below_alloc | apply pw_below_drewN | apply below_drew1) | exact HBW.out))⟩⟩
              case measure => simp [intOf]; omega
        · have c2b : (a0_0 == 2) = false := beq_eq_false_iff_ne.mpr c2
          have HK : Aside0 (lead_Wait.row a0_0 l0_3 a0_4 l0_6 (k + 1) = lead_Wait.row a0_0 l0_3 a0_4 l0_6 k) := ⟨by rw [lead_Wait.row, lead_Wait.keep, if_neg c1, if_neg c2]; simp only [Bool.false_eq_true, if_false]⟩
          clear c1 c2 hp
          go_wp2
          go_roundw
          case rel => exact ⟨k + 1, by omega, by first | rfl | simp, ⟨by rw [HK.out]; exact (Kd.R_up HO6.out)⟩, ⟨(bup BK5.out)⟩, ⟨(by repeat (first | (with_reducible first | exact HBW.out | apply below_alloc | apply pw_below_drewN | apply below_drew1) | exact HBW.out))⟩⟩
          case measure => simp [intOf]; omega
    · obtain rfl : k = n := by omega
      have hlt' : decide ((k : Int) < (k : Int)) = false := decide_eq_false (by omega)
      go_wp2
      go_ret
      exact ⟨_, rfl, HO.out, HB.out⟩
end Go.Proofs.Ytpdpjcpmpppadaa.P
