/- Frames are sealed and opened alike by the program and by the document. -/
import Derived.Test.YtoadflcdpcfibaaPureSum
import Derived.Test.YtoadflcdpcfibaaOpenF
import Derived.Test.YtoadflcdpcfibaaOfframeSeal
import Derived.Test.YtoadflcdpcfibaaOfreefref03Seal
import Derived.Test.YtoadflcdpcfibaaOfreefref03Open
import Derived.Test.YtoadflcdpcfibaaAwake
namespace Go.Proofs.Ytoadflcdpcfibaa.Pure
open Go.RowKit Go.Proofs.Ytoadflcdpcfibaa.P Go.Proofs.YtoadflcdpcfibaaW.PrintWords Go.Proofs.YtoadflcdpcfibaaW.PrintLast Go.Proofs.YtoadflcdpcfibaaW.PrintMore
open Crc
set_option linter.unusedVariables false

theorem or_comm64 (x y : Int) : Go.bits .or .i64 x y = Go.bits .or .i64 y x := by
  show IntKind.i64.wrap _ = IntKind.i64.wrap _
  rw [BitVec.or_comm]
theorem wraps_i64 (n : Int) (h0 : 0 ≤ n) (h1 : n < 2 ^ 63) : IntKind.i64.wrap n = n := by rw [IntKind.wrap_i64]; omega
theorem or_add (x y : Int) (i : Nat) (hx0 : 0 ≤ x) (hx : x % 2 ^ i = 0) (hx1 : x < 2 ^ 63) (hy0 : 0 ≤ y) (hy : y < 2 ^ i) (hy1 : y < 2 ^ 63) : Go.bits .or .i64 x y = x + y :=
  bits_join .i64 63 (by decide) wraps_i64 i x y hx0 hx hx1 hy0 hy hy1
theorem rd_bytes {l : List Int} (hb : bytes l) (i : Int) : 0 ≤ rd l i ∧ rd l i < 256 := by
  unfold rd
  rw [List.getD_eq_getElem?_getD]
  cases h : l[i.toNat]? with
  | none => simp
  | some x => exact hb x (List.mem_of_getElem? h)
theorem low_step (q : List Int) (hb : bytes q) (a x i : Int) (k : Nat) (hi : 0 ≤ i) (ha : 0 ≤ a) (h : a + i < q.length) (hl : q.length < 4611686018427387904) (hx0 : 0 ≤ x) (hx : x < 1099511627776) :
    frame_source_low.l0 (k + 1) a x i q = frame_source_low.l0 k a (x * 256 + rd q (a + i)) (i - 1) q := by
  have hr := rd_bytes hb (a + i)
  simp only [frame_source_low.l0]
  rw [wrap_of (x := a + i) (by omega) (by omega), if_pos (by omega), if_pos (by omega), if_pos (by omega), wrap_of (x := x * 256) (by omega) (by omega), wrap_of (x := rd q (a + i)) (by omega) (by omega), wrap_of (x := i - 1) (by omega) (by omega),
    or_add (x * 256) (rd q (a + i)) 8 (by omega) (by omega) (by omega) (by omega) (by omega) (by omega)]
theorem low_end (q : List Int) (a x : Int) (k : Nat) : frame_source_low.l0 (k + 1) a x (-1) q = some x := by
  simp only [frame_source_low.l0]
  rw [if_neg (by omega)]
def low3 (q : List Int) (a : Int) : Int := ((rd q (a + 2)) * 256 + rd q (a + 1)) * 256 + rd q a
def low4 (q : List Int) (a : Int) : Int := (((rd q (a + 3)) * 256 + rd q (a + 2)) * 256 + rd q (a + 1)) * 256 + rd q a
theorem low3_ev (q : List Int) (hb : bytes q) (a : Int) (ha : 0 ≤ a) (h : a + 3 ≤ q.length) (hl : q.length < 4611686018427387904) : Ev (fun k => frame_source_low.f k q a 3) (low3 q a) := by
  refine ⟨4, fun k hk => ?_⟩
  obtain ⟨k, rfl⟩ : ∃ m, k = m + 4 := ⟨k - 4, by omega⟩
  have h2 := rd_bytes hb (a + 2)
  have h1 := rd_bytes hb (a + 1)
  show frame_source_low.l0 (k + 3 + 1) a 0 (wrap64 (3 - 1)) q = _
  rw [wrap_of (by omega) (by omega), low_step q hb a 0 (3 - 1) (k + 3) (by omega) ha (by omega) hl (by omega) (by omega), show a + (3 - 1) = a + 2 by omega, show (3 : Int) - 1 - 1 = 1 by omega,
    low_step q hb a _ 1 (k + 2) (by omega) ha (by omega) hl (by omega) (by omega), show (1 : Int) - 1 = 0 by omega,
    low_step q hb a _ 0 (k + 1) (by omega) ha (by omega) hl (by omega) (by omega), show (0 : Int) - 1 = -1 by omega, low_end, Int.add_zero]
  unfold low3
  congr 1
  omega
theorem low4_ev (q : List Int) (hb : bytes q) (a : Int) (ha : 0 ≤ a) (h : a + 4 ≤ q.length) (hl : q.length < 4611686018427387904) : Ev (fun k => frame_source_low.f k q a 4) (low4 q a) := by
  refine ⟨5, fun k hk => ?_⟩
  obtain ⟨k, rfl⟩ : ∃ m, k = m + 5 := ⟨k - 5, by omega⟩
  have h3 := rd_bytes hb (a + 3)
  have h2 := rd_bytes hb (a + 2)
  have h1 := rd_bytes hb (a + 1)
  show frame_source_low.l0 (k + 4 + 1) a 0 (wrap64 (4 - 1)) q = _
  rw [wrap_of (by omega) (by omega), low_step q hb a 0 (4 - 1) (k + 4) (by omega) ha (by omega) hl (by omega) (by omega), show a + (4 - 1) = a + 3 by omega, show (4 : Int) - 1 - 1 = 2 by omega,
    low_step q hb a _ 2 (k + 3) (by omega) ha (by omega) hl (by omega) (by omega), show (2 : Int) - 1 = 1 by omega,
    low_step q hb a _ 1 (k + 2) (by omega) ha (by omega) hl (by omega) (by omega), show (1 : Int) - 1 = 0 by omega,
    low_step q hb a _ 0 (k + 1) (by omega) ha (by omega) hl (by omega) (by omega), show (0 : Int) - 1 = -1 by omega, low_end, Int.add_zero]
  unfold low4
  congr 1
  omega
theorem low3_range {q : List Int} (hb : bytes q) (a : Int) : 0 ≤ low3 q a ∧ low3 q a < 16777216 := by
  have h2 := rd_bytes hb (a + 2); have h1 := rd_bytes hb (a + 1); have h0 := rd_bytes hb a
  unfold low3
  omega
theorem low4_range {q : List Int} (hb : bytes q) (a : Int) : 0 ≤ low4 q a ∧ low4 q a < 4294967296 := by
  have h3 := rd_bytes hb (a + 3); have h2 := rd_bytes hb (a + 2); have h1 := rd_bytes hb (a + 1); have h0 := rd_bytes hb a
  unfold low4
  omega
/-- What is read at the beginning of bytes, without rounds. -/
def openS (q : List Int) : Int × List Int × Int × Int :=
  if 1 ≤ q.length ∧ rd q 0 ≠ 167 then (0, [], 0, 10)
  else if q.length < 5 then (0, [], 0, 11)
  else if 1048575 < low3 q 2 then (0, [], 0, 10)
  else if (q.length : Int) < low3 q 2 + 9 then (0, [], 0, 11)
  else if sumI ((q.take (5 + low3 q 2).toNat).drop 1) = low4 q (5 + low3 q 2) then (rd q 1, (q.take (5 + low3 q 2).toNat).drop 5, low3 q 2 + 9, 0) else (0, [], 0, 12)
theorem bytes_take {q : List Int} (hb : bytes q) (n : Nat) : bytes (q.take n) := fun x hx => hb x (List.mem_of_mem_take hx)
theorem bytes_drop {q : List Int} (hb : bytes q) (n : Nat) : bytes (q.drop n) := fun x hx => hb x (List.mem_of_mem_drop hx)
theorem open_ev (q : List Int) (hb : bytes q) (hl : q.length < 4611686018427387904) : Ev (fun k => openL k q) (openS q) := by
  unfold openS openL
  by_cases h1 : 1 ≤ q.length ∧ rd q 0 ≠ 167
  · rw [if_pos h1]
    have : 1 ≤ q.length ∧ (rd q 0 == 167) = false := ⟨h1.1, by simpa using h1.2⟩
    simp only [if_pos this]
    exact Ev.now _
  · rw [if_neg h1]
    have : ¬ (1 ≤ q.length ∧ (rd q 0 == 167) = false) := fun h => h1 ⟨h.1, by simpa using h.2⟩
    simp only [if_neg this]
    by_cases h2 : q.length < 5
    · simp only [if_pos h2]
      exact Ev.now _
    · simp only [if_neg h2]
      have h3 := low3_range hb 2
      refine Ev.bind (low3_ev q hb 2 (by omega) (by omega) hl) ?_
      by_cases h4 : 1048575 < low3 q 2
      · simp only [if_pos h4]
        exact Ev.now _
      · simp only [if_neg h4, if_neg (show ¬ low3 q 2 < 0 by omega)]
        by_cases h5 : (q.length : Int) < low3 q 2 + 9
        · simp only [if_pos h5]
          exact Ev.now _
        · simp only [if_neg h5]
          refine Ev.bind (sum_ev _ (bytes_drop (bytes_take hb _) _) (by rw [List.length_drop, List.length_take]; omega)) (Ev.bind (low4_ev q hb _ (by omega) (by omega) hl) ?_)
          have h6 := low4_range hb (5 + low3 q 2)
          rw [show low4 q (5 + low3 q 2) % 4294967296 = low4 q (5 + low3 q 2) by omega]
          by_cases h7 : sumI ((q.take (5 + low3 q 2).toNat).drop 1) = low4 q (5 + low3 q 2)
          · simp only [if_pos h7, h7, beq_self_eq_true, if_true]
            exact Ev.now _
          · have h8 : ¬ (sumI ((q.take (5 + low3 q 2).toNat).drop 1) == low4 q (5 + low3 q 2)) = true := by simpa using h7
            simp only [if_neg h7, if_neg h8]
            exact Ev.now _
theorem ref_low (q : List Int) (hb : bytes q) : Go.bits .or .i64 (Go.bits .or .i64 (wrap64 (rd q 2)) (wrap64 ((wrap64 (rd q 3)) * 256))) (wrap64 ((wrap64 (rd q 4)) * 65536)) = low3 q 2 := by
  have h2 := rd_bytes hb 2; have h3 := rd_bytes hb 3; have h4 := rd_bytes hb 4
  rw [wrap_of (x := rd q 2) (by omega) (by omega), wrap_of (x := rd q 3) (by omega) (by omega), wrap_of (x := rd q 4) (by omega) (by omega), wrap_of (by omega) (by omega), wrap_of (by omega) (by omega),
    or_comm64 (rd q 2), or_add (rd q 3 * 256) (rd q 2) 8 (by omega) (by omega) (by omega) (by omega) (by omega) (by omega), or_comm64,
    or_add (rd q 4 * 65536) _ 16 (by omega) (by omega) (by omega) (by omega) (by omega) (by omega)]
  unfold low3
  show _ = (rd q 4 * 256 + rd q 3) * 256 + rd q 2
  omega
theorem ropen_ev (q : List Int) (hb : bytes q) (hl : q.length < 4611686018427387904) : Ev (fun k => reefref03_Open.f k q) (openS q) := by
  have hS := rsum_ev ((q.take (5 + low3 q 2).toNat).drop 1) (bytes_drop (bytes_take hb _) _) (by rw [List.length_drop, List.length_take]; omega)
  have hr := sumI_range ((q.take (5 + low3 q 2).toNat).drop 1)
  have h3 := low3_range hb 2
  have hL := ref_low q hb
  have tail : ¬ (1 ≤ q.length ∧ rd q 0 ≠ 167) → Ev (fun k => reefref03_Open.j0 k q false) (openS q) := fun h1 => by
    unfold openS
    rw [if_neg h1]
    by_cases h2 : q.length < 5
    · rw [if_pos h2]
      refine Ev.step (f := fun _ => some (0, [], 0, 11)) (fun k => ?_) (Ev.now _)
      simp only [reefref03_Open.j0]
      rw [if_neg (by decide), if_pos (by omega)]
    rw [if_neg h2]
    have w1 : wrap64 (5 + low3 q 2) = 5 + low3 q 2 := wrap_of (by omega) (by omega)
    have w2 : wrap64 (5 + low3 q 2 + 4) = low3 q 2 + 9 := by rw [wrap_of (by omega) (by omega)]; omega
    by_cases h4 : 1048575 < low3 q 2
    · rw [if_pos h4]
      refine Ev.step (f := fun _ => some (0, [], 0, 10)) (fun k => ?_) (Ev.now _)
      simp only [reefref03_Open.j0, hL]
      rw [if_neg (by decide), if_neg (by omega), if_pos (by omega), if_pos (by omega), if_pos (by omega), if_pos (by omega)]
    rw [if_neg h4]
    by_cases h5 : (q.length : Int) < low3 q 2 + 9
    · rw [if_pos h5]
      refine Ev.step (f := fun _ => some (0, [], 0, 11)) (fun k => ?_) (Ev.now _)
      simp only [reefref03_Open.j0, hL, w1, w2]
      rw [if_neg (by decide), if_neg (by omega), if_pos (by omega), if_pos (by omega), if_pos (by omega), if_neg (by omega), if_pos (by omega)]
    rw [if_neg h5]
    have w3 : wrap64 (5 + low3 q 2 + 1) = 5 + low3 q 2 + 1 := wrap_of (by omega) (by omega)
    have w4 : wrap64 (5 + low3 q 2 + 2) = 5 + low3 q 2 + 2 := wrap_of (by omega) (by omega)
    have w5 : wrap64 (5 + low3 q 2 + 3) = 5 + low3 q 2 + 3 := wrap_of (by omega) (by omega)
    obtain ⟨K, hK⟩ := hS
    refine ⟨K + 1, fun k hk => ?_⟩
    obtain ⟨k, rfl⟩ : ∃ m, k = m + 1 := ⟨k - 1, by omega⟩
    have b0 := rd_bytes hb (5 + low3 q 2); have b1 := rd_bytes hb (5 + low3 q 2 + 1); have b2 := rd_bytes hb (5 + low3 q 2 + 2); have b3 := rd_bytes hb (5 + low3 q 2 + 3)
    have hlow : low4 q (5 + low3 q 2) = (((rd q (5 + low3 q 2 + 3)) * 256 + rd q (5 + low3 q 2 + 2)) * 256 + rd q (5 + low3 q 2 + 1)) * 256 + rd q (5 + low3 q 2) := rfl
    simp only [reefref03_Open.j0, hL, w1, w2, w3, w4, w5]
    rw [if_neg (by decide), if_neg (by omega), if_pos (by omega), if_pos (by omega), if_pos (by omega), if_neg (by omega), if_neg (by omega), if_pos (by omega), if_pos (by omega), show reefref03_Sum.f k (List.drop 1 (List.take (5 + low3 q 2).toNat q)) = _ from hK k (by omega)]
    simp only [Option.bind_some]
    generalize sumI ((q.take (5 + low3 q 2).toNat).drop 1) = s at hr ⊢
    rw [if_pos (show 0 ≤ 5 + low3 q 2 by omega), if_pos (show 5 + low3 q 2 < (q.length : Int) by omega)]
    by_cases e0 : ¬ rd q (5 + low3 q 2) = s % 256
    · rw [if_neg e0, if_neg (by omega)]
    replace e0 := Decidable.not_not.1 e0
    rw [if_pos e0, if_pos (show 0 ≤ 5 + low3 q 2 + 1 by omega), if_pos (show 5 + low3 q 2 + 1 < (q.length : Int) by omega)]
    by_cases e1 : ¬ rd q (5 + low3 q 2 + 1) = s / 256 % 256
    · rw [if_neg e1, if_neg (by omega)]
    replace e1 := Decidable.not_not.1 e1
    rw [if_pos e1, if_pos (show 0 ≤ 5 + low3 q 2 + 2 by omega), if_pos (show 5 + low3 q 2 + 2 < (q.length : Int) by omega)]
    by_cases e2 : ¬ rd q (5 + low3 q 2 + 2) = s / 65536 % 256
    · rw [if_neg e2, if_neg (by omega)]
    replace e2 := Decidable.not_not.1 e2
    rw [if_pos e2, if_pos (show 0 ≤ 5 + low3 q 2 + 3 by omega), if_pos (show 5 + low3 q 2 + 3 < (q.length : Int) by omega)]
    by_cases e3 : ¬ rd q (5 + low3 q 2 + 3) = s / 16777216 % 256
    · rw [if_neg e3, if_neg (by omega)]
    replace e3 := Decidable.not_not.1 e3
    rw [if_pos e3, if_pos (show s = low4 q (5 + low3 q 2) by omega)]
    rw [if_pos (show 5 ≤ 5 + low3 q 2 by omega), if_pos (by rw [List.length_drop, List.length_take]; simp; omega), if_pos (by omega), List.nil_append]
  by_cases h1 : 1 ≤ q.length ∧ rd q 0 ≠ 167
  · refine Ev.congr (f := fun k => reefref03_Open.j0 k q true) (fun k => ?_) (Ev.step (f := fun _ => some (openS q)) (fun k => ?_) (Ev.now _))
    · simp only [reefref03_Open.f]
      rw [if_pos (by omega), if_pos (by omega), show (rd q 0 != 167) = true by simpa using h1.2]
    · simp only [reefref03_Open.j0]
      unfold openS
      rw [if_pos h1]
      rfl
  · refine Ev.congr (f := fun k => reefref03_Open.j0 k q false) (fun k => ?_) (tail h1)
    simp only [reefref03_Open.f]
    by_cases h0 : 0 < q.length
    · rw [if_pos (by omega), if_pos (by omega)]
      have : rd q 0 = 167 := Classical.byContradiction fun h => h1 ⟨h0, h⟩
      rw [this]
      rfl
    · rw [if_neg (by omega)]
end Go.Proofs.Ytoadflcdpcfibaa.Pure
