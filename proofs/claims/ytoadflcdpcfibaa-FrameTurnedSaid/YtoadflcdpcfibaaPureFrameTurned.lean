/- Bits of 32 places in a row that are turned in a sealed frame are told: the sum says so, or the length does, or nothing was turned. -/
import Derived.Test.YtoadflcdpcfibaaOfreeflaw03FrameTurned
import Derived.Test.YtoadflcdpcfibaaPureFrameBack
namespace Go.Proofs.Ytoadflcdpcfibaa.Pure
open Go.RowKit Go.Proofs.Ytoadflcdpcfibaa.P Go.Proofs.YtoadflcdpcfibaaW.PrintWords Go.Proofs.YtoadflcdpcfibaaW.PrintLast Go.Proofs.YtoadflcdpcfibaaW.PrintMore
open Crc
set_option linter.unusedVariables false

theorem B_nat (n : Nat) : B (n : Int) = BitVec.ofNat 32 n := by
  unfold B; exact BitVec.ofInt_natCast _ _
theorem B_bit {x : Int} (hx : 0 ≤ x ∧ x < 256) (j : Nat) (hj : j < 8) : (B x).getLsbD j = x.toNat.testBit j := by
  obtain ⟨n, rfl⟩ := Int.eq_ofNat_of_zero_le hx.1
  rw [B_nat, BitVec.getLsbD_ofNat, Int.toNat_natCast, decide_eq_true (show j < 32 by omega), Bool.true_and]
theorem B_high {x : Int} (hx : 0 ≤ x ∧ x < 256) : (B x).toNat < 256 := by
  have := I_B hx.1 (show x < 4294967296 by omega)
  unfold I at this
  omega
theorem turn_bit : ∀ q j : Fin 8, (BitVec.ofInt 8 (shl .u8 1 ((q.val : Nat) : Int))).getLsbD j.val = decide (j.val = q.val) := by decide
/-- A byte with one bit turned. -/
theorem turned {x : Int} (hx : 0 ≤ x ∧ x < 256) (q : Nat) (hq : q < 8) :
    (0 ≤ Go.bits .xor .u8 x (shl .u8 1 (q : Int)) ∧ Go.bits .xor .u8 x (shl .u8 1 (q : Int)) < 256) ∧
    ∀ j, j < 8 → (B (Go.bits .xor .u8 x (shl .u8 1 (q : Int)))).getLsbD j = ((B x).getLsbD j ^^ decide (j = q)) := by
  have e : Go.bits .xor .u8 x (shl .u8 1 (q : Int)) = ((BitVec.ofInt 8 x ^^^ BitVec.ofInt 8 (shl .u8 1 (q : Int))).toNat : Int) := by
    show IntKind.u8.wrap ((BitVec.ofInt 8 x ^^^ BitVec.ofInt 8 (shl .u8 1 (q : Int))).toNat : Int) = _
    have := (BitVec.ofInt 8 x ^^^ BitVec.ofInt 8 (shl .u8 1 (q : Int))).isLt
    rw [IntKind.wrap_u8]
    omega
  have hr : 0 ≤ Go.bits .xor .u8 x (shl .u8 1 (q : Int)) ∧ Go.bits .xor .u8 x (shl .u8 1 (q : Int)) < 256 := by
    rw [e]
    have := (BitVec.ofInt 8 x ^^^ BitVec.ofInt 8 (shl .u8 1 (q : Int))).isLt
    omega
  refine ⟨hr, fun j hj => ?_⟩
  rw [B_bit hr j hj, B_bit hx j hj, e, Int.toNat_natCast]
  show (BitVec.ofInt 8 x ^^^ BitVec.ofInt 8 (shl .u8 1 (q : Int))).getLsbD j = _
  rw [BitVec.getLsbD_xor, turn_bit ⟨q, hq⟩ ⟨j, hj⟩]
  congr 1
  obtain ⟨n, rfl⟩ := Int.eq_ofNat_of_zero_le hx.1
  rw [show BitVec.ofInt 8 ((n : Nat) : Int) = BitVec.ofNat 8 n from BitVec.ofInt_natCast _ _, BitVec.getLsbD_ofNat, Int.toNat_natCast, decide_eq_true hj, Bool.true_and]
/-- c is b with the bits of bb turned from place f on, t of them so far. -/
def St (b c : List Int) (bb : BitVec 32) (f t : Nat) : Prop :=
  c.length = b.length ∧ bytes c ∧ ∀ i, i < b.length → ∀ j, j < 8 →
    (B (rd c (i : Int))).getLsbD j = ((B (rd b (i : Int))).getLsbD j ^^ (decide (f ≤ 8 * i + j) && (decide (8 * i + j < f + t) && bb.getLsbD (8 * i + j - f))))
theorem St.keep {b c : List Int} {bb : BitVec 32} {f t : Nat} (h : St b c bb f t) (hn : bb.getLsbD t = false ∨ 8 * b.length ≤ f + t) : St b c bb f (t + 1) := by
  refine ⟨h.1, h.2.1, fun i hi j hj => ?_⟩
  rw [h.2.2 i hi j hj]
  congr 1
  by_cases h1 : f ≤ 8 * i + j
  · rw [decide_eq_true h1, Bool.true_and, Bool.true_and]
    by_cases h2 : 8 * i + j < f + t
    · rw [decide_eq_true h2, decide_eq_true (show 8 * i + j < f + (t + 1) by omega)]
    · by_cases h3 : 8 * i + j = f + t
      · rcases hn with hn | hn
        · rw [show 8 * i + j - f = t by omega, hn, Bool.and_false, Bool.and_false]
        · omega
      · rw [decide_eq_false h2, decide_eq_false (show ¬ 8 * i + j < f + (t + 1) by omega)]
  · rw [decide_eq_false h1, Bool.false_and, Bool.false_and]
theorem rd_set (c : List Int) (p : Nat) (hp : p < c.length) (x : Int) (i : Nat) : rd (c.set p x) (i : Int) = if i = p then x else rd c (i : Int) := by
  unfold rd
  rw [Int.toNat_natCast, List.getD_eq_getElem?_getD, List.getD_eq_getElem?_getD, List.getElem?_set]
  by_cases h : p = i
  · subst h; rw [if_pos rfl, if_pos hp, if_pos rfl]; rfl
  · rw [if_neg h, if_neg (fun e => h e.symm)]
theorem St.turn {b c : List Int} {bb : BitVec 32} {f t : Nat} (h : St b c bb f t) (hn : bb.getLsbD t = true) (hl : f + t < 8 * b.length) (x : Int)
    (hx : 0 ≤ x ∧ x < 256) (hb : ∀ j, j < 8 → (B x).getLsbD j = ((B (rd c (((f + t) / 8 : Nat) : Int))).getLsbD j ^^ decide (j = (f + t) % 8))) : St b (c.set ((f + t) / 8) x) bb f (t + 1) := by
  refine ⟨by rw [List.length_set]; exact h.1, fun y hy => ?_, fun i hi j hj => ?_⟩
  · rcases List.mem_or_eq_of_mem_set hy with hy | rfl
    · exact h.2.1 y hy
    · exact hx
  · rw [rd_set c _ (by have := h.1; omega)]
    by_cases e : i = (f + t) / 8
    · subst e
      rw [if_pos rfl, hb j hj, h.2.2 _ hi j hj]
      rw [Bool.xor_assoc]
      congr 1
      by_cases e2 : j = (f + t) % 8
      · rw [decide_eq_true e2, decide_eq_false (show ¬ 8 * ((f + t) / 8) + j < f + t by omega), decide_eq_true (show 8 * ((f + t) / 8) + j < f + (t + 1) by omega), decide_eq_true (show f ≤ 8 * ((f + t) / 8) + j by omega), show 8 * ((f + t) / 8) + j - f = t by omega, hn]
        rfl
      · rw [decide_eq_false e2, Bool.xor_false]
        congr 1
        congr 1
        exact decide_eq_decide.2 (by omega)
    · rw [if_neg e, h.2.2 i hi j hj]
      congr 1
      congr 1
      congr 1
      exact decide_eq_decide.2 (by omega)
theorem ext_bits {x y : Int} (hx : 0 ≤ x ∧ x < 256) (hy : 0 ≤ y ∧ y < 256) (h : ∀ j, j < 8 → (B x).getLsbD j = (B y).getLsbD j) : x = y := by
  have : x.toNat = y.toNat := by
    apply Nat.eq_of_testBit_eq
    intro j
    by_cases hj : j < 8
    · rw [← B_bit hx j hj, ← B_bit hy j hj, h j hj]
    · have p : 2 ^ 8 ≤ 2 ^ j := Nat.pow_le_pow_right (by omega) (by omega)
      rw [Nat.testBit_lt_two_pow (by omega), Nat.testBit_lt_two_pow (by omega)]
  omega
/-- The four bytes of a sum. -/
theorem low4_bits (c : List Int) (hb : bytes c) (a : Int) (R : BitVec 32) (h : I R = low4 c a) (i j : Nat) (hi : i < 4) (hj : j < 8) : R.getLsbD (8 * i + j) = (B (rd c (a + i))).getLsbD j := by
  have h3 := rd_bytes hb (a + 3); have h2 := rd_bytes hb (a + 2); have h1 := rd_bytes hb (a + 1); have h0 := rd_bytes hb a
  have hR : (R.toNat : Int) = (((rd c (a + 3)) * 256 + rd c (a + 2)) * 256 + rd c (a + 1)) * 256 + rd c a := h
  rw [B_bit (rd_bytes hb _) j hj]
  show R.toNat.testBit (8 * i + j) = _
  have key : (rd c (a + i)).toNat = R.toNat / 2 ^ (8 * i) % 2 ^ 8 := by
    match i, hi with
    | 0, _ => rw [show a + ((0 : Nat) : Int) = a by omega]; omega
    | 1, _ => rw [show a + ((1 : Nat) : Int) = a + 1 by omega]; omega
    | 2, _ => rw [show a + ((2 : Nat) : Int) = a + 2 by omega]; omega
    | 3, _ => rw [show a + ((3 : Nat) : Int) = a + 3 by omega]; omega
  rw [key, Nat.testBit_mod_two_pow, decide_eq_true hj, Bool.true_and, Nat.testBit_div_two_pow]
  congr 1
  omega
theorem seal_bytes {a : Int} {l : List Int} (ha : 0 ≤ a ∧ a < 256) (hb : bytes l) : bytes (sealL a l) := by
  intro x hx
  simp only [sealL, List.mem_append] at hx
  rcases hx with hx | hx
  · exact headL_bytes ha hb x hx
  · simp only [tailL, List.mem_cons, List.not_mem_nil, or_false] at hx
    rcases hx with rfl | rfl | rfl | rfl <;> omega
theorem openS_told (q : List Int) (h : (openS q).2.2.2 = 0) : (openS q).2.2.1 = low3 q 2 + 9 ∧ sumI ((q.take (5 + low3 q 2).toNat).drop 1) = low4 q (5 + low3 q 2) := by
  unfold openS at h ⊢
  split at h
  · exact absurd h (by decide)
  · split at h
    · exact absurd h (by decide)
    · split at h
      · exact absurd h (by decide)
      · split at h
        · exact absurd h (by decide)
        · split at h
          · rename_i g1 g2 g3 g4 g5
            rw [if_neg g1, if_neg g2, if_neg g3, if_neg g4, if_pos g5]
            exact ⟨rfl, g5⟩
          · exact absurd h (by decide)
theorem sums_own (c : List Int) (hb : bytes c) (L : Nat) (hc : c.length = L + 9) (h : sumI ((c.take (5 + L)).drop 1) = low4 c (5 + (L : Int))) (i : Nat) (hi : i < 4) (j : Nat) (hj : j < 8) :
    (~~~ (regs (BitVec.allOnes 32) (((c.take (5 + L)).drop 1).map B))).getLsbD (8 * i + j) = (B ((c.drop (5 + L))[i]'(by rw [List.length_drop]; omega))).getLsbD j := by
  rw [low4_bits c hb (5 + (L : Int)) _ h i j hi hj]
  congr 2
  rw [List.getElem_drop, show (5 : Int) + (L : Int) + (i : Int) = ((5 + L + i : Nat) : Int) by omega, rd_get c _ (by omega)]
theorem told (b c : List Int) (bb : BitVec 32) (f L : Nat) (hL : b.length = L + 9) (hbb : bytes b) (hf : 8 ≤ f) (h : St b c bb f 32)
    (h1 : sumI ((b.take (5 + L)).drop 1) = low4 b (5 + (L : Int))) (h2 : sumI ((c.take (5 + L)).drop 1) = low4 c (5 + (L : Int))) : c = b := by
  obtain ⟨hc, hbc, hbits⟩ := h
  let W : BitVec 32 := BitVec.ofNat 32 (bb.toNat % 2 ^ (8 * b.length - f))
  have hW : ∀ i, W.getLsbD i = (decide (i < 8 * b.length - f) && bb.getLsbD i) := fun i => by
    show (BitVec.ofNat 32 _).getLsbD i = _
    rw [BitVec.getLsbD_ofNat, Nat.testBit_mod_two_pow]
    by_cases hi : i < 32
    · rw [decide_eq_true hi, Bool.true_and]; rfl
    · rw [decide_eq_false hi, Bool.false_and, BitVec.getLsbD_of_ge bb i (by omega), Bool.and_false]
  have hdif : ∀ i, i < b.length → ∀ j, j < 8 → (B (rd c (i : Int)) ^^^ B (rd b (i : Int))).getLsbD j = (decide (f ≤ 8 * i + j) && W.getLsbD (8 * i + j - f)) := fun i hi j hj => by
    rw [BitVec.getLsbD_xor, hbits i hi j hj, hW]
    by_cases g1 : f ≤ 8 * i + j
    · rw [decide_eq_true g1, decide_eq_true (show 8 * i + j - f < 8 * b.length - f by omega), Bool.true_and, Bool.true_and, Bool.true_and]
      by_cases g2 : 8 * i + j < f + 32
      · rw [decide_eq_true g2, Bool.true_and]
        cases (B (rd b (i : Int))).getLsbD j <;> cases bb.getLsbD (8 * i + j - f) <;> rfl
      · rw [decide_eq_false g2, BitVec.getLsbD_of_ge bb _ (by omega), Bool.false_and]
        cases (B (rd b (i : Int))).getLsbD j <;> rfl
    · rw [decide_eq_false g1, Bool.false_and, Bool.false_and]
      cases (B (rd b (i : Int))).getLsbD j <;> rfl
  have zlen : (List.zipWith (· ^^^ ·) ((c.drop 1).map B) ((b.drop 1).map B)).length = L + 8 := by
    simp only [List.length_zipWith, List.length_map, List.length_drop]; omega
  have zget : ∀ i (hi : i < (List.zipWith (· ^^^ ·) ((c.drop 1).map B) ((b.drop 1).map B)).length), (List.zipWith (· ^^^ ·) ((c.drop 1).map B) ((b.drop 1).map B))[i] = B (rd c ((i + 1 : Nat) : Int)) ^^^ B (rd b ((i + 1 : Nat) : Int)) := fun i hi => by
    rw [zlen] at hi
    rw [List.getElem_zipWith, List.getElem_map, List.getElem_map, List.getElem_drop, List.getElem_drop, rd_get c _ (by omega), rd_get b _ (by omega)]
    simp only [Nat.add_comm 1 i]
  have hrun := regs_run (fun p => decide (f - 8 ≤ p) && W.getLsbD (p - (f - 8))) (List.zipWith (· ^^^ ·) ((c.drop 1).map B) ((b.drop 1).map B)) 0 0#32 (fun i hi => by
    rw [zget i hi]
    rw [zlen] at hi
    refine ⟨?_, fun j hj => ?_⟩
    · have x1 := B_high (rd_bytes hbc ((i + 1 : Nat) : Int))
      have x2 := B_high (rd_bytes hbb ((i + 1 : Nat) : Int))
      rw [BitVec.toNat_xor]
      exact Nat.xor_lt_two_pow (n := 8) x1 x2
    · rw [hdif (i + 1) (by omega) j hj]
      rw [show 8 * (i + 1) + j - f = 0 + 8 * i + j - (f - 8) by omega]
      congr 1
      exact decide_eq_decide.2 (by omega))
  have hnone : regs 0#32 (List.zipWith (· ^^^ ·) ((c.drop 1).map B) ((b.drop 1).map B)) = 0#32 := by
    have spl : ∀ q : List Int, q.length = L + 9 → (q.drop 1).map B = ((q.take (5 + L)).drop 1).map B ++ (q.drop (5 + L)).map B := fun q hq => by
      rw [← List.map_append]
      congr 1
      rw [List.drop_take, show List.drop (5 + L) q = List.drop (5 + L - 1) (List.drop 1 q) by rw [List.drop_drop]; congr 1; omega, List.take_append_drop]
    rw [spl c (by omega), spl b hL, List.zipWith_append (by simp only [List.length_map, List.length_drop, List.length_take]; omega)]
    unfold regs
    rw [List.foldl_append]
    show regs (regs 0#32 _) _ = _
    rw [show (0#32 : BitVec 32) = BitVec.allOnes 32 ^^^ BitVec.allOnes 32 by decide, regs_xor _ _ (by simp only [List.length_map, List.length_drop, List.length_take]; omega)]
    rw [show BitVec.allOnes 32 ^^^ BitVec.allOnes 32 = 0#32 by decide]
    apply regs_own
    · simp only [List.length_zipWith, List.length_map, List.length_drop]; omega
    · intro i hi
      have hi4 : i < 4 := by simp only [List.length_zipWith, List.length_map, List.length_drop] at hi; omega
      rw [List.getElem_zipWith, List.getElem_map, List.getElem_map]
      refine ⟨?_, fun j hj => ?_⟩
      · rw [BitVec.toNat_xor]
        exact Nat.xor_lt_two_pow (n := 8) (B_high (hbc _ (List.mem_of_mem_drop (List.getElem_mem _)))) (B_high (hbb _ (List.mem_of_mem_drop (List.getElem_mem _))))
      · rw [BitVec.getLsbD_xor, BitVec.getLsbD_xor, ← sums_own c hbc L (by omega) h2 i hi4 j hj, ← sums_own b hbb L hL h1 i hi4 j hj, BitVec.getLsbD_not, BitVec.getLsbD_not, decide_eq_true (show 8 * i + j < 32 by omega)]
        cases (regs (BitVec.allOnes 32) (((c.take (5 + L)).drop 1).map B)).getLsbD (8 * i + j) <;> cases (regs (BitVec.allOnes 32) (((b.take (5 + L)).drop 1).map B)).getLsbD (8 * i + j) <;> rfl
  rw [hnone, zlen] at hrun
  have hW0 : W = 0#32 := window (fun p => decide (f - 8 ≤ p) && W.getLsbD (p - (f - 8))) (f - 8) (8 * (L + 8)) W (fun _ => rfl) (fun p hp => by
    rw [hW, decide_eq_false (show ¬ p - (f - 8) < 8 * b.length - f by omega), Bool.false_and, Bool.and_false]) hrun.symm
  apply List.ext_getElem (by omega)
  intro i h1' h2'
  rw [← rd_get c i h1', ← rd_get b i h2']
  refine ext_bits (rd_bytes hbc _) (rd_bytes hbb _) fun j hj => ?_
  have := hdif i h2' j hj
  rw [hW0] at this
  rw [BitVec.getLsbD_xor] at this
  simp only [BitVec.getLsbD_zero, Bool.and_false] at this
  revert this
  cases (B (rd c (i : Int))).getLsbD j <;> cases (B (rd b (i : Int))).getLsbD j <;> simp
theorem shr_bit (bb : BitVec 32) (t : Nat) (ht : t < 32) : Go.bits .and .u32 (shr .u32 (I bb) (t : Int)) 1 = if bb.getLsbD t then 1 else 0 := by
  have e : shr .u32 (I bb) (t : Int) = I (bb >>> t) := by
    unfold shr I
    rw [BitVec.toNat_ushiftRight, Nat.shiftRight_eq_div_pow, Int.toNat_natCast, show min t IntKind.u32.bits = t from Nat.min_eq_left (by show t ≤ 32; omega)]
    norm_cast
  rw [e, I_low, BitVec.getLsbD_ushiftRight, Nat.add_zero]
def endS (b c : List Int) (k : Nat) : Option Bool := (frame_Open.f k c).bind fun bt229 => (if (strOfNums c).toList = (strOfNums b).toList then ((reeflaw03_awake.f k).bind fun t235 => (some t235)) else (if bt229.2.2.2 = 0 then (if bt229.2.2.1 = (b.length : Int) then (none) else ((reeflaw03_awake.f k).bind fun t236 => (some t236))) else ((reeflaw03_awake.f k).bind fun t237 => (some t237))))
theorem turn_l0 (b : List Int) (bb : BitVec 32) (f : Nat) (hbN : b.length < 4611686018427387904 / 8) (hf : f < 8 * b.length) (hend : ∀ c, St b c bb f 32 → Ev (endS b c) true) :
    ∀ (d t : Nat) (c : List Int), t + d = 32 → St b c bb f t → Ev (fun k => reeflaw03_FrameTurned.l0 k (I bb) b c (f : Int) (t : Int)) true := by
  intro d
  induction d with
  | zero =>
    intro t c ht h
    obtain rfl : t = 32 := by omega
    refine Ev.step (f := endS b c) (fun k => ?_) (hend c h)
    simp only [reeflaw03_FrameTurned.l0]
    rw [if_neg (by omega)]
    rfl
  | succ d ih =>
    intro t c ht h
    have ht32 : t < 32 := by omega
    have e1 : IntKind.u64.wrap (t : Int) = (t : Int) := by rw [wrap_u64]; omega
    have e2 : wrap64 ((f : Int) + (t : Int)) = ((f + t : Nat) : Int) := by rw [wrap_of (by omega) (by omega)]; omega
    have e3 : wrap64 (8 * (b.length : Int)) = 8 * (b.length : Int) := wrap_of (by omega) (by omega)
    have e4 : wrap64 ((t : Int) + 1) = ((t + 1 : Nat) : Int) := by rw [wrap_of (by omega) (by omega)]; omega
    have e5 : wrap64 (Int.tdiv ((f + t : Nat) : Int) 8) = (((f + t) / 8 : Nat) : Int) := by
      rw [Int.tdiv_eq_ediv_of_nonneg (by omega), wrap_of (by omega) (by omega)]; omega
    have e6 : IntKind.u64.wrap (Int.tmod ((f + t : Nat) : Int) 8) = (((f + t) % 8 : Nat) : Int) := by
      rw [Int.tmod_eq_emod_of_nonneg (by omega), wrap_u64]; omega
    have keep : St b c bb f (t + 1) → Ev (fun k => reeflaw03_FrameTurned.l0 k (I bb) b c (f : Int) ((t + 1 : Nat) : Int)) true := fun h' => ih (t + 1) c (by omega) h'
    cases hbit : bb.getLsbD t with
    | false =>
      refine Ev.step (f := fun k => reeflaw03_FrameTurned.l0 k (I bb) b c (f : Int) ((t + 1 : Nat) : Int)) (fun k => ?_) (keep (h.keep (.inl hbit)))
      simp only [reeflaw03_FrameTurned.l0, e1, e2, e3, e4, shr_bit bb t ht32, hbit]
      rw [if_pos (by omega), if_pos (by omega), if_neg (by decide)]
    | true =>
      by_cases hl : f + t < 8 * b.length
      · have hx := rd_bytes h.2.1 (((f + t) / 8 : Nat) : Int)
        have ht' := turned hx ((f + t) % 8) (by omega)
        have hlen := h.1
        refine Ev.step (f := fun k => reeflaw03_FrameTurned.l0 k (I bb) b (c.set ((f + t) / 8) (Go.bits .xor .u8 (rd c (((f + t) / 8 : Nat) : Int)) (shl .u8 1 (((f + t) % 8 : Nat) : Int)))) (f : Int) ((t + 1 : Nat) : Int)) (fun k => ?_) (ih (t + 1) _ (by omega) (h.turn hbit hl _ ht'.1 ht'.2))
        simp only [reeflaw03_FrameTurned.l0, e1, e2, e3, e4, e5, e6, shr_bit bb t ht32, hbit]
        rw [if_pos (by omega), if_pos (by omega), if_pos (by decide), if_pos (by omega), if_pos (by omega), if_pos (by omega), if_pos (by omega), Int.toNat_natCast]
      · refine Ev.step (f := fun k => reeflaw03_FrameTurned.l0 k (I bb) b c (f : Int) ((t + 1 : Nat) : Int)) (fun k => ?_) (keep (h.keep (.inr (by omega))))
        simp only [reeflaw03_FrameTurned.l0, e1, e2, e3, e4, shr_bit bb t ht32, hbit]
        rw [if_pos (by omega), if_pos (by omega), if_pos (by decide), if_neg (by omega)]
theorem turned_end (a : Int) (l : List Int) (ha : 0 ≤ a ∧ a < 256) (hb : bytes l) (hl : l.length ≤ 1048575) (bb : BitVec 32) (f : Nat) (hf : 8 ≤ f) (c : List Int) (h : St (sealL a l) c bb f 32) : Ev (endS (sealL a l) c) true := by
  have hn := sealL_length a l
  have hc := h.1
  unfold endS
  refine Ev.bind (g := fun k => frame_Open.f k c) (open_ev c h.2.1 (by omega)) ?_
  by_cases e : (strOfNums c).toList = (strOfNums (sealL a l)).toList
  · simp only [if_pos e]
    exact Ev.bind awake_ev (Ev.now _)
  · simp only [if_neg e]
    by_cases e2 : (openS c).2.2.2 = 0
    · simp only [if_pos e2]
      obtain ⟨g1, g2⟩ := openS_told c e2
      by_cases e3 : (openS c).2.2.1 = ((sealL a l).length : Int)
      · exfalso
        apply e
        have hL : low3 c 2 = (l.length : Int) := by omega
        rw [hL, show (5 + (l.length : Int)).toNat = 5 + l.length by omega] at g2
        have s1 := seal_head a l []
        have s2 := seal_sum a l []
        rw [List.append_nil, show (5 + (l.length : Int)).toNat = 5 + l.length by omega] at s1
        rw [List.append_nil] at s2
        have : c = sealL a l := told (sealL a l) c bb f l.length hn (seal_bytes ha hb) hf h (by rw [s1]; exact s2.symm) g2
        rw [this]
      · simp only [if_neg e3]
        exact Ev.bind awake_ev (Ev.now _)
    · simp only [if_neg e2]
      exact Ev.bind awake_ev (Ev.now _)
theorem FrameTurned : reeflaw03_FrameTurned.Pure := by
  intro a l at_ x ha hm1 hl1 hw1 hat hx
  have hb := bytes_of hw1
  have ha := wf_u8 ha
  have hx0 : 0 ≤ x ∧ x < 4294967296 := by
    simp [Lit.wf, IntKind.min, IntKind.max, IntKind.bits, IntKind.signed] at hx
    omega
  refine Ev.rounds (g := fun k => reeflaw03_FrameTurned.f k a l at_ x) ?_
  unfold reeflaw03_FrameTurned.f
  by_cases h : l.length ≤ 1048575
  · refine Ev.bind (seal_ev a l ha hb h) ?_
    have hn := sealL_length a l
    have q1 : 0 + (sealL a l).length < 140737488355328 := by omega
    have w1 : wrap64 (((sealL a l).length : Int) - 1) = ((sealL a l).length : Int) - 1 := by
      rw [hn]; exact wrap_of (by omega) (by omega)
    have w2 : wrap64 (8 * (((sealL a l).length : Int) - 1)) = 8 * (((sealL a l).length : Int) - 1) := by
      rw [hn]; exact wrap_of (by omega) (by omega)
    have w3 : IntKind.u64.wrap (8 * (((sealL a l).length : Int) - 1)) = 8 * (((sealL a l).length : Int) - 1) := by
      rw [wrap_u64, hn]; omega
    have w4 : ¬ (8 * (((sealL a l).length : Int) - 1) = 0) := by omega
    simp only [if_true, Option.bind_some, List.nil_append, List.length_nil, if_pos q1, w1, w2, w3, if_neg w4]
    have hU : 0 ≤ IntKind.u64.wrap at_ := by rw [wrap_u64]; omega
    obtain ⟨f, hf, hf8, hfn⟩ : ∃ f : Nat, wrap64 (8 + wrap64 (Int.tmod (IntKind.u64.wrap at_) (8 * (((sealL a l).length : Int) - 1)))) = (f : Int) ∧ 8 ≤ f ∧ f < 8 * (sealL a l).length := by
      have h1 : Int.tmod (IntKind.u64.wrap at_) (8 * (((sealL a l).length : Int) - 1)) = (IntKind.u64.wrap at_) % (8 * (((sealL a l).length : Int) - 1)) := Int.tmod_eq_emod_of_nonneg hU
      have h2 := Int.emod_nonneg (IntKind.u64.wrap at_) w4
      have h3 := Int.emod_lt_of_pos (IntKind.u64.wrap at_) (show 0 < 8 * (((sealL a l).length : Int) - 1) by omega)
      rw [h1]
      generalize IntKind.u64.wrap at_ % (8 * (((sealL a l).length : Int) - 1)) = m at h2 h3 ⊢
      rw [wrap_of (x := m) (by omega) (by omega), wrap_of (by omega) (by omega)]
      exact ⟨(8 + m).toNat, by omega, by omega, by omega⟩
    simp only [hf]
    have := turn_l0 (sealL a l) (B x) f (by omega) hfn (fun c hc => turned_end a l ha hb h (B x) f hf8 c hc) 32 0 (sealL a l) rfl
      ⟨rfl, seal_bytes ha hb, fun i hi j hj => by
        have : ¬ (f ≤ 8 * i + j ∧ 8 * i + j < f + 0) := by omega
        by_cases g1 : f ≤ 8 * i + j
        · rw [decide_eq_false (show ¬ 8 * i + j < f + 0 by omega), Bool.false_and, Bool.and_false, Bool.xor_false]
        · rw [decide_eq_false g1, Bool.false_and, Bool.xor_false]⟩
    rw [I_B hx0.1 hx0.2] at this
    exact this
  · refine Ev.bind (seal_long a l (by omega)) ?_
    have q : ¬ ((13 : Int) = 0) := by decide
    simp only [if_neg q]
    exact Ev.bind awake_ev (Ev.now _)
end Go.Proofs.Ytoadflcdpcfibaa.Pure
