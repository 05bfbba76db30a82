-- left of the seat's texts by prune.py, a program of this session
import Derived.Test.YtcheinjlgojepaaDoorP19
import Derived.Test.YtcheinjlgojepaaDoorPureWrite
import Derived.Laws.Bits64
import Derived.Laws.DeepNot64
import Derived.Test.YtcheinjlgojepaaDoorField
import Derived.WalkKit
import Derived.Test.YtcheinjlgojepaaDoorRead
import Derived.Test.YtcheinjlgojepaaDoorKeyNum
namespace Go.Proofs.YtcheinjlgojepaaDoor.Pure
open Go.RowKit Go.Proofs.YtcheinjlgojepaaDoor.P Go.Proofs.YtcheinjlgojepaaDoorW.PrintWords Go.Proofs.YtcheinjlgojepaaDoorW.PrintLast Go.Proofs.YtcheinjlgojepaaDoorW.PrintMore
set_option linter.unusedVariables false
set_option linter.unusedSimpArgs false
def IsB (b : List Int) : Prop := ∀ n ∈ b, 0 ≤ n ∧ n < 256
theorem IsB.at {b : List Int} (h : IsB b) (i : Nat) (hi : i < b.length) : 0 ≤ b[i] ∧ b[i] < 256 := h _ (List.getElem_mem hi)
theorem IsB.drop {b : List Int} (h : IsB b) (i : Nat) : IsB (b.drop i) := fun n hn => h n (List.mem_of_mem_drop hn)
theorem IsB.take {b : List Int} (h : IsB b) (i : Nat) : IsB (b.take i) := fun n hn => h n (List.mem_of_mem_take hn)
theorem IsB.append {b c : List Int} (h : IsB b) (g : IsB c) : IsB (b ++ c) := fun n hn => (List.mem_append.1 hn).elim (h n) (g n)
theorem rd_b (b : List Int) (i : Nat) (h : i < b.length) : rd b (i : Int) = b[i] := by
  unfold rd
  rw [Int.toNat_natCast, List.getD_eq_getElem?_getD, List.getElem?_eq_getElem h]; rfl
theorem or_swap (k : IntKind) (x y : Int) : Go.bits .or k x y = Go.bits .or k y x := by
  simp only [Go.bits]
  rw [BitVec.or_comm]
theorem wraps_u64 (n : Int) (h₀ : 0 ≤ n) (h₁ : n < 2 ^ 64) : IntKind.u64.wrap n = n := by
  have : (2 : Int) ^ 64 = 18446744073709551616 := by decide
  rw [IntKind.wrap_u64]; omega
theorem new_s (s : Nat) (P : Int) (hP : (2 : Int) ^ s = P) (acc dd : Int) (h0 : 0 ≤ acc) (h1 : acc < P) (h2 : P ≤ 9223372036854775808) (h3 : 0 ≤ dd * P) (h4 : dd * P < 18446744073709551616) : Go.bits .or .u64 acc (IntKind.u64.wrap (dd * P)) = acc + dd * P := by
  have e64 : (2 : Int) ^ 64 = 18446744073709551616 := by decide
  rw [wraps_u64 _ h3 (by rw [e64]; exact h4), or_swap]
  have := bits_join .u64 64 (by decide) wraps_u64 s (dd * P) acc h3 (by rw [← hP]; exact Int.mul_emod_left _ _) (by rw [e64]; exact h4) h0 (by rw [hP]; exact h1) (by rw [e64]; omega)
  rw [this]; omega
theorem new_eq (kk : Nat) (hk : kk ≤ 9) (acc d : Int) (h0 : 0 ≤ acc) (h1 : acc < 2 ^ (7 * kk)) (hd0 : 0 ≤ d) (hd : d < 256) (h9 : kk = 9 → d ≤ 1) :
    Go.bits .or .u64 acc (shl .u64 (IntKind.u64.wrap (Go.bits .and .u8 d 127)) (wrap64 (7 * (kk : Int)))) = acc + d % 128 * 2 ^ (7 * kk) := by
  have e1 : Go.bits .and .u8 d 127 = d % 128 := bits_mask .u8 8 (by decide) wraps_u8 7 (by decide) d hd0 hd
  have e2 : IntKind.u64.wrap (d % 128) = d % 128 := by rw [IntKind.wrap_u64]; omega
  have e3 : wrap64 (7 * (kk : Int)) = ((7 * kk : Nat) : Int) := by unfold wrap64; omega
  rw [e1, e2, e3]
  unfold shl
  rw [Int.toNat_natCast, show min (7 * kk) (IntKind.u64.bits) = 7 * kk from by show min (7 * kk) 64 = _; omega]
  have hc : kk = 0 ∨ kk = 1 ∨ kk = 2 ∨ kk = 3 ∨ kk = 4 ∨ kk = 5 ∨ kk = 6 ∨ kk = 7 ∨ kk = 8 ∨ kk = 9 := by omega
  rcases hc with rfl | rfl | rfl | rfl | rfl | rfl | rfl | rfl | rfl | rfl
  · have hP : (2 : Int) ^ (7 * 0) = 1 := by decide
    rw [hP] at h1 ⊢; exact new_s _ _ hP acc _ h0 h1 (by omega) (by omega) (by omega)
  · have hP : (2 : Int) ^ (7 * 1) = 128 := by decide
    rw [hP] at h1 ⊢; exact new_s _ _ hP acc _ h0 h1 (by omega) (by omega) (by omega)
  · have hP : (2 : Int) ^ (7 * 2) = 16384 := by decide
    rw [hP] at h1 ⊢; exact new_s _ _ hP acc _ h0 h1 (by omega) (by omega) (by omega)
  · have hP : (2 : Int) ^ (7 * 3) = 2097152 := by decide
    rw [hP] at h1 ⊢; exact new_s _ _ hP acc _ h0 h1 (by omega) (by omega) (by omega)
  · have hP : (2 : Int) ^ (7 * 4) = 268435456 := by decide
    rw [hP] at h1 ⊢; exact new_s _ _ hP acc _ h0 h1 (by omega) (by omega) (by omega)
  · have hP : (2 : Int) ^ (7 * 5) = 34359738368 := by decide
    rw [hP] at h1 ⊢; exact new_s _ _ hP acc _ h0 h1 (by omega) (by omega) (by omega)
  · have hP : (2 : Int) ^ (7 * 6) = 4398046511104 := by decide
    rw [hP] at h1 ⊢; exact new_s _ _ hP acc _ h0 h1 (by omega) (by omega) (by omega)
  · have hP : (2 : Int) ^ (7 * 7) = 562949953421312 := by decide
    rw [hP] at h1 ⊢; exact new_s _ _ hP acc _ h0 h1 (by omega) (by omega) (by omega)
  · have hP : (2 : Int) ^ (7 * 8) = 72057594037927936 := by decide
    rw [hP] at h1 ⊢; exact new_s _ _ hP acc _ h0 h1 (by omega) (by omega) (by omega)
  · have hP : (2 : Int) ^ (7 * 9) = 9223372036854775808 := by decide
    have := h9 rfl
    rw [hP] at h1 ⊢; exact new_s _ _ hP acc _ h0 h1 (by omega) (by omega) (by omega)
def ng : Nat → Nat → Int → List Int → Int × Int × Nat
  | 0, _, _, _ => (0, 10, 0)
  | n + 1, k, acc, [] => (0, 11, 0)
  | n + 1, k, acc, d :: L => if (0 < k ∧ d = 0) ∨ (k = 9 ∧ 1 < d) then (0, 10, 1) else if d < 128 then (acc + d % 128 * 2 ^ (7 * k), 0, 1)
    else ((ng n (k + 1) (acc + d % 128 * 2 ^ (7 * k)) L).1, (ng n (k + 1) (acc + d % 128 * 2 ^ (7 * k)) L).2.1, (ng n (k + 1) (acc + d % 128 * 2 ^ (7 * k)) L).2.2 + 1)
def ngl (limit : Int) (at_ : Nat) (r : Int × Int × Nat) : Int × Int × Int := if r.2.1 = 0 ∧ r.1 > limit then (0, 10, ((at_ + r.2.2 : Nat) : Int)) else (r.1, r.2.1, ((at_ + r.2.2 : Nat) : Int))
theorem ngl_step (limit : Int) (at_ : Nat) (x e : Int) (c : Nat) : ngl limit at_ (x, e, c + 1) = ngl limit (at_ + 1) (x, e, c) := by
  unfold ngl
  simp only [Nat.add_assoc, Nat.add_comm 1 c]
theorem pow7 (k : Nat) : (2 : Int) ^ (7 * (k + 1)) = 128 * 2 ^ (7 * k) := by
  rw [Nat.mul_add, Int.pow_add, Int.mul_comm]; rfl
theorem pow7_pos (k : Nat) : (0 : Int) < 2 ^ (7 * k) := Int.pow_pos (by decide)
theorem wrap_7 (k : Nat) (h : k ≤ 9) : wrap64 (7 * (k : Int)) = 7 * (k : Int) := by unfold wrap64; omega
theorem w7_nonneg (k : Nat) (h : k ≤ 9) : 0 ≤ wrap64 (7 * (k : Int)) := by rw [wrap_7 k h]; omega
theorem l0_end (k : Nat) (limit acc kk : Int) (b : List Int) : code_cursor_number.l0 (k + 1) limit acc kk b (b.length : Int) = some (0, 11, (b.length : Int)) := by
  simp only [code_cursor_number.l0]
  exact if_pos trivial
theorem j1_bad (k : Nat) (limit acc kk d : Int) (b : List Int) (at1 : Int) : code_cursor_number.j1 (k + 1) limit acc kk d true b at1 = some (0, 10, at1) := by
  simp only [code_cursor_number.j1]
  rw [if_pos trivial]
theorem j1_end (k : Nat) (limit acc kk d X : Int) (b : List Int) (at1 : Int) (h7 : 0 ≤ wrap64 (7 * kk)) (hd : d < 128) (hX : Go.bits .or .u64 acc (shl .u64 (IntKind.u64.wrap (Go.bits .and .u8 d 127)) (wrap64 (7 * kk))) = X) :
    code_cursor_number.j1 (k + 1) limit acc kk d false b at1 = if X > limit then some (0, 10, at1) else some (X, 0, at1) := by
  simp only [code_cursor_number.j1]
  rw [if_neg Bool.false_ne_true, if_pos h7, if_pos hd, hX]
theorem j1_go (k : Nat) (limit acc kk d X : Int) (b : List Int) (at1 : Int) (h7 : 0 ≤ wrap64 (7 * kk)) (hd : ¬ d < 128) (hX : Go.bits .or .u64 acc (shl .u64 (IntKind.u64.wrap (Go.bits .and .u8 d 127)) (wrap64 (7 * kk))) = X) :
    code_cursor_number.j1 (k + 1) limit acc kk d false b at1 = code_cursor_number.l0 k limit X (wrap64 (kk + 1)) b at1 := by
  simp only [code_cursor_number.j1]
  rw [if_neg Bool.false_ne_true, if_pos h7, if_neg hd, hX]
def badB (k : Nat) (d : Int) : Bool := if 0 < k then (if d = 0 then true else if k = 9 then decide (d > 1) else false) else false
theorem badB_iff (k : Nat) (d : Int) (h : k ≤ 9) : badB k d = true ↔ ((0 < k ∧ d = 0) ∨ (k = 9 ∧ 1 < d)) := by
  unfold badB
  by_cases h0 : 0 < k
  · rw [if_pos h0]
    by_cases hz : d = 0
    · rw [if_pos hz]; exact ⟨fun _ => .inl ⟨h0, hz⟩, fun _ => rfl⟩
    · rw [if_neg hz]
      by_cases h9 : k = 9
      · rw [if_pos h9, decide_eq_true_iff]
        exact ⟨fun g => .inr ⟨h9, g⟩, fun g => g.elim (fun q => absurd q.2 hz) (fun q => q.2)⟩
      · rw [if_neg h9]
        exact ⟨fun g => (by cases g), fun g => g.elim (fun q => absurd q.2 hz) (fun q => absurd q.1 h9)⟩
  · rw [if_neg h0]
    exact ⟨fun g => (by cases g), fun g => g.elim (fun q => absurd q.1 h0) (fun q => absurd (q.1 ▸ (by decide : 0 < 9)) h0)⟩
theorem l0_byte (k : Nat) (limit acc : Int) (kk : Nat) (b : List Int) (at_ : Nat) (hi : at_ < b.length) (d : Int) (e : rd b (at_ : Int) = d) (hw : wrap64 ((at_ : Int) + 1) = ((at_ + 1 : Nat) : Int)) :
    code_cursor_number.l0 (k + 1) limit acc (kk : Int) b (at_ : Int) = code_cursor_number.j1 k limit acc (kk : Int) d (badB kk d) b ((at_ + 1 : Nat) : Int) := by
  simp only [code_cursor_number.l0]
  rw [if_neg (by omega), if_pos (by omega), if_pos (by omega), e, hw]
  unfold badB
  by_cases h0 : 0 < kk
  · rw [if_pos (show (kk : Int) > 0 by omega), if_pos h0]
    by_cases hz : d = 0
    · rw [if_pos hz, if_pos hz]
    · rw [if_neg hz, if_neg hz]
      by_cases h9 : kk = 9
      · rw [if_pos (show (kk : Int) = 9 by omega), if_pos h9]
      · rw [if_neg (show ¬ (kk : Int) = 9 by omega), if_neg h9]
  · rw [if_neg (show ¬ (kk : Int) > 0 by omega), if_neg h0, if_neg (show ¬ (kk : Int) = 9 by omega)]
theorem acc_bound (P acc d : Int) (hp : 0 < P) (h0 : 0 ≤ acc) (h1 : acc < P) : 0 ≤ acc + d % 128 * P ∧ acc + d % 128 * P < 128 * P := by
  have hm : d % 128 * P ≤ 127 * P := Int.mul_le_mul_of_nonneg_right (by omega) (by omega)
  have hm0 : 0 ≤ d % 128 * P := Int.mul_nonneg (by omega) (by omega)
  omega
theorem num_loop (b : List Int) (hb : IsB b) (hl : b.length < 9223372036854775807) (limit : Int) : ∀ (n kk at_ : Nat) (acc : Int), n + kk = 10 → kk ≤ 9 → at_ ≤ b.length → 0 ≤ acc → acc < 2 ^ (7 * kk) →
    Ev (fun k => code_cursor_number.l0 k limit acc (kk : Int) b (at_ : Int)) (ngl limit at_ (ng n kk acc (b.drop at_))) := by
  intro n
  induction n with
  | zero => intro kk at_ acc h1 h2; omega
  | succ n ih =>
    intro kk at_ acc hn hk hat h0 h1
    by_cases he : at_ = b.length
    · rw [List.drop_of_length_le (Nat.le_of_eq he.symm), ng]
      subst he
      exact Ev.step (f := fun _ => some (0, 11, (b.length : Int))) (fun k => l0_end k _ _ _ _) (Ev.now _)
    · have hi : at_ < b.length := Nat.lt_of_le_of_ne hat he
      obtain ⟨d0, d1⟩ := hb.at at_ hi
      have hw : wrap64 ((at_ : Int) + 1) = ((at_ + 1 : Nat) : Int) := wrap_s at_ (Nat.lt_trans hi hl)
      have hwk : wrap64 ((kk : Int) + 1) = ((kk + 1 : Nat) : Int) := wrap_s kk (Nat.lt_of_le_of_lt hk (by decide))
      refine Ev.step (fun k => l0_byte k limit acc kk b at_ hi b[at_] (rd_b b at_ hi) hw) ?_
      rw [List.drop_eq_getElem_cons hi, ng]
      generalize b[at_] = d at d0 d1
      have ht := badB_iff kk d hk
      cases hbb : badB kk d with
      | true =>
        rw [if_pos (ht.1 hbb)]
        exact Ev.step (f := fun _ => some (0, 10, ((at_ + 1 : Nat) : Int))) (fun k => j1_bad k _ _ _ _ _ _) (Ev.now _)
      | false =>
        have hf : ¬ ((0 < kk ∧ d = 0) ∨ (kk = 9 ∧ 1 < d)) := fun h => by rw [ht.2 h] at hbb; cases hbb
        rw [if_neg hf]
        have h9 : kk = 9 → d ≤ 1 := fun h => Int.not_lt.1 (fun g => hf (.inr ⟨h, g⟩))
        have hnew := new_eq kk hk acc d h0 h1 d0 d1 h9
        have hw7 := w7_nonneg kk hk
        by_cases hd : d < 128
        · rw [if_pos hd]
          refine Ev.step (fun k => j1_end k limit acc kk d _ b _ hw7 hd hnew) ?_
          by_cases hx : acc + d % 128 * 2 ^ (7 * kk) > limit
          · have e : ngl limit at_ (acc + d % 128 * 2 ^ (7 * kk), 0, 1) = (0, 10, ((at_ + 1 : Nat) : Int)) := if_pos ⟨rfl, hx⟩
            rw [e]
            exact Ev.congr (fun k => if_pos hx) (Ev.now _)
          · have e : ngl limit at_ (acc + d % 128 * 2 ^ (7 * kk), 0, 1) = (acc + d % 128 * 2 ^ (7 * kk), 0, ((at_ + 1 : Nat) : Int)) := if_neg (fun h => hx h.2)
            rw [e]
            exact Ev.congr (fun k => if_neg hx) (Ev.now _)
        · rw [if_neg hd, ngl_step]
          obtain ⟨a0, a1⟩ := acc_bound (2 ^ (7 * kk)) acc d (pow7_pos kk) h0 h1
          refine Ev.step (fun k => (j1_go k limit acc kk d _ b _ hw7 hd hnew).trans (by rw [hwk])) ?_
          have hk9 : kk ≠ 9 := fun h => hd (Int.lt_of_le_of_lt (h9 h) (by decide))
          exact ih (kk + 1) (at_ + 1) _ (by omega) (by omega) hi a0 (by rw [pow7]; exact a1)
def numR (b : List Int) (at_ : Nat) (limit : Int) : Int × Int × Int := ngl limit at_ (ng 10 0 0 (b.drop at_))
theorem num_ev (b : List Int) (hb : IsB b) (hl : b.length < 9223372036854775807) (limit : Int) (at_ : Nat) (h : at_ ≤ b.length) : Ev (fun k => code_cursor_number.f k b (at_ : Int) limit) (numR b at_ limit) :=
  num_loop b hb hl limit 10 0 at_ 0 (by omega) (by omega) h (by omega) (by decide)
theorem ng_read : ∀ (n k : Nat) (acc : Int) (L : List Int), IsB L → n + k = 10 → k ≤ 9 → 0 ≤ acc → acc < 2 ^ (7 * k) → (ng n k acc L).2.1 = 0 →
    ∃ v, 0 ≤ v ∧ (0 < k → 1 ≤ v) ∧ v < 128 ^ n ∧ (ng n k acc L).1 = acc + v * 2 ^ (7 * k) ∧ (ng n k acc L).1 < 18446744073709551616 ∧ (ng n k acc L).2.2 ≤ L.length ∧ L.take (ng n k acc L).2.2 = numL (n - 1) v := by
  intro n
  induction n with
  | zero => intro k acc L _ h h'; omega
  | succ n ih =>
    intro k acc L hL hn hk h0 h1 he
    cases L with
    | nil => rw [ng] at he; simp at he
    | cons d L =>
      obtain ⟨d0, d1⟩ := hL d (List.mem_cons_self ..)
      have hp := pow7_pos k
      rw [ng] at he ⊢
      by_cases hf : (0 < k ∧ d = 0) ∨ (k = 9 ∧ 1 < d)
      · rw [if_pos hf] at he; simp at he
      · rw [if_neg hf] at he ⊢
        by_cases hd : d < 128
        · rw [if_pos hd]
          have hdm : d % 128 = d := by omega
          have hb : acc + d * 2 ^ (7 * k) < 18446744073709551616 := by
            have hc : k = 0 ∨ k = 1 ∨ k = 2 ∨ k = 3 ∨ k = 4 ∨ k = 5 ∨ k = 6 ∨ k = 7 ∨ k = 8 ∨ k = 9 := by omega
            rcases hc with rfl | rfl | rfl | rfl | rfl | rfl | rfl | rfl | rfl | rfl
            · have hP : (2 : Int) ^ (7 * 0) = 1 := by decide
              rw [hP] at h1 ⊢; omega
            · have hP : (2 : Int) ^ (7 * 1) = 128 := by decide
              rw [hP] at h1 ⊢; omega
            · have hP : (2 : Int) ^ (7 * 2) = 16384 := by decide
              rw [hP] at h1 ⊢; omega
            · have hP : (2 : Int) ^ (7 * 3) = 2097152 := by decide
              rw [hP] at h1 ⊢; omega
            · have hP : (2 : Int) ^ (7 * 4) = 268435456 := by decide
              rw [hP] at h1 ⊢; omega
            · have hP : (2 : Int) ^ (7 * 5) = 34359738368 := by decide
              rw [hP] at h1 ⊢; omega
            · have hP : (2 : Int) ^ (7 * 6) = 4398046511104 := by decide
              rw [hP] at h1 ⊢; omega
            · have hP : (2 : Int) ^ (7 * 7) = 562949953421312 := by decide
              rw [hP] at h1 ⊢; omega
            · have hP : (2 : Int) ^ (7 * 8) = 72057594037927936 := by decide
              rw [hP] at h1 ⊢; omega
            · have hP : (2 : Int) ^ (7 * 9) = 9223372036854775808 := by decide
              rw [hP] at h1 ⊢; omega
          refine ⟨d, d0, fun hk0 => by omega, ?_, by simp only [hdm], by simp only [hdm]; exact hb, by simp, ?_⟩
          · have : (128 : Int) ≤ 128 ^ (n + 1) := by
              rw [Int.pow_succ]
              have : (0 : Int) < 128 ^ n := Int.pow_pos (by decide)
              omega
            omega
          · simp only [List.take_succ_cons, List.take_zero, Nat.add_sub_cancel]
            cases n with
            | zero => rfl
            | succ n => rw [numL, if_neg (by omega)]
        · rw [if_neg hd] at he ⊢
          simp only at he ⊢
          have hk9 : k ≠ 9 := fun h => hf (.inr ⟨h, by omega⟩)
          have hm : d % 128 * 2 ^ (7 * k) ≤ 127 * 2 ^ (7 * k) := Int.mul_le_mul_of_nonneg_right (by omega) (by omega)
          have hm0 : 0 ≤ d % 128 * 2 ^ (7 * k) := Int.mul_nonneg (by omega) (by omega)
          obtain ⟨v, v0, v1, v2, v3, v4, v5, v6⟩ := ih (k + 1) (acc + d % 128 * 2 ^ (7 * k)) L (fun n hn => hL n (List.mem_cons_of_mem _ hn)) (by omega) (by omega) (by omega) (by rw [pow7]; omega) he
          have v1' := v1 (by omega)
          refine ⟨d % 128 + 128 * v, by omega, fun _ => by omega, ?_, ?_, v4, by simp only [List.length_cons]; omega, ?_⟩
          · rw [Int.pow_succ]; omega
          · rw [v3, pow7, Int.add_assoc]
            congr 1
            rw [Int.add_mul, Int.mul_comm 128 v, Int.mul_assoc]
          · rw [List.take_succ_cons, v6]
            cases n with
            | zero => omega
            | succ n =>
              rw [Nat.add_sub_cancel, Nat.add_sub_cancel, numL, if_pos (by omega)]
              rw [show (d % 128 + 128 * v) % 128 + 128 = d from by omega, show (d % 128 + 128 * v) / 128 = v from by omega]
end Go.Proofs.YtcheinjlgojepaaDoor.Pure
namespace Go.Proofs.YtcheinjlgojepaaDoor.Pure
open Go.RowKit Go.Proofs.YtcheinjlgojepaaDoor.P Go.Proofs.YtcheinjlgojepaaDoorW.PrintWords Go.Proofs.YtcheinjlgojepaaDoorW.PrintLast Go.Proofs.YtcheinjlgojepaaDoorW.PrintMore
set_option linter.unusedVariables false
set_option linter.unusedSimpArgs false
def ngm (limit : Int) (L : List Int) : Int × Int × Nat := if (ng 10 0 0 L).2.1 = 0 ∧ (ng 10 0 0 L).1 > limit then (0, 10, (ng 10 0 0 L).2.2) else ng 10 0 0 L
theorem numR_eq (b : List Int) (at_ : Nat) (limit : Int) : numR b at_ limit = ((ngm limit (b.drop at_)).1, (ngm limit (b.drop at_)).2.1, ((at_ + (ngm limit (b.drop at_)).2.2 : Nat) : Int)) := by
  unfold numR ngl ngm
  split <;> rfl
theorem ng_taken : ∀ (n k : Nat) (acc : Int) (L : List Int), (ng n k acc L).2.2 ≤ L.length := by
  intro n
  induction n with
  | zero => intro k acc L; rw [ng]; exact Nat.zero_le _
  | succ n ih =>
    intro k acc L
    cases L with
    | nil => rw [ng]; exact Nat.le_refl _
    | cons d L =>
      rw [ng, List.length_cons]
      split
      · exact Nat.le_add_left 1 _
      · split
        · exact Nat.le_add_left 1 _
        · exact Nat.succ_le_succ (ih _ _ _)
theorem ngm_taken (limit : Int) (L : List Int) : (ngm limit L).2.2 ≤ L.length := by
  unfold ngm
  split <;> exact ng_taken _ _ _ _
theorem p0 : (2 : Int) ^ (7 * 0) = 1 := by decide
theorem ngm_read (limit : Int) (L : List Int) (hL : IsB L) (he : (ngm limit L).2.1 = 0) : 0 ≤ (ngm limit L).1 ∧ (ngm limit L).1 ≤ limit ∧ (ngm limit L).1 < 18446744073709551616 ∧ L.take (ngm limit L).2.2 = numL 9 (ngm limit L).1 := by
  unfold ngm at he ⊢
  by_cases hc : (ng 10 0 0 L).2.1 = 0 ∧ (ng 10 0 0 L).1 > limit
  · rw [if_pos hc] at he; exact absurd (show (10 : Int) = 0 from he) (by decide)
  · rw [if_neg hc] at he ⊢
    obtain ⟨v, v0, _, _, v3, v4, _, v6⟩ := ng_read 10 0 0 L hL rfl (by decide) (Int.le_refl _) (by rw [p0]; decide) he
    rw [p0, Int.mul_one, Int.zero_add] at v3
    refine ⟨by rw [v3]; exact v0, Int.not_lt.1 (fun q => hc ⟨he, q⟩), v4, ?_⟩
    rw [v6, v3]
theorem xor_swap (k : IntKind) (x y : Int) : Go.bits .xor k x y = Go.bits .xor k y x := by
  simp only [Go.bits]
  rw [BitVec.xor_comm]
theorem i64_wrap (n : Int) (h0 : -9223372036854775808 ≤ n) (h1 : n < 9223372036854775808) : IntKind.i64.wrap n = n := by
  simp [IntKind.wrap, IntKind.bits, IntKind.signed]; omega
theorem i64_xor0 (a : Int) (h0 : 0 ≤ a) (h1 : a < 9223372036854775808) : Go.bits .xor .i64 a 0 = a := by
  obtain ⟨n, rfl⟩ := Int.eq_ofNat_of_zero_le h0
  have h2 : (BitVec.ofInt 64 (n : Int)).toNat = n := by
    rw [BitVec.ofInt_natCast, BitVec.toNat_ofNat]; exact Nat.mod_eq_of_lt (by omega)
  show IntKind.i64.wrap ((BitVec.ofInt 64 (n : Int) ^^^ BitVec.ofInt 64 (0 : Int)).toNat : Int) = _
  have e0 : BitVec.ofInt 64 (0 : Int) = 0#64 := by decide
  rw [e0, BitVec.xor_zero, h2, i64_wrap _ (by omega) (by omega)]
theorem unzag_eq (x : Int) (h0 : 0 ≤ x) (h1 : x < 18446744073709551616) : unzag x = if x % 2 = 0 then x / 2 else -1 - x / 2 := by
  unfold unzag
  have e2 : Go.bits .and .u64 x 1 = x % 2 := bits_mask .u64 64 (by decide) wraps_u64 1 (by decide) x h0 h1
  have e1 : wrap64 (x / 2) = x / 2 := by unfold wrap64; omega
  have e3 : wrap64 (x % 2) = x % 2 := by unfold wrap64; omega
  rw [e2, e1, e3]
  by_cases hx : x % 2 = 0
  · have e4 : wrap64 (-(x % 2)) = 0 := by unfold wrap64; omega
    rw [if_pos hx, e4, i64_xor0 _ (by omega) (by omega)]
  · have e4 : wrap64 (-(x % 2)) = -1 := by unfold wrap64; omega
    rw [if_neg hx, e4, xor_swap]
    obtain ⟨n, hn⟩ := Int.eq_ofNat_of_zero_le (show 0 ≤ x / 2 by omega)
    rw [hn]
    exact i64_not n (by omega)
theorem zig_unzag (x : Int) (h0 : 0 ≤ x) (h1 : x < 18446744073709551616) : zigV (unzag x) = x ∧ -9223372036854775808 ≤ unzag x ∧ unzag x < 9223372036854775808 := by
  rw [unzag_eq _ h0 h1]
  unfold zigV
  split <;> split <;> omega
def word4 : List Int → Int
  | d0 :: d1 :: d2 :: d3 :: _ => d0 + 256 * d1 + 65536 * d2 + 16777216 * d3
  | _ => 0
theorem or_i64 (s : Nat) (P : Int) (hP : (2 : Int) ^ s = P) (acc d : Int) (h0 : 0 ≤ acc) (h1 : acc < P) (hd0 : 0 ≤ d) (hd1 : d < 256) (hq : P ≤ 16777216) : Go.bits .or .i64 acc (wrap64 (wrap64 d * P)) = acc + P * d := by
  have e63 : (2 : Int) ^ 63 = 9223372036854775808 := by decide
  have hp : 0 < P := by omega
  have hm0 : 0 ≤ d * P := Int.mul_nonneg hd0 (Int.le_of_lt hp)
  have hm1 : d * P ≤ 255 * 16777216 := Int.le_trans (Int.mul_le_mul_of_nonneg_right (show d ≤ 255 by omega) (Int.le_of_lt hp)) (Int.mul_le_mul_of_nonneg_left hq (by decide))
  have e1 : wrap64 d = d := by unfold wrap64; omega
  rw [e1]
  have e2 : wrap64 (d * P) = d * P := by unfold wrap64; omega
  rw [e2, or_swap]
  have := bits_join .i64 63 (by decide) (fun n a b => i64_wrap n (by omega) (by rw [e63] at b; exact b)) s (d * P) acc hm0 (by rw [← hP]; exact Int.mul_emod_left _ _) (by rw [e63]; omega) h0 (by rw [hP]; exact h1) (by rw [e63]; omega)
  rw [this, Int.mul_comm]; omega
theorem rd_drop (b : List Int) (at_ n : Nat) : rd b ((at_ : Int) + (n : Int)) = (b.drop at_).getD n 0 := by
  unfold rd
  rw [show ((at_ : Int) + (n : Int)).toNat = at_ + n by omega, List.getD_eq_getElem?_getD, List.getD_eq_getElem?_getD, List.getElem?_drop]
theorem word_at (b : List Int) (hb : IsB b) (at_ : Nat) (h : at_ + 4 ≤ b.length) : wordAt b (at_ : Int) 4 = word4 (b.drop at_) := by
  have hd := hb.drop at_
  have hl : 4 ≤ (b.drop at_).length := by rw [List.length_drop]; omega
  simp only [wordAt, rd_drop]
  generalize b.drop at_ = L at hd hl
  match L, hl with
  | d0 :: d1 :: d2 :: d3 :: L, _ =>
    obtain ⟨a0, b0⟩ := hd d0 (by simp)
    obtain ⟨a1, b1⟩ := hd d1 (by simp)
    obtain ⟨a2, b2⟩ := hd d2 (by simp)
    obtain ⟨a3, b3⟩ := hd d3 (by simp)
    simp only [List.getD_cons_zero, List.getD_cons_succ, word4]
    have e0 : Go.bits .or .i64 0 (wrap64 (wrap64 d0 * 2 ^ (8 * 0))) = 0 + 1 * d0 := or_i64 (8 * 0) 1 (by decide) 0 d0 (by omega) (by omega) a0 b0 (by omega)
    rw [e0]
    have e1 : Go.bits .or .i64 (0 + 1 * d0) (wrap64 (wrap64 d1 * 2 ^ (8 * 1))) = (0 + 1 * d0) + 256 * d1 := or_i64 (8 * 1) 256 (by decide) _ d1 (by omega) (by omega) a1 b1 (by omega)
    rw [e1]
    have e2 : Go.bits .or .i64 ((0 + 1 * d0) + 256 * d1) (wrap64 (wrap64 d2 * 2 ^ (8 * 2))) = ((0 + 1 * d0) + 256 * d1) + 65536 * d2 := or_i64 (8 * 2) 65536 (by decide) _ d2 (by omega) (by omega) a2 b2 (by omega)
    rw [e2]
    have e3 : Go.bits .or .i64 (((0 + 1 * d0) + 256 * d1) + 65536 * d2) (wrap64 (wrap64 d3 * 2 ^ (8 * 3))) = (((0 + 1 * d0) + 256 * d1) + 65536 * d2) + 16777216 * d3 := or_i64 (8 * 3) 16777216 (by decide) _ d3 (by omega) (by omega) a3 b3 (by omega)
    rw [e3]
    omega
def rfV (kind : Int) (L : List Int) : S29 × Int × Nat :=
  if kind = 1 then (⟨1, wrap64 (ngm 9223372036854775807 L).1, ⟨#[]⟩, false⟩, (ngm 9223372036854775807 L).2.1, (ngm 9223372036854775807 L).2.2)
  else if kind = 2 then (⟨2, unzag (ngm 18446744073709551615 L).1, ⟨#[]⟩, false⟩, (ngm 18446744073709551615 L).2.1, (ngm 18446744073709551615 L).2.2)
  else if kind = 3 then (if 4 ≤ L.length then (⟨3, word4 L, ⟨#[]⟩, false⟩, 0, 4) else (⟨3, 0, ⟨#[]⟩, false⟩, 11, 0))
  else if kind = 4 then (if (ngm 9223372036854775807 L).2.1 = 0 then
      (if ((ngm 9223372036854775807 L).2.2 : Int) + (ngm 9223372036854775807 L).1 > (L.length : Int) then (⟨4, 0, ⟨#[]⟩, false⟩, 11, (ngm 9223372036854775807 L).2.2)
        else (⟨4, 0, strOfNums ((L.drop (ngm 9223372036854775807 L).2.2).take (ngm 9223372036854775807 L).1.toNat), false⟩, 0, (ngm 9223372036854775807 L).2.2 + (ngm 9223372036854775807 L).1.toNat))
      else (⟨4, 0, ⟨#[]⟩, false⟩, (ngm 9223372036854775807 L).2.1, (ngm 9223372036854775807 L).2.2))
  else if kind = 5 then (if 1 ≤ L.length then (if L.headD 0 > 1 then (⟨5, 0, ⟨#[]⟩, false⟩, 10, 0) else (⟨5, 0, ⟨#[]⟩, L.headD 0 == 1⟩, 0, 1)) else (⟨5, 0, ⟨#[]⟩, false⟩, 11, 0))
  else (⟨kind, 0, ⟨#[]⟩, false⟩, 27, 0)
def at3 (at_ : Nat) (r : S29 × Int × Nat) : S29 × Int × Int := (r.1, r.2.1, ((at_ + r.2.2 : Nat) : Int))
theorem cut_eq (b : List Int) (at_ n x : Nat) : (b.take (at_ + n + x)).drop (at_ + n) = ((b.drop at_).drop n).take x := by
  rw [List.drop_take, List.drop_drop, show at_ + n + x - (at_ + n) = x by omega]
theorem field_ev (b : List Int) (hb : IsB b) (hl : b.length < 9223372036854775807) (at_ : Nat) (h : at_ ≤ b.length) (kind : Int) : Ev (fun k => code_cursor_field.f k b (at_ : Int) kind) (at3 at_ (rfV kind (b.drop at_))) := by
  have hlen : (b.drop at_).length = b.length - at_ := List.length_drop
  have hnum := fun limit => num_ev b hb hl limit at_ h
  simp only [numR_eq] at hnum
  refine Ev.congr (fun k => by unfold code_cursor_field.f; rw [if_pos ⟨by omega, by omega⟩]) ?_
  unfold rfV
  by_cases h1 : kind = 1
  · rw [if_pos h1]
    exact Ev.congr (fun k => by rw [if_pos h1]) (Ev.bind (hnum _) (Ev.now _))
  rw [if_neg h1]
  by_cases h2 : kind = 2
  · rw [if_pos h2]
    exact Ev.congr (fun k => by rw [if_neg h1, if_pos h2]) (Ev.bind (hnum _) (Ev.now _))
  rw [if_neg h2]
  by_cases h3 : kind = 3
  · rw [if_pos h3]
    refine Ev.congr (f := fun _ => some (at3 at_ (if 4 ≤ (b.drop at_).length then (⟨3, word4 (b.drop at_), ⟨#[]⟩, false⟩, 0, 4) else (⟨3, 0, ⟨#[]⟩, false⟩, 11, 0)))) (fun k => ?_) (Ev.now _)
    rw [if_neg h1, if_neg h2, if_pos h3]
    by_cases hc : at_ + 4 ≤ b.length
    · rw [if_pos (by omega), if_pos (by omega), word_at b hb at_ hc]
      rfl
    · rw [if_neg (by omega), if_neg (by omega)]
      rfl
  rw [if_neg h3]
  by_cases h4 : kind = 4
  · rw [if_pos h4]
    refine Ev.congr (fun k => by rw [if_neg h1, if_neg h2, if_neg h3, if_pos h4]) (Ev.bind (hnum 9223372036854775807) ?_)
    have ht := ngm_taken 9223372036854775807 (b.drop at_)
    have hr := ngm_read 9223372036854775807 (b.drop at_) (hb.drop at_)
    generalize ngm 9223372036854775807 (b.drop at_) = r at ht hr
    obtain ⟨x, e, n⟩ := r
    simp only at ht hr ⊢
    by_cases he : e = 0
    · obtain ⟨r0, r1, _, _⟩ := hr he
      obtain ⟨y, rfl⟩ := Int.eq_ofNat_of_zero_le r0
      simp only [if_pos he]
      refine Ev.congr (fun k => by rw [if_pos ⟨by omega, by omega, by omega, r1⟩]) ?_
      by_cases hc : (n : Int) + (y : Int) > ((b.drop at_).length : Int)
      · rw [if_pos hc]
        exact Ev.congr (fun k => by rw [if_pos (by omega)]; rfl) (Ev.now _)
      · rw [if_neg hc]
        refine Ev.congr (fun k => ?_) (Ev.now _)
        rw [if_neg (by omega), show (((at_ + n : Nat) : Int) + (y : Int)).toNat = at_ + n + y by omega, show ((at_ + n : Nat) : Int).toNat = at_ + n by omega, cut_eq]
        unfold at3
        rw [show (y : Int).toNat = y by omega, show ((at_ + n : Nat) : Int) + (y : Int) = ((at_ + (n + y) : Nat) : Int) by omega]
    · simp only [if_neg he]
      exact Ev.now _
  rw [if_neg h4]
  have hh : rd b (at_ : Int) = (b.drop at_).headD 0 := by
    have := rd_drop b at_ 0
    rw [show (at_ : Int) + ((0 : Nat) : Int) = (at_ : Int) by omega] at this
    rw [this]
    cases b.drop at_ <;> rfl
  refine Ev.congr (f := fun _ => some (at3 at_ (if kind = 5 then (if 1 ≤ (b.drop at_).length then (if (b.drop at_).headD 0 > 1 then (⟨5, 0, ⟨#[]⟩, false⟩, 10, 0) else (⟨5, 0, ⟨#[]⟩, (b.drop at_).headD 0 == 1⟩, 0, 1)) else (⟨5, 0, ⟨#[]⟩, false⟩, 11, 0)) else (⟨kind, 0, ⟨#[]⟩, false⟩, 27, 0)))) (fun k => ?_) (Ev.now _)
  rw [if_neg h1, if_neg h2, if_neg h3, if_neg h4, hh]
  generalize (b.drop at_).headD 0 = d
  by_cases h5 : kind = 5
  · simp only [if_pos h5]
    by_cases hc : at_ < b.length
    · rw [if_pos (show (at_ : Int) < (b.length : Int) by omega), if_pos (show 1 ≤ (b.drop at_).length by omega)]
      by_cases hd : d > 1
      · simp only [if_pos hd]; rfl
      · simp only [if_neg hd]; rfl
    · rw [if_neg (show ¬ (at_ : Int) < (b.length : Int) by omega), if_neg (show ¬ 1 ≤ (b.drop at_).length by omega)]; rfl
  · simp only [if_neg h5]; rfl
end Go.Proofs.YtcheinjlgojepaaDoor.Pure
namespace Go.Proofs.YtcheinjlgojepaaDoor.Pure
open Go.RowKit Go.Proofs.YtcheinjlgojepaaDoor.P Go.Proofs.YtcheinjlgojepaaDoorW.PrintWords Go.Proofs.YtcheinjlgojepaaDoorW.PrintLast Go.Proofs.YtcheinjlgojepaaDoorW.PrintMore
set_option linter.unusedVariables false
set_option linter.unusedSimpArgs false
theorem strOf_bytes (s : ByteArray) : strOfNums (bytesOf s) = s := by
  obtain ⟨⟨l⟩⟩ := s
  unfold strOfNums bytesOf
  simp only [List.map_map]
  have : ((fun n => UInt8.ofNat n.toNat) ∘ fun b : UInt8 => (b.toNat : Int)) = id := by funext b; simp
  rw [this, List.map_id]
theorem strOf_size (l : List Int) : (strOfNums l).size = l.length := by simp [strOfNums, ByteArray.size]
theorem bytes_strOf (l : List Int) (h : IsB l) : bytesOf (strOfNums l) = l := by
  unfold strOfNums bytesOf
  simp only [List.map_map]
  refine (List.map_congr_left (g := id) (fun n hn => ?_)).trans (List.map_id l)
  obtain ⟨h0, h1⟩ := h n hn
  simp only [Function.comp, UInt8.toNat_ofNat', id]
  omega
theorem bytes_isB (s : ByteArray) : IsB (bytesOf s) := by
  intro n hn
  unfold bytesOf at hn
  obtain ⟨b, _, rfl⟩ := List.mem_map.1 hn
  have := b.toNat_lt
  exact ⟨by omega, by omega⟩
theorem e_beq : ((⟨#[]⟩ : ByteArray).toList == ([] : List UInt8)) = true := by rw [empty_toList]; rfl
theorem fit1 (n : Int) (h : 0 ≤ n) : fitV ⟨1, n, ⟨#[]⟩, false⟩ = true := by
  unfold fitV
  simp only [if_true]
  have : (n == mx n 0) = true := by unfold mx; rw [beq_iff_eq]; split <;> omega
  rw [this, e_beq]; rfl
theorem fit2 (n : Int) : fitV ⟨2, n, ⟨#[]⟩, false⟩ = true := by
  unfold fitV
  simp only [if_true]
  rw [if_neg (by decide), e_beq]; rfl
theorem fit3 (n : Int) (h : 0 ≤ n) (h1 : n ≤ 4294967295) : fitV ⟨3, n, ⟨#[]⟩, false⟩ = true := by
  unfold fitV
  simp only [if_true]
  have : (n == mn (mx n 0) 4294967295) = true := by unfold mx mn; rw [beq_iff_eq]; repeat' split <;> omega
  rw [if_neg (by decide), if_neg (by decide), this, e_beq]; rfl
theorem fit4 (s : ByteArray) : fitV ⟨4, 0, s, false⟩ = true := by
  unfold fitV
  simp only [if_true]
  rw [if_neg (by decide), if_neg (by decide), if_neg (by decide)]; rfl
theorem fit5 (t : Bool) : fitV ⟨5, 0, ⟨#[]⟩, t⟩ = true := by
  unfold fitV
  simp only [if_true]
  rw [if_neg (by decide), if_neg (by decide), if_neg (by decide), if_neg (by decide), e_beq]; rfl
theorem wr1 (n : Int) (h0 : 0 ≤ n) (h1 : n < 9223372036854775808) : wr ⟨1, n, ⟨#[]⟩, false⟩ = numL 9 n := by
  unfold wr
  simp only [if_true]
  rw [u64_wrap n h0 (by omega)]
theorem wr2 (n : Int) : wr ⟨2, n, ⟨#[]⟩, false⟩ = numL 9 (zigV n) := by
  unfold wr
  simp only [if_true]
  rw [if_neg (by decide)]
theorem wr3 (n : Int) : wr ⟨3, n, ⟨#[]⟩, false⟩ = [n % 256, (n / 256) % 256, (n / 65536) % 256, (n / 16777216) % 256] := by
  unfold wr
  simp only [if_true]
  rw [if_neg (by decide), if_neg (by decide)]
theorem wr4 (s : ByteArray) : wr ⟨4, 0, s, false⟩ = numL 9 (s.size : Int) ++ bytesOf s := by
  unfold wr
  simp only [if_true]
  rw [if_neg (by decide), if_neg (by decide), if_neg (by decide)]
theorem wr5 (t : Bool) : wr ⟨5, 0, ⟨#[]⟩, t⟩ = [if t = true then 1 else 0] := by
  unfold wr
  simp only
  rw [if_neg (by decide), if_neg (by decide), if_neg (by decide), if_neg (by decide)]
  split <;> rfl
theorem rf1 (L : List Int) : rfV 1 L = (⟨1, wrap64 (ngm 9223372036854775807 L).1, ⟨#[]⟩, false⟩, (ngm 9223372036854775807 L).2.1, (ngm 9223372036854775807 L).2.2) := if_pos rfl
theorem rf2 (L : List Int) : rfV 2 L = (⟨2, unzag (ngm 18446744073709551615 L).1, ⟨#[]⟩, false⟩, (ngm 18446744073709551615 L).2.1, (ngm 18446744073709551615 L).2.2) := by
  unfold rfV
  rw [if_neg (by decide), if_pos rfl]
theorem rf3 (L : List Int) : rfV 3 L = (if 4 ≤ L.length then (⟨3, word4 L, ⟨#[]⟩, false⟩, 0, 4) else (⟨3, 0, ⟨#[]⟩, false⟩, 11, 0)) := by
  unfold rfV
  rw [if_neg (by decide), if_neg (by decide), if_pos rfl]
theorem rf4 (L : List Int) : rfV 4 L = (if (ngm 9223372036854775807 L).2.1 = 0 then
      (if ((ngm 9223372036854775807 L).2.2 : Int) + (ngm 9223372036854775807 L).1 > (L.length : Int) then (⟨4, 0, ⟨#[]⟩, false⟩, 11, (ngm 9223372036854775807 L).2.2)
        else (⟨4, 0, strOfNums ((L.drop (ngm 9223372036854775807 L).2.2).take (ngm 9223372036854775807 L).1.toNat), false⟩, 0, (ngm 9223372036854775807 L).2.2 + (ngm 9223372036854775807 L).1.toNat))
      else (⟨4, 0, ⟨#[]⟩, false⟩, (ngm 9223372036854775807 L).2.1, (ngm 9223372036854775807 L).2.2)) := by
  unfold rfV
  rw [if_neg (by decide), if_neg (by decide), if_neg (by decide), if_pos rfl]
theorem rf5 (L : List Int) : rfV 5 L = (if 1 ≤ L.length then (if L.headD 0 > 1 then (⟨5, 0, ⟨#[]⟩, false⟩, 10, 0) else (⟨5, 0, ⟨#[]⟩, L.headD 0 == 1⟩, 0, 1)) else (⟨5, 0, ⟨#[]⟩, false⟩, 11, 0)) := by
  unfold rfV
  rw [if_neg (by decide), if_neg (by decide), if_neg (by decide), if_neg (by decide), if_pos rfl]
theorem g29_of (k n : Int) (s : ByteArray) (t : Bool) (hk : (Lit.int .i64 k).wf = true) (hn : -9223372036854775808 ≤ n ∧ n ≤ 9223372036854775807) (hs : s.size ≤ 140737488351232) : G29 ⟨k, n, s, t⟩ := ⟨hk, WalkArith.wf_i64 hn, hs, trivial⟩
theorem e_size : (⟨#[]⟩ : ByteArray).size ≤ 140737488351232 := Nat.zero_le _
theorem rf_read (kind : Int) (L : List Int) (hL : IsB L) (hl : L.length ≤ 140737488351232) (he : (rfV kind L).2.1 = 0) :
    fitV (rfV kind L).1 = true ∧ G29 (rfV kind L).1 ∧ wr (rfV kind L).1 = L.take (rfV kind L).2.2 ∧ (rfV kind L).2.2 ≤ L.length ∧ (rfV kind L).1.f2.size ≤ (rfV kind L).2.2 := by
  have w0 : (Lit.int .i64 0).wf = true := by decide
  by_cases h1 : kind = 1
  · subst h1
    rw [rf1] at he ⊢
    simp only at he ⊢
    obtain ⟨r0, r1, _, r3⟩ := ngm_read _ L hL he
    have ht := ngm_taken 9223372036854775807 L
    rw [show wrap64 (ngm 9223372036854775807 L).1 = (ngm 9223372036854775807 L).1 by unfold wrap64; omega]
    refine ⟨fit1 _ r0, g29_of _ _ _ _ (by decide) (by omega) e_size, ?_, ht, Nat.zero_le _⟩
    rw [wr1 _ r0 (by omega), r3]
  by_cases h2 : kind = 2
  · subst h2
    rw [rf2] at he ⊢
    simp only at he ⊢
    obtain ⟨r0, r1, r2, r3⟩ := ngm_read _ L hL he
    have ht := ngm_taken 18446744073709551615 L
    obtain ⟨z0, z1, z2⟩ := zig_unzag _ r0 r2
    refine ⟨fit2 _, g29_of _ _ _ _ (by decide) (by omega) e_size, ?_, ht, Nat.zero_le _⟩
    rw [wr2, z0, r3]
  by_cases h3 : kind = 3
  · subst h3
    rw [rf3] at he ⊢
    by_cases hc : 4 ≤ L.length
    · rw [if_pos hc]
      match L, hc, hL with
      | d0 :: d1 :: d2 :: d3 :: L, hc, hL =>
        obtain ⟨a0, b0⟩ := hL d0 (by simp)
        obtain ⟨a1, b1⟩ := hL d1 (by simp)
        obtain ⟨a2, b2⟩ := hL d2 (by simp)
        obtain ⟨a3, b3⟩ := hL d3 (by simp)
        simp only [word4]
        refine ⟨fit3 _ (by omega) (by omega), g29_of _ _ _ _ (by decide) (by omega) e_size, ?_, hc, Nat.zero_le _⟩
        rw [wr3]
        simp only [List.take_succ_cons, List.take_zero, List.cons.injEq, and_true]
        refine ⟨by omega, by omega, by omega, by omega⟩
    · rw [if_neg hc] at he; exact absurd (show (11 : Int) = 0 from he) (by decide)
  by_cases h4 : kind = 4
  · subst h4
    rw [rf4] at he ⊢
    have ht := ngm_taken 9223372036854775807 L
    have hr := ngm_read 9223372036854775807 L hL
    generalize ngm 9223372036854775807 L = r at he ht hr
    obtain ⟨x, e, n⟩ := r
    simp only at he ht hr ⊢
    by_cases h0 : e = 0
    · obtain ⟨r0, r1, r2, r3⟩ := hr h0
      obtain ⟨y, rfl⟩ := Int.eq_ofNat_of_zero_le r0
      rw [if_pos h0] at he ⊢
      by_cases hc : (n : Int) + (y : Int) > (L.length : Int)
      · rw [if_pos hc] at he; exact absurd (show (11 : Int) = 0 from he) (by decide)
      · rw [if_neg hc]
        simp only [Int.toNat_natCast]
        have hlen : ((L.drop n).take y).length = y := by rw [List.length_take, List.length_drop]; omega
        have hsz : (strOfNums ((L.drop n).take y)).size = y := by rw [strOf_size, hlen]
        refine ⟨fit4 _, g29_of _ _ _ _ (by decide) (by omega) (by omega), ?_, by omega, by rw [hsz]; omega⟩
        rw [wr4, hsz, bytes_strOf _ ((hL.drop n).take y), ← r3, List.take_add]
    · rw [if_neg h0] at he; exact absurd he h0
  by_cases h5 : kind = 5
  · subst h5
    rw [rf5] at he ⊢
    cases L with
    | nil => exact absurd (show (11 : Int) = 0 from he) (by decide)
    | cons d L =>
      obtain ⟨a0, b0⟩ := hL d (by simp)
      have hh : (d :: L).headD 0 = d := rfl
      have hk1 : 1 ≤ (d :: L).length := by simp
      rw [if_pos hk1] at he ⊢
      by_cases hd : (d :: L).headD 0 > 1
      · rw [if_pos hd] at he; exact absurd (show (10 : Int) = 0 from he) (by decide)
      · rw [if_neg hd, hh]
        rw [hh] at hd
        refine ⟨fit5 _, g29_of _ _ _ _ (by decide) (by omega) e_size, ?_, hk1, Nat.zero_le _⟩
        rw [wr5]
        simp only [List.take_succ_cons, List.take_zero, List.cons.injEq, and_true, beq_iff_eq]
        split <;> omega
  · unfold rfV at he
    rw [if_neg h1, if_neg h2, if_neg h3, if_neg h4, if_neg h5] at he
    exact absurd (show (27 : Int) = 0 from he) (by decide)
end Go.Proofs.YtcheinjlgojepaaDoor.Pure
namespace Go.Proofs.YtcheinjlgojepaaDoor.Pure
open Go.RowKit Go.Proofs.YtcheinjlgojepaaDoor.P Go.Proofs.YtcheinjlgojepaaDoorW.PrintWords Go.Proofs.YtcheinjlgojepaaDoorW.PrintLast Go.Proofs.YtcheinjlgojepaaDoorW.PrintMore
set_option linter.unusedVariables false
set_option linter.unusedSimpArgs false
theorem rf_taken (kind : Int) (L : List Int) : (rfV kind L).2.2 ≤ L.length := by
  have h1 := ngm_taken 9223372036854775807 L
  have h2 := ngm_taken 18446744073709551615 L
  unfold rfV
  split
  · exact h1
  split
  · exact h2
  split
  · split
    · next h => exact h
    · exact Nat.zero_le _
  split
  · split
    · split
      · exact h1
      · next h => simp only; omega
    · exact h1
  split
  · split
    · next h =>
      split
      · exact Nat.zero_le _
      · exact h
    · exact Nat.zero_le _
  · exact Nat.zero_le _
def rsV : List Int → List Int → List (S29 × Int) × Nat
  | [], _ => ([], 0)
  | kd :: ks, L => if (rfV kd L).2.1 = 0 then (((rfV kd L).1, 0) :: (rsV ks (L.drop (rfV kd L).2.2)).1, (rfV kd L).2.2 + (rsV ks (L.drop (rfV kd L).2.2)).2) else ([((rfV kd L).1, (rfV kd L).2.1)], (rfV kd L).2.2)
theorem emits_ev (b : List Int) (hb : IsB b) (hl : b.length < 9223372036854775807) : ∀ (ks : List Int) (at_ : Nat), at_ ≤ b.length → Ev (fun k => emits k b ks (at_ : Int)) ((rsV ks (b.drop at_)).1, ((at_ + (rsV ks (b.drop at_)).2 : Nat) : Int))
  | [], at_, h => by
    refine Ev.congr (fun k => by rw [emits]) ?_
    exact Ev.now _
  | kd :: ks, at_, h => by
    refine Ev.congr (fun k => by rw [emits]) (Ev.bind (field_ev b hb hl at_ h kd) ?_)
    have ht := rf_taken kd (b.drop at_)
    rw [List.length_drop] at ht
    have hr := emits_ev b hb hl ks (at_ + (rfV kd (b.drop at_)).2.2) (by omega)
    rw [← List.drop_drop] at hr
    rw [rsV]
    unfold at3
    simp only
    by_cases he : (rfV kd (b.drop at_)).2.1 = 0
    · rw [if_pos he]
      refine Ev.congr (fun k => by rw [if_pos he, Option.map_eq_bind]) (Ev.bind hr ?_)
      simp only [Nat.add_assoc]
      exact Ev.now _
    · rw [if_neg he]
      exact Ev.congr (fun k => by rw [if_neg he]) (Ev.now _)
def rdV (ks b : List Int) : List S29 × Int × Int := if errOf (rsV ks b).1 = 0 then ((rsV ks b).1.map Prod.fst, ((rsV ks b).2 : Int), 0) else ([], 0, errOf (rsV ks b).1)
theorem read_ev (b : List Int) (hb : IsB b) (hl : b.length < 9223372036854775807) (ks : List Int) (hk : ks.length < 3518437208883) : Ev (fun k => code_Read.f k b ks) (rdV ks b) := by
  have h := emits_ev b hb hl ks 0 (Nat.zero_le _)
  rw [List.drop_zero, Nat.zero_add] at h
  have h' : Ev (fun k => emits k b ks 0) ((rsV ks b).1, ((rsV ks b).2 : Int)) := h
  refine Ev.congr (fun k => by unfold code_Read.f; rw [if_pos hk]) (Ev.bind h' ?_)
  unfold rdV
  simp only
  by_cases he : errOf (rsV ks b).1 = 0
  · simp only [if_pos he]
    exact Ev.now _
  · simp only [if_neg he]
    exact Ev.now _
theorem errOf_cons (f : S29) (T : List (S29 × Int)) : errOf ((f, 0) :: T) = errOf T := by
  cases T with
  | nil => rfl
  | cons x T => unfold errOf; rw [List.getLast?_cons_cons]
theorem rs_read : ∀ (ks L : List Int), IsB L → L.length ≤ 140737488351232 → errOf (rsV ks L).1 = 0 →
    ((rsV ks L).1.map Prod.fst).all fitV = true ∧ (∀ f ∈ (rsV ks L).1.map Prod.fst, G29 f) ∧ ((rsV ks L).1.map Prod.fst).flatMap wr = L.take (rsV ks L).2 ∧ (rsV ks L).2 ≤ L.length ∧ ((rsV ks L).1.map Prod.fst).length = ks.length ∧ wt ((rsV ks L).1.map Prod.fst) ≤ 10 * ks.length + (rsV ks L).2
  | [], L, _, _, _ => ⟨rfl, fun f hf => (by cases hf), rfl, Nat.zero_le _, rfl, Nat.le_refl _⟩
  | kd :: ks, L, hL, hl, he => by
    rw [rsV] at he ⊢
    by_cases h0 : (rfV kd L).2.1 = 0
    · rw [if_pos h0] at he ⊢
      simp only at he ⊢
      rw [errOf_cons] at he
      obtain ⟨f1, f2, f3, f4, f5⟩ := rf_read kd L hL hl h0
      obtain ⟨i1, i2, i3, i4, i5, i6⟩ := rs_read ks (L.drop (rfV kd L).2.2) (hL.drop _) (by rw [List.length_drop]; omega) he
      rw [List.length_drop] at i4
      refine ⟨?_, ?_, ?_, by omega, ?_, ?_⟩
      · rw [List.map_cons, List.all_cons, f1, i1]; rfl
      · intro f hf
        rw [List.map_cons] at hf
        rcases List.mem_cons.1 hf with rfl | hf
        · exact f2
        · exact i2 f hf
      · rw [List.map_cons, List.flatMap_cons, i3, f3, ← List.take_add]
      · rw [List.map_cons, List.length_cons, List.length_cons, i5]
      · unfold wt at i6 ⊢
        rw [List.map_cons, List.map_cons, List.sum_cons, List.length_cons]
        show 10 + (rfV kd L).1.f2.size + _ ≤ _
        omega
    · rw [if_neg h0] at he
      exact absurd he h0
theorem rd_read (ks L : List Int) (hL : IsB L) (hl : L.length ≤ 140737488351232) (he : (rdV ks L).2.2 = 0) :
    ∃ n : Nat, (rdV ks L).2.1 = (n : Int) ∧ n ≤ L.length ∧ (rdV ks L).1.all fitV = true ∧ (∀ f ∈ (rdV ks L).1, G29 f) ∧ (rdV ks L).1.flatMap wr = L.take n ∧ (rdV ks L).1.length = ks.length ∧ wt (rdV ks L).1 ≤ 10 * ks.length + n := by
  unfold rdV at he ⊢
  by_cases h0 : errOf (rsV ks L).1 = 0
  · rw [if_pos h0]
    obtain ⟨i1, i2, i3, i4, i5, i6⟩ := rs_read ks L hL hl h0
    exact ⟨(rsV ks L).2, rfl, i4, i1, i2, i3, i5, i6⟩
  · rw [if_neg h0] at he
    exact absurd he h0
end Go.Proofs.YtcheinjlgojepaaDoor.Pure
namespace Go.Proofs.YtcheinjlgojepaaDoor.Pure
open Go.RowKit Go.Proofs.YtcheinjlgojepaaDoor.P Go.Proofs.YtcheinjlgojepaaDoorW.PrintWords Go.Proofs.YtcheinjlgojepaaDoorW.PrintLast Go.Proofs.YtcheinjlgojepaaDoorW.PrintMore
set_option linter.unusedVariables false
set_option linter.unusedSimpArgs false
theorem xtop (y : Nat) (h : y < 9223372036854775808) : y ^^^ 9223372036854775808 = y + 9223372036854775808 := by
  apply Nat.eq_of_testBit_eq
  intro i
  have e : 9223372036854775808 = 2 ^ 63 := by decide
  rw [Nat.testBit_xor, e, Nat.testBit_two_pow, Nat.add_comm]
  rw [e] at h
  rcases Nat.lt_trichotomy i 63 with h1 | h1 | h1
  · rw [Nat.testBit_two_pow_add_gt h1, decide_eq_false (by omega), Bool.xor_false]
  · subst h1
    rw [Nat.testBit_two_pow_add_eq, Nat.testBit_lt_two_pow h]; rfl
  · have hp : 2 ^ 64 ≤ 2 ^ i := Nat.pow_le_pow_right (by decide) h1
    rw [decide_eq_false (by omega), Bool.xor_false, Nat.testBit_lt_two_pow (Nat.lt_of_lt_of_le (by omega) hp), Nat.testBit_lt_two_pow (Nat.lt_of_lt_of_le (by omega) hp)]
theorem xtop2 (y : Nat) (h0 : 9223372036854775808 ≤ y) (h : y < 18446744073709551616) : y ^^^ 9223372036854775808 = y - 9223372036854775808 := by
  have := xtop (y - 9223372036854775808) (by omega)
  rw [Nat.sub_add_cancel h0] at this
  have h2 := congrArg (· ^^^ 9223372036854775808) this
  simp only [Nat.xor_assoc, Nat.xor_self, Nat.xor_zero] at h2
  exact h2.symm
def be (acc : Int) : List Int → Int
  | [] => acc
  | d :: L => be (acc * 256 + d) L
theorem be_bound : ∀ (L : List Int) (acc : Int) (n : Nat), IsB L → 0 ≤ acc → acc < 256 ^ n → 0 ≤ be acc L ∧ be acc L < 256 ^ (n + L.length)
  | [], acc, n, _, h0, h1 => ⟨h0, h1⟩
  | d :: L, acc, n, hL, h0, h1 => by
    obtain ⟨d0, d1⟩ := hL d (by simp)
    have := be_bound L (acc * 256 + d) (n + 1) (fun x hx => hL x (List.mem_cons_of_mem _ hx)) (by omega) (by rw [Int.pow_succ]; omega)
    rw [show n + 1 + L.length = n + (d :: L).length by rw [List.length_cons]; omega] at this
    exact this
theorem join8 (acc d : Int) (h0 : 0 ≤ acc) (h1 : acc < 72057594037927936) (d0 : 0 ≤ d) (d1 : d < 256) : Go.bits .or .u64 (IntKind.u64.wrap (acc * 256)) (IntKind.u64.wrap d) = acc * 256 + d := by
  have e64 : (2 : Int) ^ 64 = 18446744073709551616 := by decide
  rw [u64_wrap (acc * 256) (by omega) (by omega), u64_wrap d d0 (by omega)]
  exact bits_join .u64 64 (by decide) wraps_u64 8 (acc * 256) d (by omega) (by have : (2 : Int) ^ 8 = 256 := by decide
                                                                               rw [this]; omega) (by rw [e64]; omega) d0 (by have : (2 : Int) ^ 8 = 256 := by decide
                                                                                                                             rw [this]; exact d1) (by rw [e64]; omega)
theorem p256 (i : Nat) (h : i ≤ 7) : (256 : Int) ^ i ≤ 72057594037927936 := by
  have : i = 0 ∨ i = 1 ∨ i = 2 ∨ i = 3 ∨ i = 4 ∨ i = 5 ∨ i = 6 ∨ i = 7 := by omega
  rcases this with rfl | rfl | rfl | rfl | rfl | rfl | rfl | rfl <;> decide
theorem kn_loop (l1 b : List Int) (hl : IsB l1) (h8 : l1.length = 8) (at_ : Int) : ∀ (n i : Nat) (acc : Int), i + n = 8 → 0 ≤ acc → acc < 256 ^ i →
    Ev (fun k => code_cursor_keyNumber.l0 k acc l1 (l1.length : Int) (i : Int) b at_) (be acc (l1.drop i), true, wrap64 (at_ + 8)) := by
  intro n
  induction n with
  | zero =>
    intro i acc hi h0 h1
    rw [List.drop_of_length_le (by omega)]
    refine Ev.step (f := fun _ => some (acc, true, wrap64 (at_ + 8))) (fun k => ?_) (Ev.now _)
    simp only [code_cursor_keyNumber.l0]
    rw [if_neg (by omega)]
  | succ n ih =>
    intro i acc hi h0 h1
    have hil : i < l1.length := by omega
    obtain ⟨d0, d1⟩ := hl.at i hil
    have hp := p256 i (by omega)
    have hj := join8 acc l1[i] h0 (by omega) d0 d1
    have hw := wrap_s i (by omega)
    rw [List.drop_eq_getElem_cons hil, be]
    refine Ev.step (fun k => ?_) (ih (i + 1) (acc * 256 + l1[i]) (by omega) (by omega) (by rw [Int.pow_succ]; omega))
    simp only [code_cursor_keyNumber.l0]
    rw [if_pos (by omega), if_pos (by omega), if_pos (by omega), rd_b l1 i hil, hj, hw]
def knV (L : List Int) : Int × Bool × Nat := if 8 ≤ L.length then (be 0 (L.take 8), true, 8) else (0, false, 0)
theorem keyNumber_ev (b : List Int) (hb : IsB b) (hl : b.length < 9223372036854775807) (at_ : Nat) (h : at_ ≤ b.length) : Ev (fun k => code_cursor_keyNumber.f k b (at_ : Int)) ((knV (b.drop at_)).1, (knV (b.drop at_)).2.1, ((at_ + (knV (b.drop at_)).2.2 : Nat) : Int)) := by
  have hle := left_eq b (at_ : Int) 8 (by omega) (by omega) (by omega)
  refine Ev.congr (fun k => by unfold code_cursor_keyNumber.f; rw [if_pos ⟨by omega, by omega⟩, hle, Option.bind_some]) ?_
  have hdl : (b.drop at_).length = b.length - at_ := List.length_drop
  unfold knV
  rw [hdl]
  by_cases hc : 8 ≤ b.length - at_
  · rw [if_pos hc]
    have ht : decide (8 ≤ (b.length : Int) - (at_ : Int)) = true := decide_eq_true (by omega)
    have hcut : (b.take ((at_ : Int) + 8).toNat).drop ((at_ : Int)).toNat = (b.drop at_).take 8 := by
      rw [show ((at_ : Int) + 8).toNat = at_ + 8 by omega, show ((at_ : Int)).toNat = at_ by omega, List.drop_take, show at_ + 8 - at_ = 8 by omega]
    have h8 : ((b.drop at_).take 8).length = 8 := by rw [List.length_take, List.length_drop]; omega
    have := kn_loop ((b.drop at_).take 8) b ((hb.drop at_).take 8) h8 (at_ : Int) 8 0 0 rfl (Int.le_refl _) (by decide)
    rw [List.drop_zero] at this
    have hw : wrap64 ((at_ : Int) + 8) = ((at_ + 8 : Nat) : Int) := by unfold wrap64; omega
    rw [hw] at this
    exact Ev.congr (fun k => by rw [if_pos ht, hcut]; rfl) this
  · rw [if_neg hc]
    have hf : decide (8 ≤ (b.length : Int) - (at_ : Int)) = false := decide_eq_false (by omega)
    exact Ev.congr (fun k => by rw [hf]; exact if_neg Bool.false_ne_true) (Ev.now _)
theorem high_be (L : List Int) (hL : IsB L) (h : 8 ≤ L.length) : 0 ≤ be 0 (L.take 8) ∧ be 0 (L.take 8) < 18446744073709551616 ∧ high8 (be 0 (L.take 8)) = L.take 8 := by
  have hb := be_bound (L.take 8) 0 0 (hL.take 8) (Int.le_refl _) (by decide)
  have h8 : (L.take 8).length = 8 := by rw [List.length_take]; omega
  have hI := hL.take 8
  rw [h8] at hb
  have e : (256 : Int) ^ (0 + 8) = 18446744073709551616 := by decide
  rw [e] at hb
  refine ⟨hb.1, hb.2, ?_⟩
  clear hb
  generalize L.take 8 = M at h8 hI
  match M, h8, hI with
  | [a, b, c, d, e, f, g, h], _, hI =>
    obtain ⟨a0, a1⟩ := hI a (by simp)
    obtain ⟨b0, b1⟩ := hI b (by simp)
    obtain ⟨c0, c1⟩ := hI c (by simp)
    obtain ⟨d0, d1⟩ := hI d (by simp)
    obtain ⟨e0, e1⟩ := hI e (by simp)
    obtain ⟨f0, f1⟩ := hI f (by simp)
    obtain ⟨g0, g1⟩ := hI g (by simp)
    obtain ⟨h0, h1⟩ := hI h (by simp)
    simp only [be, high8, List.cons.injEq, and_true]
    refine ⟨?_, ?_, ?_, ?_, ?_, ?_, ?_, ?_⟩ <;> omega
theorem flip_out (x : Int) (h0 : 0 ≤ x) (h1 : x < 18446744073709551616) : wrap64 (Go.bits .xor .u64 x 9223372036854775808) = x - 9223372036854775808 := by
  obtain ⟨n, rfl⟩ := Int.eq_ofNat_of_zero_le h0
  have e9 : (9223372036854775808 : Int) = ((9223372036854775808 : Nat) : Int) := rfl
  rw [e9, bits_xor_u64_nat n _ (by omega) (by omega)]
  by_cases hn : n < 9223372036854775808
  · rw [xtop n hn]; unfold wrap64; omega
  · rw [xtop2 n (by omega) (by omega)]; unfold wrap64; omega
theorem flip_in (n : Int) (h0 : -9223372036854775808 ≤ n) (h1 : n < 9223372036854775808) : Go.bits .xor .u64 (IntKind.u64.wrap n) 9223372036854775808 = n + 9223372036854775808 := by
  have e9 : (9223372036854775808 : Int) = ((9223372036854775808 : Nat) : Int) := rfl
  by_cases hn : n < 0
  · have e1 : IntKind.u64.wrap n = ((n + 18446744073709551616).toNat : Int) := by rw [IntKind.wrap_u64]; omega
    rw [e1, e9, bits_xor_u64_nat _ _ (by omega) (by omega), xtop2 _ (by omega) (by omega)]
    omega
  · have e1 : IntKind.u64.wrap n = (n.toNat : Int) := by rw [IntKind.wrap_u64]; omega
    rw [e1, e9, bits_xor_u64_nat _ _ (by omega) (by omega), xtop _ (by omega)]
    omega
def bump (n : Nat) (r : List Int × Int × Nat) : List Int × Int × Nat := (r.1, r.2.1, r.2.2 + n)
def kt : List Int → List Int → List Int × Int × Nat
  | _, [] => ([], 11, 0)
  | _, [_] => ([], 11, 1)
  | acc, d :: e :: L => if d = 0 then (if e = 1 then (acc, 0, 2) else if e = 255 then bump 2 (kt (acc ++ [0]) L) else ([], 10, 2)) else bump 1 (kt (acc ++ [d]) (e :: L))
theorem kt_ne (acc : List Int) (d : Int) (L : List Int) (h : d ≠ 0) : kt acc (d :: L) = bump 1 (kt (acc ++ [d]) L) := by
  cases L with
  | nil => rw [kt, kt]; rfl
  | cons e L => rw [kt, if_neg h]
theorem kt_taken : ∀ (n : Nat) (acc L : List Int), L.length ≤ n → (kt acc L).2.2 ≤ L.length
  | _, _, [], _ => by rw [kt]; exact Nat.le_refl _
  | _, _, [_], _ => by rw [kt]; exact Nat.le_refl _
  | 0, _, _ :: _ :: _, h => by simp at h
  | n + 1, acc, d :: e :: L, h => by
    simp only [List.length_cons] at h
    rw [kt]
    split
    · split
      · simp
      · split
        · have := kt_taken n (acc ++ [0]) L (by omega)
          simp only [bump, List.length_cons]; omega
        · simp
    · have := kt_taken n (acc ++ [d]) (e :: L) (by simp only [List.length_cons]; omega)
      simp only [bump, List.length_cons] at this ⊢; omega
def ktA (at_ : Nat) (r : List Int × Int × Nat) : ByteArray × Int × Int := (strOfNums r.1, r.2.1, ((at_ + r.2.2 : Nat) : Int))
theorem ktA_bump (at_ n : Nat) (r : List Int × Int × Nat) : ktA at_ (bump n r) = ktA (at_ + n) r := by
  unfold ktA bump
  simp only [Prod.mk.injEq, true_and]
  omega
theorem keyText_ev (b : List Int) (hb : IsB b) (hl : b.length < 140737488355328) : ∀ (n at_ : Nat) (acc : List Int), b.length - at_ ≤ n → at_ ≤ b.length → acc.length ≤ at_ →
    Ev (fun k => code_cursor_keyText.l0 k acc b (at_ : Int)) (ktA at_ (kt acc (b.drop at_))) := by
  intro n
  induction n with
  | zero =>
    intro at_ acc hn hat ha
    have hle := left_eq b (at_ : Int) 1 (by omega) (by omega) (by omega)
    rw [decide_eq_false (by omega)] at hle
    rw [List.drop_of_length_le (by omega), kt]
    refine Ev.step (f := fun _ => some (⟨#[]⟩, 11, (at_ : Int))) (fun k => ?_) (Ev.now _)
    simp only [code_cursor_keyText.l0]
    rw [hle, Option.bind_some, if_neg Bool.false_ne_true]
  | succ n ih =>
    intro at_ acc hn hat ha
    by_cases he : at_ = b.length
    · have hle := left_eq b (at_ : Int) 1 (by omega) (by omega) (by omega)
      rw [decide_eq_false (by omega)] at hle
      rw [List.drop_of_length_le (by omega), kt]
      refine Ev.step (f := fun _ => some (⟨#[]⟩, 11, (at_ : Int))) (fun k => ?_) (Ev.now _)
      simp only [code_cursor_keyText.l0]
      rw [hle, Option.bind_some, if_neg Bool.false_ne_true]
    · have hi : at_ < b.length := by omega
      have hle := left_eq b (at_ : Int) 1 (by omega) (by omega) (by omega)
      rw [decide_eq_true (by omega)] at hle
      have hw : wrap64 ((at_ : Int) + 1) = ((at_ + 1 : Nat) : Int) := wrap_s at_ (by omega)
      have step : ∀ k, code_cursor_keyText.l0 (k + 1) acc b (at_ : Int) = (if b[at_] = 0 then ((code_cursor_left.f b ((at_ + 1 : Nat) : Int) 1).bind fun bt356 => (if bt356.1 = true then (if 0 ≤ (wrap64 ((wrap64 (bt356.2 + 1)) - 1)) then (if (wrap64 ((wrap64 (bt356.2 + 1)) - 1)) < (b.length : Int) then (if (rd b (wrap64 ((wrap64 (bt356.2 + 1)) - 1))) = 1 then (some (strOfNums acc, 0, wrap64 (bt356.2 + 1))) else (if (rd b (wrap64 ((wrap64 (bt356.2 + 1)) - 1))) = 255 then (if acc.length < 140737488355328 then (code_cursor_keyText.l0 k (acc ++ [0]) b (wrap64 (bt356.2 + 1))) else (none)) else (some ((⟨#[]⟩ : ByteArray), 10, wrap64 (bt356.2 + 1))))) else (none)) else (none)) else (some ((⟨#[]⟩ : ByteArray), 11, bt356.2)))) else code_cursor_keyText.l0 k (acc ++ [b[at_]]) b ((at_ + 1 : Nat) : Int)) := by
        intro k
        simp only [code_cursor_keyText.l0]
        rw [hle, Option.bind_some, if_pos rfl, if_pos (by omega), if_pos (by omega), rd_b b at_ hi, hw, if_pos (show acc.length < 140737488355328 by omega)]
      refine Ev.step step ?_
      rw [List.drop_eq_getElem_cons hi]
      by_cases hz : b[at_] = 0
      · refine Ev.congr (fun k => if_pos hz) ?_
        by_cases he2 : at_ + 1 = b.length
        · have hle2 := left_eq b ((at_ + 1 : Nat) : Int) 1 (by omega) (by omega) (by omega)
          rw [decide_eq_false (by omega)] at hle2
          rw [List.drop_of_length_le (by omega), kt]
          refine Ev.congr (f := fun _ => some (⟨#[]⟩, 11, ((at_ + 1 : Nat) : Int))) (fun k => ?_) (Ev.now _)
          rw [hle2, Option.bind_some, if_neg Bool.false_ne_true]
        · have hi2 : at_ + 1 < b.length := by omega
          have hle2 := left_eq b ((at_ + 1 : Nat) : Int) 1 (by omega) (by omega) (by omega)
          rw [decide_eq_true (by omega)] at hle2
          have hw2 : wrap64 (((at_ + 1 : Nat) : Int) + 1) = ((at_ + 2 : Nat) : Int) := wrap_s (at_ + 1) (by omega)
          have hw3 : wrap64 (((at_ + 2 : Nat) : Int) - 1) = ((at_ + 1 : Nat) : Int) := by unfold wrap64; omega
          rw [List.drop_eq_getElem_cons hi2, kt, if_pos hz]
          have st2 : ∀ k, ((code_cursor_left.f b ((at_ + 1 : Nat) : Int) 1).bind fun bt356 => (if bt356.1 = true then (if 0 ≤ (wrap64 ((wrap64 (bt356.2 + 1)) - 1)) then (if (wrap64 ((wrap64 (bt356.2 + 1)) - 1)) < (b.length : Int) then (if (rd b (wrap64 ((wrap64 (bt356.2 + 1)) - 1))) = 1 then (some (strOfNums acc, 0, wrap64 (bt356.2 + 1))) else (if (rd b (wrap64 ((wrap64 (bt356.2 + 1)) - 1))) = 255 then (if acc.length < 140737488355328 then (code_cursor_keyText.l0 k (acc ++ [0]) b (wrap64 (bt356.2 + 1))) else (none)) else (some ((⟨#[]⟩ : ByteArray), 10, wrap64 (bt356.2 + 1))))) else (none)) else (none)) else (some ((⟨#[]⟩ : ByteArray), 11, bt356.2))))
              = (if b[at_ + 1] = 1 then some (strOfNums acc, 0, ((at_ + 2 : Nat) : Int)) else if b[at_ + 1] = 255 then code_cursor_keyText.l0 k (acc ++ [0]) b ((at_ + 2 : Nat) : Int) else some ((⟨#[]⟩ : ByteArray), 10, ((at_ + 2 : Nat) : Int))) := by
            intro k
            rw [hle2, Option.bind_some]
            simp only
            rw [if_pos trivial, hw2, hw3, if_pos (by omega), if_pos (by omega), rd_b b (at_ + 1) hi2, if_pos (show acc.length < 140737488355328 by omega)]
          refine Ev.congr st2 ?_
          by_cases h1 : b[at_ + 1] = 1
          · rw [if_pos h1]
            exact Ev.congr (fun k => if_pos h1) (Ev.now _)
          · rw [if_neg h1]
            refine Ev.congr (fun k => if_neg h1) ?_
            by_cases h2 : b[at_ + 1] = 255
            · rw [if_pos h2, ktA_bump]
              refine Ev.congr (fun k => if_pos h2) ?_
              exact ih (at_ + 2) (acc ++ [0]) (by omega) (by omega) (by rw [List.length_append, List.length_singleton]; omega)
            · rw [if_neg h2]
              exact Ev.congr (fun k => if_neg h2) (Ev.now _)
      · rw [kt_ne acc _ _ hz, ktA_bump]
        refine Ev.congr (fun k => if_neg hz) ?_
        exact ih (at_ + 1) (acc ++ [b[at_]]) (by omega) (by omega) (by rw [List.length_append, List.length_singleton]; omega)
end Go.Proofs.YtcheinjlgojepaaDoor.Pure
namespace Go.Proofs.YtcheinjlgojepaaDoor.Pure
open Go.RowKit Go.Proofs.YtcheinjlgojepaaDoor.P Go.Proofs.YtcheinjlgojepaaDoorW.PrintWords Go.Proofs.YtcheinjlgojepaaDoorW.PrintLast Go.Proofs.YtcheinjlgojepaaDoorW.PrintMore
set_option linter.unusedVariables false
set_option linter.unusedSimpArgs false
def nm (l : List UInt8) : List Int := l.map (fun b => (b.toNat : Int))
theorem te_zero (l : List UInt8) : te (0 :: l) = 0 :: 255 :: te l := by
  unfold te
  rw [esc, if_pos rfl]; rfl
theorem te_ne (b : UInt8) (l : List UInt8) (h : b ≠ 0) : te (b :: l) = (b.toNat : Int) :: te l := by
  unfold te
  rw [esc, if_neg h]; rfl
theorem u8_of (d : Int) (h0 : 0 ≤ d) (h1 : d < 256) : ∃ b : UInt8, (b.toNat : Int) = d := by
  refine ⟨UInt8.ofNat d.toNat, ?_⟩
  rw [UInt8.toNat_ofNat']
  omega
theorem kt_read : ∀ (n : Nat) (acc L : List Int), L.length ≤ n → IsB L → (kt acc L).2.1 = 0 → ∃ l : List UInt8, (kt acc L).1 = acc ++ nm l ∧ L.take (kt acc L).2.2 = te l ∧ l.length ≤ (kt acc L).2.2
  | _, _, [], _, _, he => by rw [kt] at he; exact absurd (show (11 : Int) = 0 from he) (by decide)
  | _, _, [_], _, _, he => by rw [kt] at he; exact absurd (show (11 : Int) = 0 from he) (by decide)
  | 0, _, _ :: _ :: _, h, _, _ => by simp at h
  | n + 1, acc, d :: e :: L, h, hL, he => by
    simp only [List.length_cons] at h
    rw [kt] at he ⊢
    by_cases hd : d = 0
    · rw [if_pos hd] at he ⊢
      by_cases h1 : e = 1
      · rw [if_pos h1]
        refine ⟨[], by simp [nm], ?_, Nat.zero_le _⟩
        rw [hd, h1]; rfl
      · rw [if_neg h1] at he ⊢
        by_cases h2 : e = 255
        · rw [if_pos h2] at he ⊢
          obtain ⟨l, l1, l2, l3⟩ := kt_read n (acc ++ [0]) L (by omega) (fun x hx => hL x (List.mem_cons_of_mem _ (List.mem_cons_of_mem _ hx))) he
          refine ⟨0 :: l, ?_, ?_, ?_⟩
          · show (kt (acc ++ [0]) L).1 = _
            rw [l1, List.append_assoc]; rfl
          · show (d :: e :: L).take ((kt (acc ++ [0]) L).2.2 + 2) = _
            rw [te_zero, ← l2, hd, h2]; rfl
          · show (0 :: l).length ≤ (kt (acc ++ [0]) L).2.2 + 2
            rw [List.length_cons]; omega
        · rw [if_neg h2] at he; exact absurd (show (10 : Int) = 0 from he) (by decide)
    · rw [if_neg hd] at he ⊢
      obtain ⟨d0, d1⟩ := hL d (by simp)
      obtain ⟨b, hb⟩ := u8_of d d0 d1
      have hb0 : b ≠ 0 := fun q => hd (by rw [← hb, q]; rfl)
      obtain ⟨l, l1, l2, l3⟩ := kt_read n (acc ++ [d]) (e :: L) (by simp only [List.length_cons]; omega) (fun x hx => hL x (List.mem_cons_of_mem _ hx)) he
      refine ⟨b :: l, ?_, ?_, ?_⟩
      · show (kt (acc ++ [d]) (e :: L)).1 = _
        rw [l1, List.append_assoc]
        unfold nm
        rw [List.map_cons, hb]; rfl
      · show (d :: e :: L).take ((kt (acc ++ [d]) (e :: L)).2.2 + 1) = _
        rw [te_ne b l hb0, ← l2, hb]; rfl
      · show (b :: l).length ≤ (kt (acc ++ [d]) (e :: L)).2.2 + 1
        rw [List.length_cons]; omega
def rkV (kind : Int) (L : List Int) : S29 × Int × Nat :=
  if kind = 1 ∨ kind = 2 ∨ kind = 3 then
    (if (knV L).2.1 = true then (if kind = 2 then (⟨2, wrap64 (Go.bits .xor .u64 (knV L).1 9223372036854775808), ⟨#[]⟩, false⟩, 0, (knV L).2.2)
        else if 9223372036854775807 < (knV L).1 then (⟨kind, 0, ⟨#[]⟩, false⟩, 10, (knV L).2.2)
        else if kind = 3 ∧ 4294967295 < (knV L).1 then (⟨kind, 0, ⟨#[]⟩, false⟩, 10, (knV L).2.2)
        else (⟨kind, wrap64 (knV L).1, ⟨#[]⟩, false⟩, 0, (knV L).2.2))
      else (⟨kind, 0, ⟨#[]⟩, false⟩, 11, (knV L).2.2))
  else if kind = 4 then (⟨4, 0, strOfNums (kt [] L).1, false⟩, (kt [] L).2.1, (kt [] L).2.2)
  else rfV kind L
theorem keyField_ev (b : List Int) (hb : IsB b) (hl : b.length < 140737488355328) (at_ : Nat) (h : at_ ≤ b.length) (kind : Int) : Ev (fun k => code_cursor_keyField.f k b (at_ : Int) kind) (at3 at_ (rkV kind (b.drop at_))) := by
  unfold rkV
  by_cases h1 : kind = 1 ∨ kind = 2 ∨ kind = 3
  · rw [if_pos h1]
    refine Ev.congr (fun k => by unfold code_cursor_keyField.f; rw [if_pos h1]) (Ev.bind (keyNumber_ev b hb (by omega) at_ h) ?_)
    simp only
    by_cases ho : (knV (b.drop at_)).2.1 = true
    · simp only [if_pos ho]
      by_cases h2 : kind = 2
      · simp only [if_pos h2]; exact Ev.now _
      · simp only [if_neg h2]
        by_cases h3 : 9223372036854775807 < (knV (b.drop at_)).1
        · simp only [if_pos h3]; exact Ev.now _
        · simp only [if_neg h3]
          by_cases h4 : kind = 3 ∧ 4294967295 < (knV (b.drop at_)).1
          · simp only [if_pos h4]; exact Ev.now _
          · simp only [if_neg h4]; exact Ev.now _
    · simp only [if_neg ho]; exact Ev.now _
  rw [if_neg h1]
  by_cases h4 : kind = 4
  · rw [if_pos h4]
    have := keyText_ev b hb hl b.length at_ [] (by omega) h (Nat.zero_le _)
    exact Ev.congr (fun k => by unfold code_cursor_keyField.f; rw [if_neg h1, if_pos h4]; rfl) (Ev.bind this (Ev.now _))
  rw [if_neg h4]
  exact Ev.congr (fun k => by unfold code_cursor_keyField.f; rw [if_neg h1, if_neg h4]) (field_ev b hb (by omega) at_ h kind)
theorem kb1 (n : Int) (h0 : 0 ≤ n) (h1 : n < 9223372036854775808) : keyB ⟨1, n, ⟨#[]⟩, false⟩ = high8 n := by
  unfold keyB
  rw [if_pos (.inl rfl)]
  simp only
  rw [u64_wrap n h0 (by omega)]
theorem kb2 (n : Int) (h0 : -9223372036854775808 ≤ n) (h1 : n < 9223372036854775808) : keyB ⟨2, n, ⟨#[]⟩, false⟩ = high8 (n + 9223372036854775808) := by
  unfold keyB
  rw [if_neg (by simp), if_pos rfl]
  simp only
  rw [flip_in n h0 h1]
theorem kb3 (n : Int) (h0 : 0 ≤ n) (h1 : n < 9223372036854775808) : keyB ⟨3, n, ⟨#[]⟩, false⟩ = high8 n := by
  unfold keyB
  rw [if_pos (.inr rfl)]
  simp only
  rw [u64_wrap n h0 (by omega)]
theorem kb4 (s : ByteArray) : keyB ⟨4, 0, s, false⟩ = te s.data.toList := by
  unfold keyB
  rw [if_neg (by simp), if_neg (by simp), if_pos rfl]
theorem kb5 (t : Bool) : keyB ⟨5, 0, ⟨#[]⟩, t⟩ = wr ⟨5, 0, ⟨#[]⟩, t⟩ := by
  unfold keyB
  rw [if_neg (by simp), if_neg (by simp), if_neg (by simp), if_pos rfl]
theorem rk_num (kind : Int) (L : List Int) (h : kind = 1 ∨ kind = 2 ∨ kind = 3) : rkV kind L = (if (knV L).2.1 = true then (if kind = 2 then (⟨2, wrap64 (Go.bits .xor .u64 (knV L).1 9223372036854775808), ⟨#[]⟩, false⟩, 0, (knV L).2.2)
        else if 9223372036854775807 < (knV L).1 then (⟨kind, 0, ⟨#[]⟩, false⟩, 10, (knV L).2.2)
        else if kind = 3 ∧ 4294967295 < (knV L).1 then (⟨kind, 0, ⟨#[]⟩, false⟩, 10, (knV L).2.2)
        else (⟨kind, wrap64 (knV L).1, ⟨#[]⟩, false⟩, 0, (knV L).2.2))
      else (⟨kind, 0, ⟨#[]⟩, false⟩, 11, (knV L).2.2)) := if_pos h
theorem rk4 (L : List Int) : rkV 4 L = (⟨4, 0, strOfNums (kt [] L).1, false⟩, (kt [] L).2.1, (kt [] L).2.2) := by
  unfold rkV
  rw [if_neg (by decide), if_pos rfl]
theorem rk_else (kind : Int) (L : List Int) (h : ¬ (kind = 1 ∨ kind = 2 ∨ kind = 3)) (h4 : kind ≠ 4) : rkV kind L = rfV kind L := by
  unfold rkV
  rw [if_neg h, if_neg h4]
theorem data_nm (l : List UInt8) : (strOfNums (nm l)).data.toList = l := by
  unfold strOfNums nm
  simp only [List.map_map]
  have : ((fun n => UInt8.ofNat n.toNat) ∘ fun b : UInt8 => (b.toNat : Int)) = id := by funext b; simp
  rw [this, List.map_id]
theorem kn_yes (L : List Int) (h : 8 ≤ L.length) : knV L = (be 0 (L.take 8), true, 8) := if_pos h
theorem kn_no (L : List Int) (h : ¬ 8 ≤ L.length) : knV L = (0, false, 0) := if_neg h
theorem rk_read (kind : Int) (L : List Int) (hL : IsB L) (hl : L.length ≤ 140737488351232) (he : (rkV kind L).2.1 = 0) :
    fitV (rkV kind L).1 = true ∧ G29 (rkV kind L).1 ∧ keyB (rkV kind L).1 = L.take (rkV kind L).2.2 ∧ (rkV kind L).2.2 ≤ L.length ∧ (rkV kind L).1.f2.size ≤ (rkV kind L).2.2 := by
  have w0 : (Lit.int .i64 0).wf = true := by decide
  by_cases hn : kind = 1 ∨ kind = 2 ∨ kind = 3
  · rw [rk_num kind L hn] at he ⊢
    by_cases h8 : 8 ≤ L.length
    · obtain ⟨b0, b1, b2⟩ := high_be L hL h8
      rw [kn_yes L h8] at he ⊢
      simp only [if_true] at he ⊢
      generalize be 0 (L.take 8) = x at he b0 b1 b2 ⊢
      by_cases h2 : kind = 2
      · subst h2
        rw [if_pos rfl]
        simp only
        rw [flip_out x b0 b1]
        refine ⟨fit2 _, g29_of _ _ _ _ (by decide) (by omega) e_size, ?_, h8, Nat.zero_le _⟩
        rw [kb2 _ (by omega) (by omega), show x - 9223372036854775808 + 9223372036854775808 = x by omega, b2]
      · rw [if_neg h2] at he ⊢
        by_cases h3 : 9223372036854775807 < x
        · rw [if_pos h3] at he; exact absurd (show (10 : Int) = 0 from he) (by decide)
        · rw [if_neg h3] at he ⊢
          by_cases h4 : kind = 3 ∧ 4294967295 < x
          · rw [if_pos h4] at he; exact absurd (show (10 : Int) = 0 from he) (by decide)
          · rw [if_neg h4]
            simp only
            rw [show wrap64 x = x by unfold wrap64; omega]
            rcases hn with rfl | rfl | rfl
            · refine ⟨fit1 _ b0, g29_of _ _ _ _ (by decide) (by omega) e_size, ?_, h8, Nat.zero_le _⟩
              rw [kb1 _ b0 (by omega), b2]
            · exact absurd rfl h2
            · have : x ≤ 4294967295 := Int.not_lt.1 (fun q => h4 ⟨rfl, q⟩)
              refine ⟨fit3 _ b0 this, g29_of _ _ _ _ (by decide) (by omega) e_size, ?_, h8, Nat.zero_le _⟩
              rw [kb3 _ b0 (by omega), b2]
    · rw [kn_no L h8] at he
      exact absurd (show (11 : Int) = 0 from he) (by decide)
  by_cases h4 : kind = 4
  · subst h4
    rw [rk4] at he ⊢
    simp only at he ⊢
    obtain ⟨l, l1, l2, l3⟩ := kt_read L.length [] L (Nat.le_refl _) hL he
    have ht := kt_taken L.length [] L (Nat.le_refl _)
    rw [List.nil_append] at l1
    rw [l1]
    have hs : (strOfNums (nm l)).size = l.length := by rw [strOf_size]; exact List.length_map _
    refine ⟨fit4 _, g29_of _ _ _ _ (by decide) (by omega) (by rw [hs]; omega), ?_, ht, by rw [hs]; exact l3⟩
    rw [kb4, data_nm, l2]
  · rw [rk_else kind L hn h4] at he ⊢
    obtain ⟨r1, r2, r3, r4, r5⟩ := rf_read kind L hL hl he
    have h5 : kind = 5 := by
      by_cases q : kind = 5
      · exact q
      · exfalso
        unfold rfV at he
        rw [if_neg (fun q => hn (.inl q)), if_neg (fun q => hn (.inr (.inl q))), if_neg (fun q => hn (.inr (.inr q))), if_neg h4, if_neg q] at he
        exact absurd (show (27 : Int) = 0 from he) (by decide)
    have hk : keyB (rfV kind L).1 = wr (rfV kind L).1 := by
      subst h5
      rw [rf5]
      split
      · split <;> exact kb5 _
      · exact kb5 _
    exact ⟨r1, r2, hk.trans r3, r4, r5⟩
def bumpS (n : Nat) (r : List S29 × Int × Nat) : List S29 × Int × Nat := (r.1, r.2.1, r.2.2 + n)
def rkS : List S29 → List Int → List Int → List S29 × Int × Nat
  | acc, [], _ => (acc, 0, 0)
  | acc, kd :: ks, L => if (rkV kd L).2.1 = 0 then bumpS (rkV kd L).2.2 (rkS (acc ++ [(rkV kd L).1]) ks (L.drop (rkV kd L).2.2)) else ([], (rkV kd L).2.1, (rkV kd L).2.2)
theorem rk_taken (kind : Int) (L : List Int) : (rkV kind L).2.2 ≤ L.length := by
  have hk : (knV L).2.2 ≤ L.length := by unfold knV; split <;> simp only <;> omega
  unfold rkV
  split
  · split
    · split
      · exact hk
      · split
        · exact hk
        · split <;> exact hk
    · exact hk
  · split
    · exact kt_taken L.length [] L (Nat.le_refl _)
    · exact rf_taken kind L
def rkF (s : ByteArray) (r : List S29 × Int × Nat) (at_ : Nat) : List S29 × Int × Int := if r.2.1 = 0 then (if ((at_ + r.2.2 : Nat) : Int) = (s.size : Int) then (r.1, 0, ((at_ + r.2.2 : Nat) : Int)) else ([], 10, ((at_ + r.2.2 : Nat) : Int))) else ([], r.2.1, ((at_ + r.2.2 : Nat) : Int))
theorem rkF_bump (s : ByteArray) (r : List S29 × Int × Nat) (at_ n : Nat) : rkF s (bumpS n r) at_ = rkF s r (at_ + n) := by
  unfold rkF bumpS
  simp only
  rw [show at_ + (r.2.2 + n) = at_ + n + r.2.2 by omega]
theorem readKey_loop (s : ByteArray) (hs : s.size < 140737488355328) (ks : List Int) (hk : ks.length < 3518437208883) : ∀ (n i at_ : Nat) (acc : List S29), i + n = ks.length → at_ ≤ s.size → acc.length ≤ i →
    Ev (fun k => code_ReadKey.l0 k s acc ks (ks.length : Int) (i : Int) (bytesOf s) (at_ : Int)) (rkF s (rkS acc (ks.drop i) ((bytesOf s).drop at_)) at_) := by
  have hlb : (bytesOf s).length = s.size := bytesOf_length s
  intro n
  induction n with
  | zero =>
    intro i at_ acc hi hat ha
    rw [List.drop_of_length_le (by omega), rkS]
    unfold rkF
    simp only [if_true, Nat.add_zero]
    refine Ev.step (f := fun _ => some (if (at_ : Int) = (s.size : Int) then (acc, 0, (at_ : Int)) else ([], 10, (at_ : Int)))) (fun k => ?_) (Ev.now _)
    simp only [code_ReadKey.l0]
    rw [if_neg (by omega)]
    split <;> rfl
  | succ n ih =>
    intro i at_ acc hi hat ha
    have hil : i < ks.length := by omega
    have hrd : rd ks (i : Int) = ks[i] := rd_b ks i hil
    have hw := wrap_s i (by omega)
    rw [List.drop_eq_getElem_cons hil, rkS]
    have hf := keyField_ev (bytesOf s) (bytes_isB s) (by omega) at_ (by omega) ks[i]
    have ht := rk_taken ks[i] ((bytesOf s).drop at_)
    rw [List.length_drop, hlb] at ht
    refine Ev.step (f := fun k => (code_cursor_keyField.f k (bytesOf s) (at_ : Int) ks[i]).bind fun t => (if t.2.1 = 0 then code_ReadKey.l0 k s (acc ++ [t.1]) ks (ks.length : Int) ((i + 1 : Nat) : Int) (bytesOf s) t.2.2 else some (([] : List S29), t.2.1, t.2.2))) (fun k => ?_) ?_
    · simp only [code_ReadKey.l0]
      rw [if_pos (by omega), if_pos (by omega), if_pos (by omega), hrd, hw]
      unfold code_cursor_keyField6.f
      rw [Option.bind_assoc]
      congr 1
      funext t
      rw [Option.bind_some]
      simp only
      rw [if_pos (show acc.length < 3518437208883 by omega)]
    · refine Ev.bind hf ?_
      unfold at3
      simp only
      by_cases h0 : (rkV ks[i] ((bytesOf s).drop at_)).2.1 = 0
      · simp only [if_pos h0]
        rw [rkF_bump, List.drop_drop]
        exact ih (i + 1) _ _ (by omega) (by omega) (by rw [List.length_append, List.length_singleton]; omega)
      · simp only [if_neg h0]
        unfold rkF
        simp only [if_neg h0]
        exact Ev.now _
def rkR (s : ByteArray) (ks : List Int) : List S29 × Int := ((rkF s (rkS [] ks (bytesOf s)) 0).1, (rkF s (rkS [] ks (bytesOf s)) 0).2.1)
theorem readKey_ev (s : ByteArray) (hs : s.size < 140737488355328) (ks : List Int) (hk : ks.length < 3518437208883) : Ev (fun k => code_ReadKey.f k s ks) (rkR s ks) := by
  have h := readKey_loop s hs ks hk ks.length 0 0 [] (by omega) (Nat.zero_le _) (Nat.le_refl _)
  rw [List.drop_zero, List.drop_zero] at h
  exact Ev.congr (fun k => by unfold code_ReadKey.f; rw [if_pos (by omega)]; rfl) (Ev.bind h (Ev.now _))
theorem rkS_read : ∀ (ks L : List Int) (acc : List S29), IsB L → L.length ≤ 140737488351232 → (rkS acc ks L).2.1 = 0 →
    ∃ l : List S29, (rkS acc ks L).1 = acc ++ l ∧ l.all fitV = true ∧ (∀ f ∈ l, G29 f) ∧ l.flatMap keyB = L.take (rkS acc ks L).2.2 ∧ (rkS acc ks L).2.2 ≤ L.length ∧ l.length = ks.length ∧ wk l ≤ 10 * ks.length + 3 * (rkS acc ks L).2.2
  | [], L, acc, _, _, _ => ⟨[], by rw [List.append_nil]; rfl, rfl, fun f hf => (by cases hf), rfl, Nat.zero_le _, rfl, Nat.le_refl _⟩
  | kd :: ks, L, acc, hL, hl, he => by
    rw [rkS] at he ⊢
    by_cases h0 : (rkV kd L).2.1 = 0
    · rw [if_pos h0] at he ⊢
      obtain ⟨f1, f2, f3, f4, f5⟩ := rk_read kd L hL hl h0
      obtain ⟨l, i0, i1, i2, i3, i4, i5, i6⟩ := rkS_read ks (L.drop (rkV kd L).2.2) (acc ++ [(rkV kd L).1]) (hL.drop _) (by rw [List.length_drop]; omega) he
      rw [List.length_drop] at i4
      unfold bumpS
      simp only
      refine ⟨(rkV kd L).1 :: l, ?_, ?_, ?_, ?_, by omega, ?_, ?_⟩
      · rw [i0, List.append_assoc]; rfl
      · rw [List.all_cons, f1, i1]; rfl
      · intro f hf
        rcases List.mem_cons.1 hf with rfl | hf
        · exact f2
        · exact i2 f hf
      · rw [List.flatMap_cons, i3, f3, Nat.add_comm, ← List.take_add]
      · rw [List.length_cons, List.length_cons, i5]
      · unfold wk at i6 ⊢
        rw [List.map_cons, List.sum_cons, List.length_cons]
        omega
    · rw [if_neg h0] at he
      exact absurd he h0
theorem rkR_read (s : ByteArray) (ks : List Int) (hs : s.size ≤ 140737488351232) (he : (rkR s ks).2 = 0) :
    (rkR s ks).1.all fitV = true ∧ (∀ f ∈ (rkR s ks).1, G29 f) ∧ (rkR s ks).1.flatMap keyB = bytesOf s ∧ (rkR s ks).1.length = ks.length ∧ wk (rkR s ks).1 ≤ 10 * ks.length + 3 * s.size := by
  have hlb : (bytesOf s).length = s.size := bytesOf_length s
  unfold rkR at he ⊢
  by_cases h0 : (rkS [] ks (bytesOf s)).2.1 = 0
  · obtain ⟨l, i0, i1, i2, i3, i4, i5, i6⟩ := rkS_read ks (bytesOf s) [] (bytes_isB s) (by omega) h0
    unfold rkF at he ⊢
    simp only [if_pos h0, Nat.zero_add] at he ⊢
    by_cases h1 : (((rkS [] ks (bytesOf s)).2.2 : Nat) : Int) = (s.size : Int)
    · simp only [if_pos h1]
      have hn : (rkS [] ks (bytesOf s)).2.2 = s.size := by omega
      rw [i0, List.nil_append]
      rw [hn] at i3 i6
      refine ⟨i1, i2, ?_, i5, i6⟩
      rw [i3, List.take_of_length_le (by omega)]
    · simp only [if_neg h1] at he
      exact absurd (show (10 : Int) = 0 from he) (by decide)
  · unfold rkF at he
    simp only [if_neg h0] at he
    exact absurd he h0
end Go.Proofs.YtcheinjlgojepaaDoor.Pure
