-- left of the seat's texts by prune.py, a program of this session
import Derived.Test.YtcheinjlgojepaaDoorP7
import Derived.Test.YtcheinjlgojepaaDoorP10
import Derived.Test.YtcheinjlgojepaaDoorP13
import Derived.Test.YtcheinjlgojepaaDoorOps
import Derived.Laws.Bits64
import Derived.OpenShut
import Derived.Test.YtcheinjlgojepaaDoorP24
namespace Go.Proofs.YtcheinjlgojepaaDoor.Pure
open Go.RowKit Go.Proofs.YtcheinjlgojepaaDoor.P Go.Proofs.YtcheinjlgojepaaDoorW.PrintWords Go.Proofs.YtcheinjlgojepaaDoorW.PrintLast Go.Proofs.YtcheinjlgojepaaDoorW.PrintMore
set_option linter.unusedVariables false
set_option linter.unusedSimpArgs false
def fitV (f : S29) : Bool := if f.f0 = 1 then (f.f1 == (mx f.f1 0) && (f.f2.toList == ([] : List UInt8) && (!f.f3))) else (if f.f0 = 2 then (f.f2.toList == ([] : List UInt8) && (!f.f3)) else (if f.f0 = 3 then (f.f1 == (mn (mx f.f1 0) 4294967295) && (f.f2.toList == ([] : List UInt8) && (!f.f3))) else (if f.f0 = 4 then (f.f1 == 0 && (!f.f3)) else (if f.f0 = 5 then (f.f1 == 0 && (f.f2.toList == ([] : List UInt8))) else false))))
theorem rfit_eq (f : S29) : reefref02_Fit.f f.f0 f.f1 f.f2 f.f3 = some (fitV f) := by
  unfold reefref02_Fit.f fitV
  repeat' split
  all_goals rfl
theorem empty_toList : (⟨#[]⟩ : ByteArray).toList = ([] : List UInt8) := by rw [ByteArray.toList_eq]
theorem beq_swap {α : Type} [BEq α] [LawfulBEq α] (a b : α) : (a == b) = (b == a) := by
  by_cases h : a = b
  · subst h; rfl
  · rw [beq_eq_false_iff_ne.2 h, beq_eq_false_iff_ne.2 (Ne.symm h)]
theorem cfit_ev (f : S29) : Ev (fun k => code_Fit.f k f.f0 f.f1 f.f2 f.f3) (fitV f) := by
  refine Ev.step (f := fun _ => some (fitV f)) (fun k => ?_) (Ev.now _)
  obtain ⟨a0, a1, a2, a3⟩ := f
  unfold code_Fit.f
  simp only [code_Fit.j0, fitV, empty_toList, beq_self_eq_true, Bool.true_and]
  have e2 : ([] == a2.toList) = (a2.toList == ([] : List UInt8)) := beq_swap _ _
  have e3 : (false == a3) = !a3 := by cases a3 <;> rfl
  have e1 : ((0 : Int) == a1) = (a1 == 0) := beq_swap _ _
  rw [e1, e2, e3]
  by_cases h1 : a0 = 1
  · subst h1
    simp only [if_true, beq_self_eq_true]
    by_cases hn : a1 < 0
    · rw [if_pos hn]
      have : (a1 == mx a1 0) = false := by unfold mx; rw [beq_eq_false_iff_ne]; split <;> omega
      rw [this]; rfl
    · rw [if_neg hn, if_neg (by decide)]
      have : (a1 == mx a1 0) = true := by unfold mx; rw [beq_iff_eq]; split <;> omega
      rw [this]; rfl
  · rw [if_neg h1, if_neg h1]
    by_cases h3 : a0 = 3
    · subst h3
      simp only [if_true, beq_self_eq_true, if_neg (show ¬ ((3 : Int) = 2) from by decide)]
      by_cases hn : a1 < 0
      · rw [if_pos hn]
        have : (a1 == mn (mx a1 0) 4294967295) = false := by unfold mx mn; rw [beq_eq_false_iff_ne]; repeat' split <;> omega
        rw [this]; rfl
      · rw [if_neg hn]
        by_cases hm : a1 > 4294967295
        · rw [if_pos hm]
          have : (a1 == mn (mx a1 0) 4294967295) = false := by unfold mx mn; rw [beq_eq_false_iff_ne]; repeat' split <;> omega
          rw [this]; rfl
        · rw [if_neg hm]
          have : (a1 == mn (mx a1 0) 4294967295) = true := by unfold mx mn; rw [beq_iff_eq]; repeat' split <;> omega
          rw [this]; rfl
    · have e : (a0 == 3) = false := beq_eq_false_iff_ne.2 h3
      rw [e, if_neg (by decide), if_neg h3]
      by_cases h2 : a0 = 2
      · rw [if_pos h2, if_pos h2]
      · rw [if_neg h2, if_neg h2]
        by_cases h4 : a0 = 4
        · rw [if_pos h4, if_pos h4]
        · rw [if_neg h4, if_neg h4]
          by_cases h5 : a0 = 5
          · rw [if_pos h5, if_pos h5]
          · rw [if_neg h5, if_neg h5]
def numL : Nat → Int → List Int
  | 0, x => [x]
  | n + 1, x => if x ≥ 128 then (x % 128 + 128) :: numL n (x / 128) else [x]
theorem numL_len : ∀ n x, (numL n x).length ≤ n + 1
  | 0, x => by simp [numL]
  | n + 1, x => by
    have := numL_len n (x / 128)
    rw [numL]; split
    · rw [List.length_cons]; omega
    · simp
theorem or128 : ∀ n : Fin 256, Go.bits .or .u8 (n.val : Int) 128 = ((n.val % 128 + 128 : Nat) : Int) := by decide +kernel
theorem or128' (x : Int) (h : 0 ≤ x) : Go.bits .or .u8 (x % 256) 128 = x % 128 + 128 := by
  have := or128 ⟨(x % 256).toNat, by omega⟩
  simp only at this
  rw [Int.toNat_of_nonneg (by omega)] at this
  rw [this]; omega
theorem cnum_ev : ∀ (n : Nat) (x : Int) (b : List Int), 0 ≤ x → x < 128 ^ (n + 1) → b.length + n + 1 ≤ 140737488355328 → Ev (fun k => code_number.l0 k b x) (b ++ numL n x) := by
  intro n
  induction n with
  | zero =>
    intro x b h0 h1 hb
    refine Ev.step (f := fun _ => some (b ++ numL 0 x)) (fun k => ?_) (Ev.now _)
    simp only [code_number.l0, numL]
    have h1' : x < 128 := h1
    rw [if_neg (by omega), if_pos (by omega), show x % 256 = x from by omega]
  | succ n ih =>
    intro x b h0 h1 hb
    by_cases h : x ≥ 128
    · have i := ih (x / 128) (b ++ [x % 128 + 128]) (by omega) (by rw [Int.pow_succ] at h1; omega) (by rw [List.length_append, List.length_singleton]; omega)
      refine Ev.step (f := fun k => code_number.l0 k (b ++ [x % 128 + 128]) (x / 128)) (fun k => ?_) ?_
      · simp only [code_number.l0]
        rw [if_pos h, if_pos (by omega), or128' x h0]
      · rw [List.append_assoc] at i
        rw [numL, if_pos h]
        exact i
    · refine Ev.step (f := fun _ => some (b ++ numL (n + 1) x)) (fun k => ?_) (Ev.now _)
      simp only [code_number.l0, numL]
      rw [if_neg h, if_neg h, if_pos (by omega), show x % 256 = x from by omega]
theorem u64_wrap (x : Int) (h0 : 0 ≤ x) (h1 : x < 18446744073709551616) : IntKind.u64.wrap x = x := by
  simp [IntKind.wrap, IntKind.bits, IntKind.signed]; omega
def zigV (x : Int) : Int := if x < 0 then 2 * (-(x + 1)) + 1 else 2 * x
theorem not_nat (y : Nat) (h : y < 18446744073709551616) : y ^^^ 18446744073709551615 = 18446744073709551615 - y := by
  have e := congrArg BitVec.toNat (BitVec.xor_allOnes (x := BitVec.ofNat 64 y))
  rw [BitVec.toNat_xor, BitVec.toNat_not, BitVec.toNat_ofNat, BitVec.toNat_allOnes] at e
  have e2 : y % 2 ^ 64 = y := Nat.mod_eq_of_lt h
  rw [e2] at e
  exact e
theorem zag_eq (x : Int) (h0 : -9223372036854775808 ≤ x) (h1 : x < 9223372036854775808) : Go.bits .xor .u64 (IntKind.u64.wrap ((IntKind.u64.wrap x) * 2)) (IntKind.u64.wrap (x / 9223372036854775808)) = zigV x := by
  unfold zigV
  by_cases h : x < 0
  · rw [if_pos h]
    have e1 : IntKind.u64.wrap x = x + 18446744073709551616 := by rw [IntKind.wrap_u64]; omega
    have e2 : IntKind.u64.wrap ((x + 18446744073709551616) * 2) = ((2 * x + 18446744073709551616).toNat : Int) := by rw [IntKind.wrap_u64]; omega
    have e3 : IntKind.u64.wrap (x / 9223372036854775808) = ((18446744073709551615 : Nat) : Int) := by rw [IntKind.wrap_u64]; omega
    rw [e1, e2, e3, bits_xor_u64_nat _ _ (by omega) (by omega), not_nat _ (by omega)]
    omega
  · rw [if_neg h]
    have e1 : IntKind.u64.wrap x = x := by rw [IntKind.wrap_u64]; omega
    have e2 : IntKind.u64.wrap (x * 2) = ((2 * x).toNat : Int) := by rw [IntKind.wrap_u64]; omega
    have e3 : IntKind.u64.wrap (x / 9223372036854775808) = ((0 : Nat) : Int) := by rw [IntKind.wrap_u64]; omega
    rw [e1, e2, e3, bits_xor_u64_nat _ _ (by omega) (by omega), Nat.xor_zero]
    omega
theorem wf_i64 {n : Int} (h : (Lit.int .i64 n).wf = true) : -9223372036854775808 ≤ n ∧ n < 9223372036854775808 := by
  have := bounds_i64 h
  omega
def wr (f : S29) : List Int :=
  if f.f0 = 1 then numL 9 (IntKind.u64.wrap f.f1) else if f.f0 = 2 then numL 9 (zigV f.f1)
  else if f.f0 = 3 then [f.f1 % 256, (f.f1 / 256) % 256, (f.f1 / 65536) % 256, (f.f1 / 16777216) % 256]
  else if f.f0 = 4 then numL 9 (f.f2.size : Int) ++ bytesOf f.f2
  else if f.f3 = true then [1] else [0]
theorem pow10 {x : Int} (h : x < 18446744073709551616) : x < 128 ^ (9 + 1) := by
  have : (128 : Int) ^ (9 + 1) = 1180591620717411303424 := by decide
  omega
theorem zig_bounds (x : Int) (h0 : -9223372036854775808 ≤ x) (h1 : x < 9223372036854775808) : 0 ≤ zigV x ∧ zigV x < 18446744073709551616 := by unfold zigV; split <;> omega
theorem cwrite_ev (f : S29) (g : G29 f) (b : List Int) (hb : b.length + 10 + f.f2.size < 140737488355328) : Ev (fun k => code_write.f k b f.f0 f.f1 f.f2 f.f3) (b ++ wr f) := by
  obtain ⟨g0, g1, g2, _⟩ := g
  obtain ⟨hl, hh⟩ := wf_i64 g1
  obtain ⟨z0, z1⟩ := zig_bounds f.f1 hl hh
  have hu : 0 ≤ IntKind.u64.wrap f.f1 ∧ IntKind.u64.wrap f.f1 < 18446744073709551616 := by rw [IntKind.wrap_u64]; omega
  unfold wr
  by_cases h1 : f.f0 = 1
  · rw [if_pos h1]
    refine Ev.congr (fun k => by unfold code_write.f; rw [if_pos h1]; rfl) (Ev.bind (cnum_ev 9 _ b hu.1 (pow10 hu.2) (by omega)) (Ev.now _))
  rw [if_neg h1]
  by_cases h2 : f.f0 = 2
  · rw [if_pos h2]
    refine Ev.congr (fun k => by unfold code_write.f; rw [if_neg h1, if_pos h2, zag_eq _ hl hh]; rfl) (Ev.bind (cnum_ev 9 _ b z0 (pow10 z1) (by omega)) (Ev.now _))
  rw [if_neg h2]
  by_cases h3 : f.f0 = 3
  · rw [if_pos h3]
    refine Ev.congr (f := fun _ => some _) (fun k => ?_) (Ev.now _)
    unfold code_write.f
    rw [if_neg h1, if_neg h2, if_pos h3, Option.bind_some, if_pos (by simp only [List.length_cons, List.length_nil]; omega)]
  rw [if_neg h3]
  by_cases h4 : f.f0 = 4
  · rw [if_pos h4]
    have hs : IntKind.u64.wrap (f.f2.size : Int) = (f.f2.size : Int) := u64_wrap _ (by omega) (by omega)
    have hn := numL_len 9 (f.f2.size : Int)
    refine Ev.congr (fun k => by unfold code_write.f; rw [if_neg h1, if_neg h2, if_neg h3, if_pos h4, hs]; rfl) (Ev.bind (cnum_ev 9 _ b (by omega) (pow10 (by omega)) (by omega)) ?_)
    refine Ev.congr (f := fun _ => some _) (fun k => ?_) (Ev.now _)
    rw [if_pos (by rw [List.length_append]; omega), List.append_assoc]
  rw [if_neg h4]
  refine Ev.congr (f := fun _ => some _) (fun k => ?_) (Ev.now _)
  unfold code_write.f
  rw [if_neg h1, if_neg h2, if_neg h3, if_neg h4]
  by_cases h5 : f.f3 = true
  · rw [if_pos h5, if_pos h5, if_pos (by omega)]
  · rw [if_neg h5, if_neg h5, if_pos (by omega)]
theorem rd_at (l : List S29) (i : Nat) (h : i < l.length) : rd_T29 l (i : Int) = l[i] := by
  unfold rd_T29
  rw [Int.toNat_natCast, List.getD_eq_getElem?_getD, List.getElem?_eq_getElem h]; rfl
theorem wrap_s (i : Nat) (h : i < 9223372036854775807) : wrap64 ((i : Int) + 1) = ((i + 1 : Nat) : Int) := by unfold wrap64; omega
theorem rfits_loop (l : List S29) (hl : l.length < 9223372036854775807) : ∀ (n i : Nat), i + n = l.length → Ev (fun k => reefref02_fits.l0 k l (i : Int)) ((l.drop i).all fitV) := by
  intro n
  induction n with
  | zero =>
    intro i hi
    rw [List.drop_of_length_le (by omega), List.all_nil]
    refine Ev.step (f := fun _ => some true) (fun k => ?_) (Ev.now _)
    simp only [reefref02_fits.l0]
    rw [if_neg (by omega)]
  | succ n ih =>
    intro i hi
    have hil : i < l.length := by omega
    have e := rd_at l i hil
    rw [List.drop_eq_getElem_cons hil, List.all_cons]
    refine Ev.step (f := fun k => if fitV l[i] = true then reefref02_fits.l0 k l ((i + 1 : Nat) : Int) else some false) (fun k => ?_) ?_
    · simp only [reefref02_fits.l0]
      rw [if_pos (by omega), if_pos (by omega), e, wrap_s i (by omega), rfit_eq, Option.bind_some]
    · cases hf : fitV l[i] with
      | false =>
        refine Ev.congr (f := fun _ => some false) (fun k => ?_) (Ev.now _)
        rw [if_neg (by decide)]
      | true =>
        rw [Bool.true_and]
        exact Ev.congr (fun k => by rw [if_pos rfl]) (ih (i + 1) (by omega))
theorem rfits_ev (l : List S29) (hl : l.length < 9223372036854775807) : Ev (fun k => reefref02_fits.f k l) (l.all fitV) := by
  have := rfits_loop l hl l.length 0 (by omega)
  simp only [List.drop_zero] at this
  exact this
end Go.Proofs.YtcheinjlgojepaaDoor.Pure
namespace Go.Proofs.YtcheinjlgojepaaDoor.Pure
open Go.RowKit Go.Proofs.YtcheinjlgojepaaDoor.P Go.Proofs.YtcheinjlgojepaaDoorW.PrintWords
theorem awake_evr : Ev (fun k => reeflaw02_awake.f k) true := Ev.of (k := 14) (fun k => reeflaw02_awake.mono k) (by decide +kernel)
end Go.Proofs.YtcheinjlgojepaaDoor.Pure
