-- left of the seat's texts by prune.py, a program of this session
import Derived.Test.YtcheinjlgojepaaDoorP7
import Derived.Test.YtcheinjlgojepaaDoorP10
import Derived.Test.YtcheinjlgojepaaDoorP13
import Derived.Test.YtcheinjlgojepaaDoorOps
import Derived.Laws.Bits64
import Derived.OpenShut
import Derived.Test.YtcheinjlgojepaaDoorP23
import Derived.Test.YtcheinjlgojepaaDoorP24
namespace Go.Proofs.YtcheinjlgojepaaDoor.Pure
open Go.RowKit Go.Proofs.YtcheinjlgojepaaDoor.P Go.Proofs.YtcheinjlgojepaaDoorW.PrintWords Go.Proofs.YtcheinjlgojepaaDoorW.PrintLast Go.Proofs.YtcheinjlgojepaaDoorW.PrintMore
set_option linter.unusedVariables false
set_option linter.unusedSimpArgs false
def fitV (f : S29) : Bool := if f.f0 = 1 then (f.f1 == (mx f.f1 0) && (f.f2.toList == ([] : List UInt8) && (!f.f3))) else (if f.f0 = 2 then (f.f2.toList == ([] : List UInt8) && (!f.f3)) else (if f.f0 = 3 then (f.f1 == (mn (mx f.f1 0) 4294967295) && (f.f2.toList == ([] : List UInt8) && (!f.f3))) else (if f.f0 = 4 then (f.f1 == 0 && (!f.f3)) else (if f.f0 = 5 then (f.f1 == 0 && (f.f2.toList == ([] : List UInt8))) else false))))
theorem empty_toList : (⟨#[]⟩ : ByteArray).toList = ([] : List UInt8) := by rw [ByteArray.toList_eq]
theorem beq_swap {α : Type} [BEq α] [LawfulBEq α] (a b : α) : (a == b) = (b == a) := by
  by_cases h : a = b
  · subst h; rfl
  · rw [beq_eq_false_iff_ne.2 h, beq_eq_false_iff_ne.2 (Ne.symm h)]
theorem cfit_ev (f : S29) : Ev (fun k => code_Fit.f k f.f0 f.f1 f.f2 f.f3) (fitV f) := by
  refine Ev.step (f := fun _ => some (fitV f)) (fun k => ?_) (Ev.now _)
  obtain ⟨a0, a1, a2, a3⟩ := f
  unfold code_Fit.f
  simp only [code_Fit.j0, fitV, empty_toList, beq_self_eq_true, Bool.true_and]
  have e2 : ([] == a2.toList) = (a2.toList == ([] : List UInt8)) := beq_swap _ _
  have e3 : (false == a3) = !a3 := by cases a3 <;> rfl
  have e1 : ((0 : Int) == a1) = (a1 == 0) := beq_swap _ _
  rw [e1, e2, e3]
  by_cases h1 : a0 = 1
  · subst h1
    simp only [if_true, beq_self_eq_true]
    by_cases hn : a1 < 0
    · rw [if_pos hn]
      have : (a1 == mx a1 0) = false := by unfold mx; rw [beq_eq_false_iff_ne]; split <;> omega
      rw [this]; rfl
    · rw [if_neg hn, if_neg (by decide)]
      have : (a1 == mx a1 0) = true := by unfold mx; rw [beq_iff_eq]; split <;> omega
      rw [this]; rfl
  · rw [if_neg h1, if_neg h1]
    by_cases h3 : a0 = 3
    · subst h3
      simp only [if_true, beq_self_eq_true, if_neg (show ¬ ((3 : Int) = 2) from by decide)]
      by_cases hn : a1 < 0
      · rw [if_pos hn]
        have : (a1 == mn (mx a1 0) 4294967295) = false := by unfold mx mn; rw [beq_eq_false_iff_ne]; repeat' split <;> omega
        rw [this]; rfl
      · rw [if_neg hn]
        by_cases hm : a1 > 4294967295
        · rw [if_pos hm]
          have : (a1 == mn (mx a1 0) 4294967295) = false := by unfold mx mn; rw [beq_eq_false_iff_ne]; repeat' split <;> omega
          rw [this]; rfl
        · rw [if_neg hm]
          have : (a1 == mn (mx a1 0) 4294967295) = true := by unfold mx mn; rw [beq_iff_eq]; repeat' split <;> omega
          rw [this]; rfl
    · have e : (a0 == 3) = false := beq_eq_false_iff_ne.2 h3
      rw [e, if_neg (by decide), if_neg h3]
      by_cases h2 : a0 = 2
      · rw [if_pos h2, if_pos h2]
      · rw [if_neg h2, if_neg h2]
        by_cases h4 : a0 = 4
        · rw [if_pos h4, if_pos h4]
        · rw [if_neg h4, if_neg h4]
          by_cases h5 : a0 = 5
          · rw [if_pos h5, if_pos h5]
          · rw [if_neg h5, if_neg h5]
def numL : Nat → Int → List Int
  | 0, x => [x]
  | n + 1, x => if x ≥ 128 then (x % 128 + 128) :: numL n (x / 128) else [x]
theorem numL_len : ∀ n x, (numL n x).length ≤ n + 1
  | 0, x => by simp [numL]
  | n + 1, x => by
    have := numL_len n (x / 128)
    rw [numL]; split
    · rw [List.length_cons]; omega
    · simp
theorem or128 : ∀ n : Fin 256, Go.bits .or .u8 (n.val : Int) 128 = ((n.val % 128 + 128 : Nat) : Int) := by decide +kernel
theorem or128' (x : Int) (h : 0 ≤ x) : Go.bits .or .u8 (x % 256) 128 = x % 128 + 128 := by
  have := or128 ⟨(x % 256).toNat, by omega⟩
  simp only at this
  rw [Int.toNat_of_nonneg (by omega)] at this
  rw [this]; omega
theorem cnum_ev : ∀ (n : Nat) (x : Int) (b : List Int), 0 ≤ x → x < 128 ^ (n + 1) → b.length + n + 1 ≤ 140737488355328 → Ev (fun k => code_number.l0 k b x) (b ++ numL n x) := by
  intro n
  induction n with
  | zero =>
    intro x b h0 h1 hb
    refine Ev.step (f := fun _ => some (b ++ numL 0 x)) (fun k => ?_) (Ev.now _)
    simp only [code_number.l0, numL]
    have h1' : x < 128 := h1
    rw [if_neg (by omega), if_pos (by omega), show x % 256 = x from by omega]
  | succ n ih =>
    intro x b h0 h1 hb
    by_cases h : x ≥ 128
    · have i := ih (x / 128) (b ++ [x % 128 + 128]) (by omega) (by rw [Int.pow_succ] at h1; omega) (by rw [List.length_append, List.length_singleton]; omega)
      refine Ev.step (f := fun k => code_number.l0 k (b ++ [x % 128 + 128]) (x / 128)) (fun k => ?_) ?_
      · simp only [code_number.l0]
        rw [if_pos h, if_pos (by omega), or128' x h0]
      · rw [List.append_assoc] at i
        rw [numL, if_pos h]
        exact i
    · refine Ev.step (f := fun _ => some (b ++ numL (n + 1) x)) (fun k => ?_) (Ev.now _)
      simp only [code_number.l0, numL]
      rw [if_neg h, if_neg h, if_pos (by omega), show x % 256 = x from by omega]
theorem u64_wrap (x : Int) (h0 : 0 ≤ x) (h1 : x < 18446744073709551616) : IntKind.u64.wrap x = x := by
  simp [IntKind.wrap, IntKind.bits, IntKind.signed]; omega
def zigV (x : Int) : Int := if x < 0 then 2 * (-(x + 1)) + 1 else 2 * x
theorem not_nat (y : Nat) (h : y < 18446744073709551616) : y ^^^ 18446744073709551615 = 18446744073709551615 - y := by
  have e := congrArg BitVec.toNat (BitVec.xor_allOnes (x := BitVec.ofNat 64 y))
  rw [BitVec.toNat_xor, BitVec.toNat_not, BitVec.toNat_ofNat, BitVec.toNat_allOnes] at e
  have e2 : y % 2 ^ 64 = y := Nat.mod_eq_of_lt h
  rw [e2] at e
  exact e
theorem zag_eq (x : Int) (h0 : -9223372036854775808 ≤ x) (h1 : x < 9223372036854775808) : Go.bits .xor .u64 (IntKind.u64.wrap ((IntKind.u64.wrap x) * 2)) (IntKind.u64.wrap (x / 9223372036854775808)) = zigV x := by
  unfold zigV
  by_cases h : x < 0
  · rw [if_pos h]
    have e1 : IntKind.u64.wrap x = x + 18446744073709551616 := by rw [IntKind.wrap_u64]; omega
    have e2 : IntKind.u64.wrap ((x + 18446744073709551616) * 2) = ((2 * x + 18446744073709551616).toNat : Int) := by rw [IntKind.wrap_u64]; omega
    have e3 : IntKind.u64.wrap (x / 9223372036854775808) = ((18446744073709551615 : Nat) : Int) := by rw [IntKind.wrap_u64]; omega
    rw [e1, e2, e3, bits_xor_u64_nat _ _ (by omega) (by omega), not_nat _ (by omega)]
    omega
  · rw [if_neg h]
    have e1 : IntKind.u64.wrap x = x := by rw [IntKind.wrap_u64]; omega
    have e2 : IntKind.u64.wrap (x * 2) = ((2 * x).toNat : Int) := by rw [IntKind.wrap_u64]; omega
    have e3 : IntKind.u64.wrap (x / 9223372036854775808) = ((0 : Nat) : Int) := by rw [IntKind.wrap_u64]; omega
    rw [e1, e2, e3, bits_xor_u64_nat _ _ (by omega) (by omega), Nat.xor_zero]
    omega
theorem wf_i64 {n : Int} (h : (Lit.int .i64 n).wf = true) : -9223372036854775808 ≤ n ∧ n < 9223372036854775808 := by
  have := bounds_i64 h
  omega
def wr (f : S29) : List Int :=
  if f.f0 = 1 then numL 9 (IntKind.u64.wrap f.f1) else if f.f0 = 2 then numL 9 (zigV f.f1)
  else if f.f0 = 3 then [f.f1 % 256, (f.f1 / 256) % 256, (f.f1 / 65536) % 256, (f.f1 / 16777216) % 256]
  else if f.f0 = 4 then numL 9 (f.f2.size : Int) ++ bytesOf f.f2
  else if f.f3 = true then [1] else [0]
theorem wr_len (f : S29) : (wr f).length ≤ 10 + f.f2.size := by
  unfold wr
  have h1 := numL_len 9 (IntKind.u64.wrap f.f1)
  have h2 := numL_len 9 (zigV f.f1)
  have h3 := numL_len 9 (f.f2.size : Int)
  split
  · omega
  split
  · omega
  split
  · simp only [List.length_cons, List.length_nil]; omega
  split
  · rw [List.length_append, bytesOf_length]; omega
  split <;> simp only [List.length_cons, List.length_nil] <;> omega
theorem pow10 {x : Int} (h : x < 18446744073709551616) : x < 128 ^ (9 + 1) := by
  have : (128 : Int) ^ (9 + 1) = 1180591620717411303424 := by decide
  omega
theorem zig_bounds (x : Int) (h0 : -9223372036854775808 ≤ x) (h1 : x < 9223372036854775808) : 0 ≤ zigV x ∧ zigV x < 18446744073709551616 := by unfold zigV; split <;> omega
theorem cwrite_ev (f : S29) (g : G29 f) (b : List Int) (hb : b.length + 10 + f.f2.size < 140737488355328) : Ev (fun k => code_write.f k b f.f0 f.f1 f.f2 f.f3) (b ++ wr f) := by
  obtain ⟨g0, g1, g2, _⟩ := g
  obtain ⟨hl, hh⟩ := wf_i64 g1
  obtain ⟨z0, z1⟩ := zig_bounds f.f1 hl hh
  have hu : 0 ≤ IntKind.u64.wrap f.f1 ∧ IntKind.u64.wrap f.f1 < 18446744073709551616 := by rw [IntKind.wrap_u64]; omega
  unfold wr
  by_cases h1 : f.f0 = 1
  · rw [if_pos h1]
    refine Ev.congr (fun k => by unfold code_write.f; rw [if_pos h1]; rfl) (Ev.bind (cnum_ev 9 _ b hu.1 (pow10 hu.2) (by omega)) (Ev.now _))
  rw [if_neg h1]
  by_cases h2 : f.f0 = 2
  · rw [if_pos h2]
    refine Ev.congr (fun k => by unfold code_write.f; rw [if_neg h1, if_pos h2, zag_eq _ hl hh]; rfl) (Ev.bind (cnum_ev 9 _ b z0 (pow10 z1) (by omega)) (Ev.now _))
  rw [if_neg h2]
  by_cases h3 : f.f0 = 3
  · rw [if_pos h3]
    refine Ev.congr (f := fun _ => some _) (fun k => ?_) (Ev.now _)
    unfold code_write.f
    rw [if_neg h1, if_neg h2, if_pos h3, Option.bind_some, if_pos (by simp only [List.length_cons, List.length_nil]; omega)]
  rw [if_neg h3]
  by_cases h4 : f.f0 = 4
  · rw [if_pos h4]
    have hs : IntKind.u64.wrap (f.f2.size : Int) = (f.f2.size : Int) := u64_wrap _ (by omega) (by omega)
    have hn := numL_len 9 (f.f2.size : Int)
    refine Ev.congr (fun k => by unfold code_write.f; rw [if_neg h1, if_neg h2, if_neg h3, if_pos h4, hs]; rfl) (Ev.bind (cnum_ev 9 _ b (by omega) (pow10 (by omega)) (by omega)) ?_)
    refine Ev.congr (f := fun _ => some _) (fun k => ?_) (Ev.now _)
    rw [if_pos (by rw [List.length_append]; omega), List.append_assoc]
  rw [if_neg h4]
  refine Ev.congr (f := fun _ => some _) (fun k => ?_) (Ev.now _)
  unfold code_write.f
  rw [if_neg h1, if_neg h2, if_neg h3, if_neg h4]
  by_cases h5 : f.f3 = true
  · rw [if_pos h5, if_pos h5, if_pos (by omega)]
  · rw [if_neg h5, if_neg h5, if_pos (by omega)]
def wt (l : List S29) : Nat := (l.map fun f => 10 + f.f2.size).sum
theorem rd_at (l : List S29) (i : Nat) (h : i < l.length) : rd_T29 l (i : Int) = l[i] := by
  unfold rd_T29
  rw [Int.toNat_natCast, List.getD_eq_getElem?_getD, List.getElem?_eq_getElem h]; rfl
theorem wrap_s (i : Nat) (h : i < 9223372036854775807) : wrap64 ((i : Int) + 1) = ((i + 1 : Nat) : Int) := by unfold wrap64; omega
theorem cfields_loop (l : List S29) (hl : l.length < 9223372036854775807) (hg : ∀ f ∈ l, G29 f) : ∀ (n i : Nat) (b : List Int), i + n = l.length → b.length + wt (l.drop i) < 140737488355328 →
    Ev (fun k => code_Fields.l0 k b l (l.length : Int) (i : Int)) (if (l.drop i).all fitV = true then b ++ (l.drop i).flatMap wr else []) := by
  intro n
  induction n with
  | zero =>
    intro i b hi hb
    rw [List.drop_of_length_le (by omega), List.all_nil, if_pos rfl, List.flatMap_nil, List.append_nil]
    refine Ev.step (f := fun _ => some b) (fun k => ?_) (Ev.now _)
    simp only [code_Fields.l0]
    rw [if_neg (by omega)]
  | succ n ih =>
    intro i b hi hb
    have hil : i < l.length := by omega
    have e := rd_at l i hil
    have ed := List.drop_eq_getElem_cons hil
    rw [ed] at hb ⊢
    rw [List.all_cons, List.flatMap_cons]
    have hw : wt (l[i] :: l.drop (i + 1)) = 10 + l[i].f2.size + wt (l.drop (i + 1)) := by unfold wt; rw [List.map_cons, List.sum_cons]
    rw [hw] at hb
    refine Ev.step (f := fun k => (code_Fit.f k l[i].f0 l[i].f1 l[i].f2 l[i].f3).bind fun t148 => (if t148 = true then ((code_write.f k b l[i].f0 l[i].f1 l[i].f2 l[i].f3).bind fun t149 => (code_Fields.l0 k t149 l (l.length : Int) ((i + 1 : Nat) : Int))) else (some ([] : List Int)))) (fun k => ?_) ?_
    · simp only [code_Fields.l0]
      rw [if_pos (by omega), if_pos (by omega), if_pos (by omega), e, wrap_s i (by omega)]
    · refine Ev.bind (cfit_ev _) ?_
      cases hf : fitV l[i] with
      | false =>
        rw [Bool.false_and, if_neg (by decide)]
        refine Ev.congr (f := fun _ => some []) (fun k => ?_) (Ev.now _)
        rw [if_neg (by decide)]
      | true =>
        rw [Bool.true_and]
        refine Ev.congr (f := fun k => (code_write.f k b l[i].f0 l[i].f1 l[i].f2 l[i].f3).bind fun t149 => (code_Fields.l0 k t149 l (l.length : Int) ((i + 1 : Nat) : Int))) (fun k => by rw [if_pos rfl]) ?_
        refine Ev.bind (cwrite_ev _ (hg _ (List.getElem_mem _)) b (by omega)) ?_
        have hwl := wr_len l[i]
        have := ih (i + 1) (b ++ wr l[i]) (by omega) (by rw [List.length_append]; omega)
        rw [List.append_assoc] at this
        exact this
def wrs (l : List S29) : List Int := if l.all fitV = true then l.flatMap wr else []
theorem cfields_ev (l : List S29) (hl : l.length < 9223372036854775807) (hg : ∀ f ∈ l, G29 f) (hw : wt l < 140737488355328) : Ev (fun k => code_Fields.f k l) (wrs l) := by
  have := cfields_loop l hl hg l.length 0 [] (by omega) (by simpa using hw)
  simp only [List.drop_zero, List.nil_append] at this
  exact this
end Go.Proofs.YtcheinjlgojepaaDoor.Pure
namespace Go.Proofs.YtcheinjlgojepaaDoor.Pure
open Go.RowKit Go.Proofs.YtcheinjlgojepaaDoor.P Go.Proofs.YtcheinjlgojepaaDoorW.PrintWords Go.Proofs.YtcheinjlgojepaaDoorW.PrintLast Go.Proofs.YtcheinjlgojepaaDoorW.PrintMore
set_option linter.unusedVariables false
set_option linter.unusedSimpArgs false
theorem esc_len : ∀ l : List UInt8, (esc l).length = l.length + l.count 0
  | [] => rfl
  | b :: l => by
    rw [esc, List.count_cons, List.length_cons]
    by_cases hb : b = 0
    · subst hb
      simp only [if_true, List.length_cons, beq_self_eq_true]
      rw [esc_len l]; omega
    · rw [if_neg hb, List.length_cons, esc_len l, if_neg (by simpa using hb)]; omega
theorem count_le (l : List UInt8) : l.count 0 ≤ l.length := List.count_le_length
def te (l : List UInt8) : List Int := (esc l).map (fun b => (b.toNat : Int)) ++ [0, 1]
def keyB (f : S29) : List Int :=
  if f.f0 = 1 ∨ f.f0 = 3 then high8 (IntKind.u64.wrap f.f1)
  else if f.f0 = 2 then high8 (Go.bits .xor .u64 (IntKind.u64.wrap f.f1) 9223372036854775808)
  else if f.f0 = 4 then te f.f2.data.toList
  else if f.f0 = 5 then wr f
  else []
theorem keyB_len (f : S29) : (keyB f).length ≤ 10 + 2 * f.f2.size := by
  unfold keyB
  split
  · simp [high8]; omega
  split
  · simp [high8]; omega
  split
  · have h1 := esc_len f.f2.data.toList
    have h2 := count_le f.f2.data.toList
    have h3 : f.f2.data.toList.length = f.f2.size := data_length _
    unfold te
    rw [List.length_append, List.length_map]
    simp only [List.length_cons, List.length_nil]
    omega
  split
  · next h5 =>
    unfold wr
    rw [if_neg (by omega), if_neg (by omega), if_neg (by omega), if_neg (by omega)]
    split <;> simp only [List.length_cons, List.length_nil] <;> omega
  · simp
def wk (l : List S29) : Nat := (l.map fun f => 10 + 3 * f.f2.size).sum
theorem fit_kind (f : S29) (h : fitV f = true) : f.f0 = 1 ∨ f.f0 = 2 ∨ f.f0 = 3 ∨ f.f0 = 4 ∨ f.f0 = 5 := by
  unfold fitV at h
  by_cases h1 : f.f0 = 1
  · exact .inl h1
  by_cases h2 : f.f0 = 2
  · exact .inr (.inl h2)
  by_cases h3 : f.f0 = 3
  · exact .inr (.inr (.inl h3))
  by_cases h4 : f.f0 = 4
  · exact .inr (.inr (.inr (.inl h4)))
  by_cases h5 : f.f0 = 5
  · exact .inr (.inr (.inr (.inr h5)))
  rw [if_neg h1, if_neg h2, if_neg h3, if_neg h4, if_neg h5] at h
  cases h
theorem key_step (l : List S29) (b : List Int) (i : Nat) (f : S29) (g : G29 f) (hf : fitV f = true) (hi : i < 9223372036854775807) (hb : b.length + 10 + 3 * f.f2.size < 140737488355328) (r : ByteArray)
    (H : Ev (fun k => code_Key.l0 k (b ++ keyB f) l (l.length : Int) ((i + 1 : Nat) : Int)) r) :
    Ev (fun k => if f.f0 = 1 then (code_Key.j1 k b l (l.length : Int) (i : Int) f.f0 (f.f0 == 1) f.f0 f.f1 f.f2 f.f3) else (code_Key.j1 k b l (l.length : Int) (i : Int) f.f0 (f.f0 == 3) f.f0 f.f1 f.f2 f.f3)) r := by
  have hkl := keyB_len f
  have hw := wrap_s i hi
  unfold keyB at H hkl
  by_cases h13 : f.f0 = 1 ∨ f.f0 = 3
  · rw [if_pos h13] at H hkl
    have main : ∀ x, x = true → Ev (fun k => code_Key.j1 k b l (l.length : Int) (i : Int) f.f0 x f.f0 f.f1 f.f2 f.f3) r := by
      intro x hx
      subst hx
      refine Ev.step (fun k => ?_) H
      simp only [code_Key.j1]
      rw [if_pos trivial, code_high.f, Option.bind_some, if_pos (by omega), hw]
    by_cases h1 : f.f0 = 1
    · exact Ev.congr (fun k => by rw [if_pos h1]) (main (f.f0 == 1) (by rw [h1]; rfl))
    · exact Ev.congr (fun k => by rw [if_neg h1]) (main (f.f0 == 3) (by rw [h13.resolve_left h1]; rfl))
  · rw [if_neg h13] at H hkl
    have h1 : ¬ f.f0 = 1 := fun h => h13 (.inl h)
    have h3 : (f.f0 == 3) = false := beq_eq_false_iff_ne.2 (fun h => h13 (.inr h))
    refine Ev.congr (f := fun k => code_Key.j1 k b l (l.length : Int) (i : Int) f.f0 false f.f0 f.f1 f.f2 f.f3) (fun k => by rw [if_neg h1, h3]) ?_
    by_cases h2 : f.f0 = 2
    · rw [if_pos h2] at H hkl
      refine Ev.step (fun k => ?_) H
      simp only [code_Key.j1]
      rw [if_neg (by decide), if_pos h2, code_high.f, Option.bind_some, if_pos (by omega), hw]
    rw [if_neg h2] at H hkl
    by_cases h4 : f.f0 = 4
    · rw [if_pos h4] at H hkl
      refine Ev.step (fun k => ?_) H
      simp only [code_Key.j1]
      have hs : f.f2.data.toList.length = f.f2.size := data_length _
      have hc := count_le f.f2.data.toList
      have hr : strings_ReplaceAll.f f.f2 (⟨#[0]⟩ : ByteArray) (⟨#[0, 255]⟩ : ByteArray) = some ⟨(esc f.f2.data.toList).toArray⟩ := by
        unfold strings_ReplaceAll.f
        exact if_pos ⟨rfl, rfl, by omega⟩
      have hsz : (⟨(esc f.f2.data.toList).toArray⟩ : ByteArray).size = (esc f.f2.data.toList).length := by show (esc f.f2.data.toList).toArray.size = _; simp
      have hbo : bytesOf (⟨(esc f.f2.data.toList).toArray⟩ : ByteArray) = (esc f.f2.data.toList).map (fun b => (b.toNat : Int)) := by unfold bytesOf; simp
      have hel := esc_len f.f2.data.toList
      rw [if_neg (by decide), if_neg h2, if_pos h4, hr, Option.bind_some, hsz, if_pos (by omega), Option.bind_some, Option.bind_some, hbo, if_pos (by rw [List.length_append, List.length_map]; simp only [List.length_cons, List.length_nil]; omega), hw, List.append_assoc]
      rfl
    rw [if_neg h4] at H hkl
    by_cases h5 : f.f0 = 5
    · rw [if_pos h5] at H hkl
      refine Ev.step (f := fun k => (code_write.f k b f.f0 f.f1 f.f2 f.f3).bind fun t179 => (code_Key.l0 k t179 l (l.length : Int) ((i + 1 : Nat) : Int))) (fun k => ?_) (Ev.bind (cwrite_ev f g b (by omega)) H)
      simp only [code_Key.j1]
      rw [if_neg (by decide), if_neg h2, if_neg h4, if_pos h5, hw]
    · exfalso
      rcases fit_kind f hf with h | h | h | h | h
      · exact h1 h
      · exact h2 h
      · exact h13 (.inr h)
      · exact h4 h
      · exact h5 h
theorem key_loop (l : List S29) (hl : l.length < 9223372036854775807) (hg : ∀ f ∈ l, G29 f) : ∀ (n i : Nat) (b : List Int), i + n = l.length → b.length + wk (l.drop i) < 140737488355328 →
    Ev (fun k => code_Key.l0 k b l (l.length : Int) (i : Int)) (if (l.drop i).all fitV = true then strOfNums (b ++ (l.drop i).flatMap keyB) else ⟨#[]⟩) := by
  intro n
  induction n with
  | zero =>
    intro i b hi hb
    rw [List.drop_of_length_le (by omega), List.all_nil, if_pos rfl, List.flatMap_nil, List.append_nil]
    refine Ev.step (f := fun _ => some (strOfNums b)) (fun k => ?_) (Ev.now _)
    simp only [code_Key.l0]
    rw [if_neg (by omega)]
  | succ n ih =>
    intro i b hi hb
    have hil : i < l.length := by omega
    have e := rd_at l i hil
    rw [List.drop_eq_getElem_cons hil] at hb ⊢
    rw [List.all_cons, List.flatMap_cons]
    have hw : wk (l[i] :: l.drop (i + 1)) = 10 + 3 * l[i].f2.size + wk (l.drop (i + 1)) := by unfold wk; rw [List.map_cons, List.sum_cons]
    rw [hw] at hb
    refine Ev.step (f := fun k => (code_Fit.f k l[i].f0 l[i].f1 l[i].f2 l[i].f3).bind fun t156 => (if t156 = true then (if l[i].f0 = 1 then (code_Key.j1 k b l (l.length : Int) (i : Int) l[i].f0 (l[i].f0 == 1) l[i].f0 l[i].f1 l[i].f2 l[i].f3) else (code_Key.j1 k b l (l.length : Int) (i : Int) l[i].f0 (l[i].f0 == 3) l[i].f0 l[i].f1 l[i].f2 l[i].f3)) else (some (⟨#[]⟩ : ByteArray)))) (fun k => ?_) ?_
    · simp only [code_Key.l0]
      rw [if_pos (by omega), if_pos (by omega), if_pos (by omega), e]
    · refine Ev.bind (cfit_ev _) ?_
      cases hf : fitV l[i] with
      | false =>
        rw [Bool.false_and, if_neg (by decide)]
        exact Ev.congr (f := fun _ => some ⟨#[]⟩) (fun k => by rw [if_neg (by decide)]) (Ev.now _)
      | true =>
        rw [Bool.true_and]
        refine Ev.congr (fun k => by rw [if_pos rfl]) (key_step l b i l[i] (hg _ (List.getElem_mem _)) hf (by omega) (by omega) _ ?_)
        have hwl := keyB_len l[i]
        have := ih (i + 1) (b ++ keyB l[i]) (by omega) (by rw [List.length_append]; omega)
        rw [List.append_assoc] at this
        exact this
def keyV (l : List S29) : ByteArray := if l.all fitV = true then strOfNums (l.flatMap keyB) else ⟨#[]⟩
theorem key_ev (l : List S29) (hl : l.length < 9223372036854775807) (hg : ∀ f ∈ l, G29 f) (hw : wk l < 140737488355328) : Ev (fun k => code_Key.f k l) (keyV l) := by
  have := key_loop l hl hg l.length 0 [] (by omega) (by simpa using hw)
  simp only [List.drop_zero, List.nil_append] at this
  exact this
end Go.Proofs.YtcheinjlgojepaaDoor.Pure
namespace Go.Proofs.YtcheinjlgojepaaDoor.Pure
open Go.RowKit Go.Proofs.YtcheinjlgojepaaDoor.P Go.Proofs.YtcheinjlgojepaaDoorW.PrintWords
theorem awake_evr : Ev (fun k => reeflaw02_awake.f k) true := Ev.of (k := 14) (fun k => reeflaw02_awake.mono k) (by decide +kernel)
end Go.Proofs.YtcheinjlgojepaaDoor.Pure
