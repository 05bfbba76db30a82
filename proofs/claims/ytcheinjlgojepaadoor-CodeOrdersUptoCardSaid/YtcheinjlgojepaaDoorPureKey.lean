-- left of the seat's texts by prune.py, a program of this session
import Derived.Test.YtcheinjlgojepaaDoorP23
import Derived.Test.YtcheinjlgojepaaDoorPureWrite
import Derived.Test.YtcheinjlgojepaaDoorLess
import Derived.Test.YtcheinjlgojepaaDoorOrder
namespace Go.Proofs.YtcheinjlgojepaaDoor.Pure
open Go.RowKit Go.Proofs.YtcheinjlgojepaaDoor.P Go.Proofs.YtcheinjlgojepaaDoorW.PrintWords Go.Proofs.YtcheinjlgojepaaDoorW.PrintLast Go.Proofs.YtcheinjlgojepaaDoorW.PrintMore
set_option linter.unusedVariables false
set_option linter.unusedSimpArgs false
theorem esc_len : ∀ l : List UInt8, (esc l).length = l.length + l.count 0
  | [] => rfl
  | b :: l => by
    rw [esc, List.count_cons, List.length_cons]
    by_cases hb : b = 0
    · subst hb
      simp only [if_true, List.length_cons, beq_self_eq_true]
      rw [esc_len l]; omega
    · rw [if_neg hb, List.length_cons, esc_len l, if_neg (by simpa using hb)]; omega
theorem count_le (l : List UInt8) : l.count 0 ≤ l.length := List.count_le_length
def te (l : List UInt8) : List Int := (esc l).map (fun b => (b.toNat : Int)) ++ [0, 1]
def keyB (f : S29) : List Int :=
  if f.f0 = 1 ∨ f.f0 = 3 then high8 (IntKind.u64.wrap f.f1)
  else if f.f0 = 2 then high8 (Go.bits .xor .u64 (IntKind.u64.wrap f.f1) 9223372036854775808)
  else if f.f0 = 4 then te f.f2.data.toList
  else if f.f0 = 5 then wr f
  else []
theorem keyB_len (f : S29) : (keyB f).length ≤ 10 + 2 * f.f2.size := by
  unfold keyB
  split
  · simp [high8]; omega
  split
  · simp [high8]; omega
  split
  · have h1 := esc_len f.f2.data.toList
    have h2 := count_le f.f2.data.toList
    have h3 : f.f2.data.toList.length = f.f2.size := data_length _
    unfold te
    rw [List.length_append, List.length_map]
    simp only [List.length_cons, List.length_nil]
    omega
  split
  · next h5 =>
    unfold wr
    rw [if_neg (by omega), if_neg (by omega), if_neg (by omega), if_neg (by omega)]
    split <;> simp only [List.length_cons, List.length_nil] <;> omega
  · simp
def wk (l : List S29) : Nat := (l.map fun f => 10 + 3 * f.f2.size).sum
theorem fit_kind (f : S29) (h : fitV f = true) : f.f0 = 1 ∨ f.f0 = 2 ∨ f.f0 = 3 ∨ f.f0 = 4 ∨ f.f0 = 5 := by
  unfold fitV at h
  by_cases h1 : f.f0 = 1
  · exact .inl h1
  by_cases h2 : f.f0 = 2
  · exact .inr (.inl h2)
  by_cases h3 : f.f0 = 3
  · exact .inr (.inr (.inl h3))
  by_cases h4 : f.f0 = 4
  · exact .inr (.inr (.inr (.inl h4)))
  by_cases h5 : f.f0 = 5
  · exact .inr (.inr (.inr (.inr h5)))
  rw [if_neg h1, if_neg h2, if_neg h3, if_neg h4, if_neg h5] at h
  cases h
theorem key_step (l : List S29) (b : List Int) (i : Nat) (f : S29) (g : G29 f) (hf : fitV f = true) (hi : i < 9223372036854775807) (hb : b.length + 10 + 3 * f.f2.size < 140737488355328) (r : ByteArray)
    (H : Ev (fun k => code_Key.l0 k (b ++ keyB f) l (l.length : Int) ((i + 1 : Nat) : Int)) r) :
    Ev (fun k => if f.f0 = 1 then (code_Key.j1 k b l (l.length : Int) (i : Int) f.f0 (f.f0 == 1) f.f0 f.f1 f.f2 f.f3) else (code_Key.j1 k b l (l.length : Int) (i : Int) f.f0 (f.f0 == 3) f.f0 f.f1 f.f2 f.f3)) r := by
  have hkl := keyB_len f
  have hw := wrap_s i hi
  unfold keyB at H hkl
  by_cases h13 : f.f0 = 1 ∨ f.f0 = 3
  · rw [if_pos h13] at H hkl
    have main : ∀ x, x = true → Ev (fun k => code_Key.j1 k b l (l.length : Int) (i : Int) f.f0 x f.f0 f.f1 f.f2 f.f3) r := by
      intro x hx
      subst hx
      refine Ev.step (fun k => ?_) H
      simp only [code_Key.j1]
      rw [if_pos trivial, code_high.f, Option.bind_some, if_pos (by omega), hw]
    by_cases h1 : f.f0 = 1
    · exact Ev.congr (fun k => by rw [if_pos h1]) (main (f.f0 == 1) (by rw [h1]; rfl))
    · exact Ev.congr (fun k => by rw [if_neg h1]) (main (f.f0 == 3) (by rw [h13.resolve_left h1]; rfl))
  · rw [if_neg h13] at H hkl
    have h1 : ¬ f.f0 = 1 := fun h => h13 (.inl h)
    have h3 : (f.f0 == 3) = false := beq_eq_false_iff_ne.2 (fun h => h13 (.inr h))
    refine Ev.congr (f := fun k => code_Key.j1 k b l (l.length : Int) (i : Int) f.f0 false f.f0 f.f1 f.f2 f.f3) (fun k => by rw [if_neg h1, h3]) ?_
    by_cases h2 : f.f0 = 2
    · rw [if_pos h2] at H hkl
      refine Ev.step (fun k => ?_) H
      simp only [code_Key.j1]
      rw [if_neg (by decide), if_pos h2, code_high.f, Option.bind_some, if_pos (by omega), hw]
    rw [if_neg h2] at H hkl
    by_cases h4 : f.f0 = 4
    · rw [if_pos h4] at H hkl
      refine Ev.step (fun k => ?_) H
      simp only [code_Key.j1]
      have hs : f.f2.data.toList.length = f.f2.size := data_length _
      have hc := count_le f.f2.data.toList
      have hr : strings_ReplaceAll.f f.f2 (⟨#[0]⟩ : ByteArray) (⟨#[0, 255]⟩ : ByteArray) = some ⟨(esc f.f2.data.toList).toArray⟩ := by
        unfold strings_ReplaceAll.f
        exact if_pos ⟨rfl, rfl, by omega⟩
      have hsz : (⟨(esc f.f2.data.toList).toArray⟩ : ByteArray).size = (esc f.f2.data.toList).length := by show (esc f.f2.data.toList).toArray.size = _; simp
      have hbo : bytesOf (⟨(esc f.f2.data.toList).toArray⟩ : ByteArray) = (esc f.f2.data.toList).map (fun b => (b.toNat : Int)) := by unfold bytesOf; simp
      have hel := esc_len f.f2.data.toList
      rw [if_neg (by decide), if_neg h2, if_pos h4, hr, Option.bind_some, hsz, if_pos (by omega), Option.bind_some, Option.bind_some, hbo, if_pos (by rw [List.length_append, List.length_map]; simp only [List.length_cons, List.length_nil]; omega), hw, List.append_assoc]
      rfl
    rw [if_neg h4] at H hkl
    by_cases h5 : f.f0 = 5
    · rw [if_pos h5] at H hkl
      refine Ev.step (f := fun k => (code_write.f k b f.f0 f.f1 f.f2 f.f3).bind fun t179 => (code_Key.l0 k t179 l (l.length : Int) ((i + 1 : Nat) : Int))) (fun k => ?_) (Ev.bind (cwrite_ev f g b (by omega)) H)
      simp only [code_Key.j1]
      rw [if_neg (by decide), if_neg h2, if_neg h4, if_pos h5, hw]
    · exfalso
      rcases fit_kind f hf with h | h | h | h | h
      · exact h1 h
      · exact h2 h
      · exact h13 (.inr h)
      · exact h4 h
      · exact h5 h
theorem key_loop (l : List S29) (hl : l.length < 9223372036854775807) (hg : ∀ f ∈ l, G29 f) : ∀ (n i : Nat) (b : List Int), i + n = l.length → b.length + wk (l.drop i) < 140737488355328 →
    Ev (fun k => code_Key.l0 k b l (l.length : Int) (i : Int)) (if (l.drop i).all fitV = true then strOfNums (b ++ (l.drop i).flatMap keyB) else ⟨#[]⟩) := by
  intro n
  induction n with
  | zero =>
    intro i b hi hb
    rw [List.drop_of_length_le (by omega), List.all_nil, if_pos rfl, List.flatMap_nil, List.append_nil]
    refine Ev.step (f := fun _ => some (strOfNums b)) (fun k => ?_) (Ev.now _)
    simp only [code_Key.l0]
    rw [if_neg (by omega)]
  | succ n ih =>
    intro i b hi hb
    have hil : i < l.length := by omega
    have e := rd_at l i hil
    rw [List.drop_eq_getElem_cons hil] at hb ⊢
    rw [List.all_cons, List.flatMap_cons]
    have hw : wk (l[i] :: l.drop (i + 1)) = 10 + 3 * l[i].f2.size + wk (l.drop (i + 1)) := by unfold wk; rw [List.map_cons, List.sum_cons]
    rw [hw] at hb
    refine Ev.step (f := fun k => (code_Fit.f k l[i].f0 l[i].f1 l[i].f2 l[i].f3).bind fun t156 => (if t156 = true then (if l[i].f0 = 1 then (code_Key.j1 k b l (l.length : Int) (i : Int) l[i].f0 (l[i].f0 == 1) l[i].f0 l[i].f1 l[i].f2 l[i].f3) else (code_Key.j1 k b l (l.length : Int) (i : Int) l[i].f0 (l[i].f0 == 3) l[i].f0 l[i].f1 l[i].f2 l[i].f3)) else (some (⟨#[]⟩ : ByteArray)))) (fun k => ?_) ?_
    · simp only [code_Key.l0]
      rw [if_pos (by omega), if_pos (by omega), if_pos (by omega), e]
    · refine Ev.bind (cfit_ev _) ?_
      cases hf : fitV l[i] with
      | false =>
        rw [Bool.false_and, if_neg (by decide)]
        exact Ev.congr (f := fun _ => some ⟨#[]⟩) (fun k => by rw [if_neg (by decide)]) (Ev.now _)
      | true =>
        rw [Bool.true_and]
        refine Ev.congr (fun k => by rw [if_pos rfl]) (key_step l b i l[i] (hg _ (List.getElem_mem _)) hf (by omega) (by omega) _ ?_)
        have hwl := keyB_len l[i]
        have := ih (i + 1) (b ++ keyB l[i]) (by omega) (by rw [List.length_append]; omega)
        rw [List.append_assoc] at this
        exact this
def keyV (l : List S29) : ByteArray := if l.all fitV = true then strOfNums (l.flatMap keyB) else ⟨#[]⟩
theorem key_ev (l : List S29) (hl : l.length < 9223372036854775807) (hg : ∀ f ∈ l, G29 f) (hw : wk l < 140737488355328) : Ev (fun k => code_Key.f k l) (keyV l) := by
  have := key_loop l hl hg l.length 0 [] (by omega) (by simpa using hw)
  simp only [List.drop_zero, List.nil_append] at this
  exact this
end Go.Proofs.YtcheinjlgojepaaDoor.Pure
namespace Go.Proofs.YtcheinjlgojepaaDoor.Pure
open Go.RowKit Go.Proofs.YtcheinjlgojepaaDoor.P Go.Proofs.YtcheinjlgojepaaDoorW.PrintWords Go.Proofs.YtcheinjlgojepaaDoorW.PrintLast Go.Proofs.YtcheinjlgojepaaDoorW.PrintMore
set_option linter.unusedVariables false
set_option linter.unusedSimpArgs false
def Lt8 (l m : List Int) : Prop := ∃ (c : List Int) (a b : Int) (s t : List Int), l = c ++ a :: s ∧ m = c ++ b :: t ∧ 0 ≤ a ∧ a < b ∧ b < 256
theorem Lt8.tails {l m : List Int} (h : Lt8 l m) (u v : List Int) : Lt8 (l ++ u) (m ++ v) := by
  obtain ⟨c, a, b, s, t, rfl, rfl, h⟩ := h
  exact ⟨c, a, b, s ++ u, t ++ v, by simp, by simp, h⟩
theorem Lt8.heads {l m : List Int} (h : Lt8 l m) (u : List Int) : Lt8 (u ++ l) (u ++ m) := by
  obtain ⟨c, a, b, s, t, rfl, rfl, h⟩ := h
  exact ⟨u ++ c, a, b, s, t, by simp, by simp, h⟩
def LtK (l m : List Int) : Prop := Lt8 l m ∨ ∃ b t, m = l ++ b :: t
theorem LtK.heads {l m : List Int} (h : LtK l m) (u : List Int) : LtK (u ++ l) (u ++ m) := by
  rcases h with h | ⟨b, t, rfl⟩
  · exact .inl (h.heads u)
  · exact .inr ⟨b, t, by simp⟩
def by8 (l : List Int) : List UInt8 := l.map fun n => UInt8.ofNat n.toNat
theorem strOf_toList (l : List Int) : (strOfNums l).toList = by8 l := by
  rw [ByteArray.toList_eq]; simp [strOfNums, by8]
theorem less_heads : ∀ (c x y : List UInt8), Op.bytesLess (c ++ x) (c ++ y) = Op.bytesLess x y
  | [], x, y => rfl
  | a :: c, x, y => by
    rw [List.cons_append, List.cons_append, bl_cons, less_heads c x y]
    simp [UInt8.lt_irrefl]
theorem byte_lt {a b : Int} (h0 : 0 ≤ a) (h1 : a < b) (h2 : b < 256) : UInt8.ofNat a.toNat < UInt8.ofNat b.toNat := by
  rw [UInt8.lt_iff_toNat_lt, UInt8.toNat_ofNat', UInt8.toNat_ofNat']
  show a.toNat % 256 < b.toNat % 256
  omega
theorem LtK.less {l m : List Int} (h : LtK l m) : Op.bytesLess (by8 l) (by8 m) = true ∧ Op.bytesLess (by8 m) (by8 l) = false ∧ by8 l ≠ by8 m := by
  have key : Op.bytesLess (by8 l) (by8 m) = true ∧ Op.bytesLess (by8 m) (by8 l) = false := by
    rcases h with ⟨c, a, b, s, t, rfl, rfl, h0, h1, h2⟩ | ⟨b, t, rfl⟩
    · have hab := byte_lt h0 h1 h2
      have hba : ¬ UInt8.ofNat b.toNat < UInt8.ofNat a.toNat := by rw [UInt8.lt_iff_toNat_lt] at hab ⊢; omega
      have hne : (UInt8.ofNat b.toNat == UInt8.ofNat a.toNat) = false := by
        rw [beq_eq_false_iff_ne]; intro e; rw [e] at hab; exact UInt8.lt_irrefl _ hab
      unfold by8
      rw [List.map_append, List.map_append, List.map_cons, List.map_cons, less_heads, less_heads, bl_cons, bl_cons]
      simp [hab, hba, hne]
    · unfold by8
      rw [List.map_append, List.map_cons]
      constructor
      · rw [show List.map (fun n : Int => UInt8.ofNat n.toNat) l = List.map (fun n : Int => UInt8.ofNat n.toNat) l ++ [] from (List.append_nil _).symm, List.append_assoc, less_heads]; rfl
      · have := less_heads (List.map (fun n : Int => UInt8.ofNat n.toNat) l) (UInt8.ofNat b.toNat :: List.map (fun n : Int => UInt8.ofNat n.toNat) t) []
        rw [List.append_nil] at this
        rw [this, bl_nil]
  refine ⟨key.1, key.2, fun e => ?_⟩
  rw [e, bl_irr] at key
  cases key.1
def hi : Nat → Int → List Int
  | 0, _ => []
  | n + 1, x => hi n (x / 256) ++ [x % 256]
theorem hi_lt : ∀ (n : Nat) (x y : Int), 0 ≤ x → x < y → y < 256 ^ n → Lt8 (hi n x) (hi n y)
  | 0, x, y, h0, h1, h2 => by
    have : y < 1 := h2
    omega
  | n + 1, x, y, h0, h1, h2 => by
    rw [Int.pow_succ] at h2
    by_cases h : x / 256 < y / 256
    · exact (hi_lt n _ _ (by omega) h (by omega)).tails _ _
    · have e : x / 256 = y / 256 := by omega
      refine ⟨hi n (y / 256), x % 256, y % 256, [], [], ?_, rfl, by omega, by omega, by omega⟩
      rw [hi, e]
theorem high8_hi (x : Int) : high8 x = hi 8 x := by
  simp only [high8, hi, List.nil_append, List.cons_append, List.cons.injEq, and_true]
  (repeat' apply And.intro) <;> omega
theorem high8_lt {x y : Int} (h0 : 0 ≤ x) (h1 : x < y) (h2 : y < 18446744073709551616) : Lt8 (high8 x) (high8 y) := by
  rw [high8_hi, high8_hi]
  exact hi_lt 8 x y h0 h1 (by have : (256 : Int) ^ 8 = 18446744073709551616 := by decide
                              omega)
theorem te_lt : ∀ s t : List UInt8, Op.bytesLess s t = true → Lt8 (te s) (te t)
  | s, [], h => by rw [bl_nil] at h; cases h
  | [], b :: t, _ => by
    unfold te
    by_cases hb : b = 0
    · subst hb
      exact ⟨[0], 1, 255, [], (esc t).map (fun b => (b.toNat : Int)) ++ [0, 1], rfl, by simp [esc], by decide⟩
    · refine ⟨[], 0, (b.toNat : Int), [1], (esc t).map (fun b => (b.toNat : Int)) ++ [0, 1], rfl, by simp [esc, hb], by decide, ?_, ?_⟩
      · have : b.toNat ≠ 0 := fun e => hb (UInt8.toNat_inj.1 (by rw [e]; rfl))
        omega
      · have := b.toNat_lt; omega
  | a :: s, b :: t, h => by
    rw [bl_cons] at h
    simp only [Bool.or_eq_true, decide_eq_true_eq, Bool.and_eq_true, beq_iff_eq] at h
    have hb := b.toNat_lt
    rcases h with h | ⟨rfl, h⟩
    · rw [UInt8.lt_iff_toNat_lt] at h
      have hbn : b ≠ 0 := fun e => by rw [e] at h; have : (0 : UInt8).toNat = 0 := rfl; omega
      by_cases ha : a = 0
      · subst ha
        exact ⟨[], 0, (b.toNat : Int), 255 :: ((esc s).map (fun b => (b.toNat : Int)) ++ [0, 1]), (esc t).map (fun b => (b.toNat : Int)) ++ [0, 1], by simp [te, esc], by simp [te, esc, hbn], by decide, by have : (0 : UInt8).toNat = 0 := rfl; omega, by omega⟩
      · exact ⟨[], (a.toNat : Int), (b.toNat : Int), (esc s).map (fun b => (b.toNat : Int)) ++ [0, 1], (esc t).map (fun b => (b.toNat : Int)) ++ [0, 1], by simp [te, esc, ha], by simp [te, esc, hbn], by omega, by omega, by omega⟩
    · have ih := te_lt s t h
      by_cases ha : a = 0
      · subst ha
        have e : ∀ l, te (0 :: l) = [0, 255] ++ te l := fun l => by simp [te, esc]
        rw [e, e]
        exact ih.heads _
      · have e : ∀ l, te (a :: l) = [(a.toNat : Int)] ++ te l := fun l => by simp [te, esc, ha]
        rw [e, e]
        exact ih.heads _
def cmpI (x y : Int) : Int := if x < y then -1 else if x > y then 1 else 0
def cmpS (s t : List UInt8) : Int := if Op.bytesLess s t = true then -1 else if Op.bytesLess t s = true then 1 else 0
def tr (b : Bool) : Int := if b = true then 1 else 0
def or4 (a b c d : Int) : Int := if a = 0 then (if b = 0 then (if c = 0 then d else c) else b) else a
def cmpF (x y : S29) : Int := or4 (cmpI x.f0 y.f0) (cmpI x.f1 y.f1) (cmpS x.f2.toList y.f2.toList) (tr x.f3 - tr y.f3)
def cmpL : List S29 → List S29 → Int
  | [], [] => 0
  | [], _ :: _ => -1
  | _ :: _, [] => 1
  | x :: a, y :: b => if cmpF x y = 0 then cmpL a b else cmpF x y
theorem ci_eq (x y : Int) : cmp_Compare_int.f x y = some (cmpI x y) := by
  unfold cmp_Compare_int.f cmp_isNaN_int.f cmpI
  simp only [bne_self_eq_false, Option.bind_some, Bool.false_eq_true, if_false]
  repeat' split
  all_goals first | rfl | omega
theorem ci64_eq (x y : Int) : cmp_Compare_int64.f x y = some (cmpI x y) := by
  unfold cmp_Compare_int64.f cmp_isNaN_int64.f cmpI
  simp only [bne_self_eq_false, Option.bind_some, Bool.false_eq_true, if_false]
  repeat' split
  all_goals first | rfl | omega
theorem cs_eq (x y : ByteArray) : cmp_Compare_string.f x y = some (cmpS x.toList y.toList) := by
  unfold cmp_Compare_string.f cmp_isNaN_string.f cmpS
  simp only [bne_self_eq_false, Option.bind_some, Bool.false_eq_true, if_false]
  repeat' split
  all_goals rfl
theorem tr_eq (b : Bool) : code_truth.f b = some (tr b) := by unfold code_truth.f tr; split <;> rfl
theorem cmpI_swap (x y : Int) : cmpI y x = - cmpI x y := by unfold cmpI; (repeat' split) <;> omega
theorem cmpI_range (x y : Int) : cmpI x y = -1 ∨ cmpI x y = 0 ∨ cmpI x y = 1 := by unfold cmpI; (repeat' split) <;> omega
theorem bl_asym (s t : List UInt8) (h : Op.bytesLess s t = true) : Op.bytesLess t s = false := by
  cases g : Op.bytesLess t s with
  | false => rfl
  | true =>
    exfalso
    revert h g
    induction s generalizing t with
    | nil => intro h g; rw [bl_nil] at g; cases g
    | cons a s ih =>
      cases t with
      | nil => intro h g; rw [bl_nil] at h; cases h
      | cons b t =>
        intro h g
        rw [bl_cons] at h g
        simp only [Bool.or_eq_true, decide_eq_true_eq, Bool.and_eq_true, beq_iff_eq, UInt8.lt_iff_toNat_lt] at h g
        rcases h with h | ⟨rfl, h⟩
        · rcases g with g | ⟨rfl, g⟩ <;> omega
        · rcases g with g | ⟨_, g⟩
          · omega
          · exact ih t h g
theorem cmpS_swap (s t : List UInt8) : cmpS t s = - cmpS s t := by
  unfold cmpS
  cases h : Op.bytesLess s t with
  | true => rw [bl_asym s t h]; simp
  | false =>
    cases g : Op.bytesLess t s with
    | true => simp
    | false => simp
theorem cmpS_range (s t : List UInt8) : cmpS s t = -1 ∨ cmpS s t = 0 ∨ cmpS s t = 1 := by unfold cmpS; repeat' split <;> simp
theorem cmpS_zero {s t : List UInt8} (h : cmpS s t = 0) : s = t := by
  unfold cmpS at h
  cases h1 : Op.bytesLess s t with
  | true => rw [h1] at h; simp at h
  | false =>
    cases h2 : Op.bytesLess t s with
    | true => rw [h1, h2] at h; simp at h
    | false => exact bl_total s t h1 h2
theorem cmpI_zero {x y : Int} (h : cmpI x y = 0) : x = y := by unfold cmpI at h; repeat' split at h <;> omega
theorem cmpF_swap (x y : S29) : cmpF y x = - cmpF x y := by
  unfold cmpF or4
  rw [cmpI_swap x.f0, cmpI_swap x.f1, cmpS_swap x.f2.toList]
  repeat' split <;> omega
theorem tr_range (b : Bool) : tr b = 0 ∨ tr b = 1 := by cases b <;> simp [tr]
theorem cmpF_range (x y : S29) : cmpF x y = -1 ∨ cmpF x y = 0 ∨ cmpF x y = 1 := by
  have h1 := cmpI_range x.f0 y.f0; have h2 := cmpI_range x.f1 y.f1; have h3 := cmpS_range x.f2.toList y.f2.toList
  have h4 := tr_range x.f3; have h5 := tr_range y.f3
  unfold cmpF or4
  repeat' split <;> omega
theorem cmpF_zero {x y : S29} (h : cmpF x y = 0) : x.f0 = y.f0 ∧ x.f1 = y.f1 ∧ x.f2 = y.f2 ∧ x.f3 = y.f3 := by
  unfold cmpF or4 at h
  split at h
  · next h0 =>
    split at h
    · next h1 =>
      split at h
      · next h2 =>
        refine ⟨cmpI_zero h0, cmpI_zero h1, ?_, ?_⟩
        · have := cmpS_zero h2
          rw [ByteArray.toList_eq, ByteArray.toList_eq] at this
          exact bytes_eq this
        · revert h; cases x.f3 <;> cases y.f3 <;> simp [tr]
      · exact absurd h (by assumption)
    · exact absurd h (by assumption)
  · exact absurd h (by assumption)
theorem cmpF_eq {x y : S29} (h : cmpF x y = 0) : x = y := by
  obtain ⟨h0, h1, h2, h3⟩ := cmpF_zero h
  obtain ⟨x0, x1, x2, x3⟩ := x
  obtain ⟨y0, y1, y2, y3⟩ := y
  simp only at h0 h1 h2 h3
  subst h0 h1 h2 h3
  rfl
theorem cmpL_swap : ∀ a b : List S29, cmpL b a = - cmpL a b
  | [], [] => rfl
  | [], _ :: _ => rfl
  | _ :: _, [] => rfl
  | x :: a, y :: b => by
    rw [cmpL, cmpL, cmpF_swap x y, cmpL_swap a b]
    repeat' split <;> omega
theorem cmpL_range : ∀ a b : List S29, cmpL a b = -1 ∨ cmpL a b = 0 ∨ cmpL a b = 1
  | [], [] => .inr (.inl rfl)
  | [], _ :: _ => .inl rfl
  | _ :: _, [] => .inr (.inr rfl)
  | x :: a, y :: b => by
    have h1 := cmpL_range a b; have h2 := cmpF_range x y
    rw [cmpL]
    split <;> omega
theorem xor_top (y : Nat) (h : y < 9223372036854775808) : y ^^^ 9223372036854775808 = y + 9223372036854775808 := by
  apply Nat.eq_of_testBit_eq
  intro i
  have e : 9223372036854775808 = 2 ^ 63 := by decide
  rw [Nat.testBit_xor, e, Nat.testBit_two_pow, Nat.add_comm]
  rw [e] at h
  rcases Nat.lt_trichotomy i 63 with h1 | h1 | h1
  · rw [Nat.testBit_two_pow_add_gt h1, decide_eq_false (by omega), Bool.xor_false]
  · subst h1
    rw [Nat.testBit_two_pow_add_eq, Nat.testBit_lt_two_pow h]; rfl
  · have hp : 2 ^ 64 ≤ 2 ^ i := Nat.pow_le_pow_right (by decide) h1
    rw [decide_eq_false (by omega), Bool.xor_false, Nat.testBit_lt_two_pow (Nat.lt_of_lt_of_le (by omega) hp), Nat.testBit_lt_two_pow (Nat.lt_of_lt_of_le (by omega) hp)]
theorem xor_top2 (y : Nat) (h0 : 9223372036854775808 ≤ y) (h : y < 18446744073709551616) : y ^^^ 9223372036854775808 = y - 9223372036854775808 := by
  have := xor_top (y - 9223372036854775808) (by omega)
  rw [Nat.sub_add_cancel h0] at this
  have h2 := congrArg (· ^^^ 9223372036854775808) this
  simp only [Nat.xor_assoc, Nat.xor_self, Nat.xor_zero] at h2
  exact h2.symm
theorem keyB_lt {x y : S29} (gx : G29 x) (gy : G29 y) (fx : fitV x = true) (fy : fitV y = true) (hk : x.f0 = y.f0) (h : cmpF x y = -1) : Lt8 (keyB x) (keyB y) := by
  obtain ⟨_, gx1, _, _⟩ := gx
  obtain ⟨_, gy1, _, _⟩ := gy
  obtain ⟨lx, ux⟩ := wf_i64 gx1
  obtain ⟨ly, uy⟩ := wf_i64 gy1
  have hk0 : cmpI x.f0 y.f0 = 0 := by unfold cmpI; rw [hk]; simp
  have e0 : ∀ {b : ByteArray}, (b.toList == ([] : List UInt8)) = true → b.toList = [] := fun h => by simpa using h
  have cs0 : cmpS [] [] = 0 := rfl
  unfold cmpF or4 at h
  rw [if_pos hk0] at h
  have num : ∀ {f : S29}, f.f0 = 1 ∨ f.f0 = 3 → fitV f = true → 0 ≤ f.f1 ∧ f.f2.toList = [] ∧ f.f3 = false := by
    intro f hf ft
    unfold fitV at ft
    rcases hf with hf | hf
    · rw [if_pos hf] at ft
      simp only [Bool.and_eq_true, beq_iff_eq, Bool.not_eq_true'] at ft
      refine ⟨?_, ft.2.1, ft.2.2⟩
      have := ft.1; unfold mx at this; split at this <;> omega
    · rw [if_neg (by omega), if_neg (by omega), if_pos hf] at ft
      simp only [Bool.and_eq_true, beq_iff_eq, Bool.not_eq_true'] at ft
      refine ⟨?_, ft.2.1, ft.2.2⟩
      have := ft.1; unfold mn mx at this; repeat' split at this <;> omega
  unfold keyB
  by_cases h13 : x.f0 = 1 ∨ x.f0 = 3
  · have h13' : y.f0 = 1 ∨ y.f0 = 3 := by rw [← hk]; exact h13
    obtain ⟨nx, tx, bx⟩ := num h13 fx
    obtain ⟨ny, ty, by'⟩ := num h13' fy
    rw [if_pos h13, if_pos h13']
    rw [tx, ty, bx, by', cs0] at h
    have hlt : x.f1 < y.f1 := by
      unfold cmpI tr at h
      repeat' split at h <;> first | omega | simp at h
    exact high8_lt (by rw [IntKind.wrap_u64]; omega) (by rw [IntKind.wrap_u64, IntKind.wrap_u64]; omega) (by rw [IntKind.wrap_u64]; omega)
  have h13' : ¬ (y.f0 = 1 ∨ y.f0 = 3) := by rw [← hk]; exact h13
  rw [if_neg h13, if_neg h13']
  by_cases h2 : x.f0 = 2
  · have h2' : y.f0 = 2 := by rw [← hk]; exact h2
    rw [if_pos h2, if_pos h2']
    have hx := fx; have hy := fy
    unfold fitV at hx hy
    rw [if_neg (by omega), if_pos h2] at hx
    rw [if_neg (by omega), if_pos h2'] at hy
    simp only [Bool.and_eq_true, beq_iff_eq, Bool.not_eq_true'] at hx hy
    rw [hx.1, hy.1, hx.2, hy.2, cs0] at h
    have hlt : x.f1 < y.f1 := by
      unfold cmpI tr at h
      repeat' split at h <;> first | omega | simp at h
    have flip : ∀ n : Int, -9223372036854775808 ≤ n → n < 9223372036854775808 → Go.bits .xor .u64 (IntKind.u64.wrap n) 9223372036854775808 = n + 9223372036854775808 := by
      intro n hn0 hn1
      have e9 : (9223372036854775808 : Int) = ((9223372036854775808 : Nat) : Int) := rfl
      by_cases hn : n < 0
      · have e1 : IntKind.u64.wrap n = ((n + 18446744073709551616).toNat : Int) := by rw [IntKind.wrap_u64]; omega
        rw [e1, e9, bits_xor_u64_nat _ _ (by omega) (by omega), xor_top2 _ (by omega) (by omega)]
        omega
      · have e1 : IntKind.u64.wrap n = (n.toNat : Int) := by rw [IntKind.wrap_u64]; omega
        rw [e1, e9, bits_xor_u64_nat _ _ (by omega) (by omega), xor_top _ (by omega)]
        omega
    rw [flip _ lx ux, flip _ ly uy]
    exact high8_lt (by omega) (by omega) (by omega)
  have h2' : ¬ y.f0 = 2 := by rw [← hk]; exact h2
  rw [if_neg h2, if_neg h2']
  by_cases h4 : x.f0 = 4
  · have h4' : y.f0 = 4 := by rw [← hk]; exact h4
    rw [if_pos h4, if_pos h4']
    have hx := fx; have hy := fy
    unfold fitV at hx hy
    rw [if_neg (by omega), if_neg (by omega), if_neg (by omega), if_pos h4] at hx
    rw [if_neg (by omega), if_neg (by omega), if_neg (by omega), if_pos h4'] at hy
    simp only [Bool.and_eq_true, beq_iff_eq, Bool.not_eq_true'] at hx hy
    rw [hx.1, hy.1, hx.2, hy.2] at h
    rw [if_pos (show cmpI 0 0 = 0 from rfl)] at h
    have : Op.bytesLess x.f2.toList y.f2.toList = true := by
      cases g : Op.bytesLess x.f2.toList y.f2.toList with
      | true => rfl
      | false =>
        exfalso
        have hc : cmpS x.f2.toList y.f2.toList = 0 ∨ cmpS x.f2.toList y.f2.toList = 1 := by
          unfold cmpS
          rw [g]
          cases Op.bytesLess y.f2.toList x.f2.toList <;> simp
        rcases hc with hc | hc <;> rw [hc] at h <;> simp [tr] at h
    rw [ByteArray.toList_eq, ByteArray.toList_eq] at this
    exact te_lt _ _ this
  have h4' : ¬ y.f0 = 4 := by rw [← hk]; exact h4
  rw [if_neg h4, if_neg h4']
  have h5 : x.f0 = 5 := by rcases fit_kind x fx with q | q | q | q | q <;> omega
  have h5' : y.f0 = 5 := by rw [← hk]; exact h5
  rw [if_pos h5, if_pos h5']
  have hx := fx; have hy := fy
  unfold fitV at hx hy
  rw [if_neg (by omega), if_neg (by omega), if_neg (by omega), if_neg (by omega), if_pos h5] at hx
  rw [if_neg (by omega), if_neg (by omega), if_neg (by omega), if_neg (by omega), if_pos h5'] at hy
  simp only [Bool.and_eq_true, beq_iff_eq, Bool.not_eq_true'] at hx hy
  rw [hx.1, hy.1, hx.2, hy.2, cs0, if_pos (by rfl), if_pos rfl] at h
  have hb : x.f3 = false ∧ y.f3 = true := by
    revert h; cases x.f3 <;> cases y.f3 <;> simp [tr]
  have ew : ∀ f : S29, f.f0 = 5 → wr f = if f.f3 = true then [1] else [0] := by
    intro f h
    unfold wr
    rw [if_neg (by omega), if_neg (by omega), if_neg (by omega), if_neg (by omega)]
  rw [ew x h5, ew y h5', hb.1, hb.2]
  exact ⟨[], 0, 1, [], [], rfl, rfl, by decide⟩
theorem keyB_ne (f : S29) (h : fitV f = true) : ∃ b t, keyB f = b :: t := by
  unfold keyB
  rcases fit_kind f h with q | q | q | q | q
  · rw [if_pos (.inl q)]; exact ⟨_, _, rfl⟩
  · rw [if_neg (by omega), if_pos q]; exact ⟨_, _, rfl⟩
  · rw [if_pos (.inr q)]; exact ⟨_, _, rfl⟩
  · rw [if_neg (by omega), if_neg (by omega), if_pos q]
    unfold te
    cases (esc f.f2.data.toList).map (fun b => (b.toNat : Int)) with
    | nil => exact ⟨_, _, rfl⟩
    | cons a t => exact ⟨_, _, rfl⟩
  · rw [if_neg (by omega), if_neg (by omega), if_neg (by omega), if_pos q]
    unfold wr
    rw [if_neg (by omega), if_neg (by omega), if_neg (by omega), if_neg (by omega)]
    split <;> exact ⟨_, _, rfl⟩
def kindsL : List S29 → List S29 → Prop
  | x :: a, y :: b => x.f0 = y.f0 ∧ kindsL a b
  | _, _ => True
theorem keys_order : ∀ a b : List S29, (∀ f ∈ a, G29 f ∧ fitV f = true) → (∀ f ∈ b, G29 f ∧ fitV f = true) → kindsL a b →
    (cmpL a b = 0 ∧ a.flatMap keyB = b.flatMap keyB) ∨ (cmpL a b = -1 ∧ LtK (a.flatMap keyB) (b.flatMap keyB)) ∨ (cmpL a b = 1 ∧ LtK (b.flatMap keyB) (a.flatMap keyB))
  | [], [], _, _, _ => .inl ⟨rfl, rfl⟩
  | [], y :: b, _, hb, _ => by
    obtain ⟨c, t, e⟩ := keyB_ne y (hb y (List.mem_cons_self ..)).2
    exact .inr (.inl ⟨rfl, .inr ⟨c, t ++ b.flatMap keyB, by rw [List.flatMap_nil, List.flatMap_cons, e]; rfl⟩⟩)
  | x :: a, [], ha, _, _ => by
    obtain ⟨c, t, e⟩ := keyB_ne x (ha x (List.mem_cons_self ..)).2
    exact .inr (.inr ⟨rfl, .inr ⟨c, t ++ a.flatMap keyB, by rw [List.flatMap_nil, List.flatMap_cons, e]; rfl⟩⟩)
  | x :: a, y :: b, ha, hb, hk => by
    obtain ⟨gx, fx⟩ := ha x (List.mem_cons_self ..)
    obtain ⟨gy, fy⟩ := hb y (List.mem_cons_self ..)
    rw [cmpL, List.flatMap_cons, List.flatMap_cons]
    by_cases h0 : cmpF x y = 0
    · rw [if_pos h0, cmpF_eq h0]
      rcases keys_order a b (fun f hf => ha f (List.mem_cons_of_mem _ hf)) (fun f hf => hb f (List.mem_cons_of_mem _ hf)) hk.2 with ⟨h1, h2⟩ | ⟨h1, h2⟩ | ⟨h1, h2⟩
      · exact .inl ⟨h1, by rw [h2]⟩
      · exact .inr (.inl ⟨h1, h2.heads _⟩)
      · exact .inr (.inr ⟨h1, h2.heads _⟩)
    · rw [if_neg h0]
      rcases cmpF_range x y with h | h | h
      · exact .inr (.inl ⟨h, .inl ((keyB_lt gx gy fx fy hk.1 h).tails _ _)⟩)
      · exact absurd h h0
      · exact .inr (.inr ⟨h, .inl ((keyB_lt gy gx fy fx hk.1.symm (by rw [cmpF_swap, h])).tails _ _)⟩)
theorem or_ev (a b c d : Int) : Ev (fun k => cmp_Or_int.f k [a, b, c, d]) (or4 a b c d) := by
  have e4 : wrap64 ((3 : Int) + 1) = 4 := by decide +kernel
  have e3 : wrap64 ((2 : Int) + 1) = 3 := by decide +kernel
  have e2 : wrap64 ((1 : Int) + 1) = 2 := by decide +kernel
  have e1 : wrap64 ((0 : Int) + 1) = 1 := by decide +kernel
  refine Ev.step (g := fun k => cmp_Or_int.l0 k 0 [a, b, c, d] 4 0) (f := fun k => if a = 0 then cmp_Or_int.l0 k 0 [a, b, c, d] 4 1 else some a) (fun k => ?_) ?_
  · simp only [cmp_Or_int.l0, e1]
    rw [if_pos (by decide), if_pos (by decide), if_pos (by simp only [List.length_cons, List.length_nil]; decide)]
    rfl
  unfold or4
  by_cases ha : a = 0
  case neg => rw [if_neg ha]; exact Ev.congr (fun k => by rw [if_neg ha]) (Ev.now _)
  rw [if_pos ha]
  refine Ev.congr (fun k => by rw [if_pos ha]) ?_
  refine Ev.step (g := fun k => cmp_Or_int.l0 k 0 [a, b, c, d] 4 1) (f := fun k => if b = 0 then cmp_Or_int.l0 k 0 [a, b, c, d] 4 2 else some b) (fun k => ?_) ?_
  · simp only [cmp_Or_int.l0, e2]
    rw [if_pos (by decide), if_pos (by decide), if_pos (by simp only [List.length_cons, List.length_nil]; decide)]
    rfl
  by_cases hb : b = 0
  case neg => rw [if_neg hb]; exact Ev.congr (fun k => by rw [if_neg hb]) (Ev.now _)
  rw [if_pos hb]
  refine Ev.congr (fun k => by rw [if_pos hb]) ?_
  refine Ev.step (g := fun k => cmp_Or_int.l0 k 0 [a, b, c, d] 4 2) (f := fun k => if c = 0 then cmp_Or_int.l0 k 0 [a, b, c, d] 4 3 else some c) (fun k => ?_) ?_
  · simp only [cmp_Or_int.l0, e3]
    rw [if_pos (by decide), if_pos (by decide), if_pos (by simp only [List.length_cons, List.length_nil]; decide)]
    rfl
  by_cases hc : c = 0
  case neg => rw [if_neg hc]; exact Ev.congr (fun k => by rw [if_neg hc]) (Ev.now _)
  rw [if_pos hc]
  refine Ev.congr (fun k => by rw [if_pos hc]) ?_
  refine Ev.step (g := fun k => cmp_Or_int.l0 k 0 [a, b, c, d] 4 3) (f := fun k => if d = 0 then cmp_Or_int.l0 k 0 [a, b, c, d] 4 4 else some d) (fun k => ?_) ?_
  · simp only [cmp_Or_int.l0, e4]
    rw [if_pos (by decide), if_pos (by decide), if_pos (by simp only [List.length_cons, List.length_nil]; decide)]
    rfl
  by_cases hd : d = 0
  case neg => exact Ev.congr (fun k => by rw [if_neg hd]) (Ev.now _)
  refine Ev.congr (fun k => by rw [if_pos hd]) ?_
  refine Ev.step (f := fun _ => some d) (fun k => ?_) (Ev.now _)
  simp only [cmp_Or_int.l0]
  rw [if_neg (by decide), hd]
theorem cmpL_nil (a b : List S29) (h : a = [] ∨ b = []) : cmpL a b = cmpI (a.length : Int) (b.length : Int) := by
  rcases h with rfl | rfl
  · cases b with
    | nil => rfl
    | cons y b => simp only [cmpL, cmpI, List.length_cons, List.length_nil]; rw [if_pos (by omega)]
  · cases a with
    | nil => rfl
    | cons x a => simp only [cmpL, cmpI, List.length_cons, List.length_nil]; rw [if_neg (by omega), if_pos (by omega)]
theorem order_loop (a b : List S29) (ha : a.length < 9223372036854775807) (hb : b.length < 9223372036854775807) : ∀ (n i : Nat), i + n = min a.length b.length →
    Ev (fun k => code_Order.l2 k a b (mn (a.length : Int) (b.length : Int)) (i : Int)) (cmpL (a.drop i) (b.drop i)) := by
  have hm : mn (a.length : Int) (b.length : Int) = ((min a.length b.length : Nat) : Int) := by unfold mn; split <;> omega
  rw [hm]
  intro n
  induction n with
  | zero =>
    intro i hi
    have hn : a.drop i = [] ∨ b.drop i = [] := by
      rcases Nat.le_total a.length b.length with h | h
      · exact .inl (List.drop_of_length_le (by omega))
      · exact .inr (List.drop_of_length_le (by omega))
    have e : cmpI (a.length : Int) (b.length : Int) = cmpI ((a.drop i).length : Int) ((b.drop i).length : Int) := by
      rw [List.length_drop, List.length_drop]
      unfold cmpI
      repeat' split
      all_goals first | rfl | omega
    rw [cmpL_nil _ _ hn, ← e]
    refine Ev.step (f := fun _ => some (cmpI (a.length : Int) (b.length : Int))) (fun k => ?_) (Ev.now _)
    simp only [code_Order.l2]
    rw [if_neg (by omega), ci_eq, Option.bind_some]
  | succ n ih =>
    intro i hi
    have hia : i < a.length := by omega
    have hib : i < b.length := by omega
    have ea := rd_at a i hia
    have eb := rd_at b i hib
    rw [List.drop_eq_getElem_cons hia, List.drop_eq_getElem_cons hib, cmpL]
    have hw : wrap64 (tr a[i].f3 - tr b[i].f3) = tr a[i].f3 - tr b[i].f3 := by
      have h1 := tr_range a[i].f3; have h2 := tr_range b[i].f3
      unfold wrap64; omega
    refine Ev.step (f := fun k => (cmp_Or_int.f k [cmpI a[i].f0 b[i].f0, cmpI a[i].f1 b[i].f1, cmpS a[i].f2.toList b[i].f2.toList, tr a[i].f3 - tr b[i].f3]).bind fun t319 => (if t319 = 0 then (code_Order.l2 k a b ((min a.length b.length : Nat) : Int) ((i + 1 : Nat) : Int)) else (some t319))) (fun k => ?_) ?_
    · simp only [code_Order.l2]
      rw [if_pos (by omega), if_pos (by omega), if_pos (by omega), if_pos (by omega), ea, eb, ci_eq, ci64_eq, cs_eq, tr_eq, tr_eq, Option.bind_some, Option.bind_some, Option.bind_some, Option.bind_some, Option.bind_some, hw, wrap_s i (by omega)]
    · refine Ev.bind (or_ev _ _ _ _) ?_
      show Ev (fun k => if cmpF a[i] b[i] = 0 then _ else some (cmpF a[i] b[i])) _
      by_cases h0 : cmpF a[i] b[i] = 0
      · rw [if_pos h0]
        exact Ev.congr (fun k => by rw [if_pos h0]) (ih (i + 1) (by omega))
      · rw [if_neg h0]
        exact Ev.congr (fun k => by rw [if_neg h0]) (Ev.now _)
theorem rd_L8_0 (a b : List S29) : rd_L8 [a, b] 0 = a := rfl
theorem rd_L8_1 (a b : List S29) : rd_L8 [a, b] 1 = b := rfl
theorem order_fits (a b x : List S29) (hx : x.length < 9223372036854775807) (j : Int) (r : Int) (H : Ev (fun k => code_Order.l0 k a b [a, b] 2 (wrap64 (j + 1))) r) : ∀ (n i : Nat), i + n = x.length →
    Ev (fun k => code_Order.l1 k a b [a, b] 2 j x (x.length : Int) (i : Int)) (if (x.drop i).all fitV = true then r else 0) := by
  intro n
  induction n with
  | zero =>
    intro i hi
    rw [List.drop_of_length_le (by omega), List.all_nil, if_pos rfl]
    refine Ev.step (fun k => ?_) H
    simp only [code_Order.l1]
    rw [if_neg (by omega)]
  | succ n ih =>
    intro i hi
    have hil : i < x.length := by omega
    have e := rd_at x i hil
    rw [List.drop_eq_getElem_cons hil, List.all_cons]
    refine Ev.step (f := fun k => (code_Fit.f k x[i].f0 x[i].f1 x[i].f2 x[i].f3).bind fun t305 => (if t305 = true then (code_Order.l1 k a b [a, b] 2 j x (x.length : Int) ((i + 1 : Nat) : Int)) else (some 0))) (fun k => ?_) ?_
    · simp only [code_Order.l1]
      rw [if_pos (by omega), if_pos (by omega), if_pos (by omega), e, wrap_s i (by omega)]
    · refine Ev.bind (cfit_ev _) ?_
      cases hf : fitV x[i] with
      | false =>
        rw [Bool.false_and, if_neg (by decide)]
        exact Ev.congr (fun k => by rw [if_neg (by decide)]) (Ev.now _)
      | true =>
        rw [Bool.true_and]
        exact Ev.congr (fun k => by rw [if_pos rfl]) (ih (i + 1) (by omega))
def ordV (a b : List S29) : Int := if a.all fitV = true then (if b.all fitV = true then cmpL a b else 0) else 0
theorem order_ev (a b : List S29) (ha : a.length < 9223372036854775807) (hb : b.length < 9223372036854775807) : Ev (fun k => code_Order.f k a b) (ordV a b) := by
  have e1 : wrap64 ((0 : Int) + 1) = 1 := by decide +kernel
  have e2 : wrap64 ((1 : Int) + 1) = 2 := by decide +kernel
  have h2 : Ev (fun k => code_Order.l0 k a b [a, b] 2 2) (cmpL a b) := by
    have := order_loop a b ha hb (min a.length b.length) 0 (by omega)
    simp only [List.drop_zero] at this
    refine Ev.step (fun k => ?_) this
    simp only [code_Order.l0]
    rw [if_neg (by decide)]
    rfl
  have h1 : Ev (fun k => code_Order.l0 k a b [a, b] 2 1) (if b.all fitV = true then cmpL a b else 0) := by
    have := order_fits a b b hb 1 (cmpL a b) (by rw [e2]; exact h2) b.length 0 (by omega)
    simp only [List.drop_zero] at this
    refine Ev.step (fun k => ?_) this
    simp only [code_Order.l0]
    rw [if_pos (by decide), if_pos (by decide), if_pos (by simp), rd_L8_1]
    rfl
  have := order_fits a b a ha 0 _ (by rw [e1]; exact h1) a.length 0 (by omega)
  simp only [List.drop_zero] at this
  refine Ev.step (fun k => ?_) this
  show code_Order.l0 (k + 1) a b [a, b] 2 0 = _
  simp only [code_Order.l0]
  rw [if_pos (by decide), if_pos (by decide), if_pos (by simp), rd_L8_0]
  rfl
end Go.Proofs.YtcheinjlgojepaaDoor.Pure
