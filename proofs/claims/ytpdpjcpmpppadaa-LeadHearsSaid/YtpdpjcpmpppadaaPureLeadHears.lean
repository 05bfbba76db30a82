-- left of the seat's texts by prune.py, a program of this session
import Derived.Test.YtpdpjcpmpppadaaPureLead0
import Derived.Test.YtpdpjcpmpppadaaP4
import Derived.Test.YtpdpjcpmpppadaaP12
import Derived.Test.YtpdpjcpmpppadaaP13
import Derived.Test.YtpdpjcpmpppadaaP20
import Derived.Test.YtpdpjcpmpppadaaP27
namespace Go.Proofs.Ytpdpjcpmpppadaa.Pure
open Go.RowKit Go.Proofs.Ytpdpjcpmpppadaa.P Go.Proofs.YtpdpjcpmpppadaaW.PrintWords Go.Proofs.YtpdpjcpmpppadaaW.PrintLast Go.Proofs.YtpdpjcpmpppadaaW.PrintMore
set_option linter.unusedVariables false
def putAt (l : List S39) (p : S39) (i : Nat) : List S39 := l.take i ++ (p :: l.drop (if i < l.length ∧ (rd_T39 l (i : Int)).f0 = p.f0 then i + 1 else i))
theorem set_put (l : List S39) (p : S39) (i : Nat) (h : i < l.length) : l.set i p = l.take i ++ (p :: l.drop (i + 1)) := by
  rw [List.set_eq_take_append_cons_drop, if_pos h]
theorem putAt_len (l : List S39) (p : S39) (i : Nat) (h : i ≤ l.length) : (putAt l p i).length ≤ l.length + 1 := by
  unfold putAt
  rw [List.length_append, List.length_take, List.length_cons, List.length_drop]
  split <;> omega
def spot (l : List S39) (m : Int) : Nat → Nat → Nat
  | 0, i => i
  | d + 1, i => if i < l.length ∧ (rd_T39 l (i : Int)).f0 < m then spot l m d (i + 1) else i
theorem spot_le (l : List S39) (m : Int) : ∀ d i, i ≤ l.length → spot l m d i ≤ l.length
  | 0, i, h => h
  | d + 1, i, h => by
    rw [spot]
    split
    · exact spot_le l m d (i + 1) (by omega)
    · exact h
theorem hear_ev (a b c : Int) (l : List S39) (d : Bool) (s : ByteArray) (m : List Int) (p : S39) (hl : (l.length + 1) * 56 ≤ 140737488355328) : ∀ n i, i + n = l.length → 
    Ev (fun k => lead_Hear.l0 k (i : Int) p.f0 p.f1 p.f2 p.f3.f0 p.f3.f1 p.f4 a b c l d s m) (a, b, c, putAt l p (spot l p.f0 n i), d, s, m) := by
  have ins : ∀ i : Nat, i ≤ l.length → api_Promise_44.f l (i : Int) [p] = some (l.take i ++ ([p] ++ l.drop i)) := fun i hi => by
    unfold api_Promise_44.f
    rw [if_pos ⟨by simp, by omega, by omega, by simpa using hl⟩, Int.toNat_natCast]
  intro n
  induction n with
  | zero =>
    intro i hi
    have e : putAt l p i = l.take i ++ ([p] ++ l.drop i) := by unfold putAt; rw [if_neg (fun q => by omega)]; rfl
    refine Ev.step (f := fun _ => some (a, b, c, putAt l p i, d, s, m)) (fun k => ?_) (Ev.now _)
    simp only [lead_Hear.l0, ins i (by omega), Option.bind_some, e]
    rw [if_neg (by omega)]
  | succ n ih =>
    intro i hi
    have hlt : i < l.length := by omega
    rw [spot]
    by_cases q : (rd_T39 l (i : Int)).f0 < p.f0
    · rw [if_pos ⟨hlt, q⟩]
      refine Ev.step (f := fun k => lead_Hear.l0 k ((i + 1 : Nat) : Int) p.f0 p.f1 p.f2 p.f3.f0 p.f3.f1 p.f4 a b c l d s m) (fun k => ?_) (ih (i + 1) (by omega))
      have w := wrap_s i (by omega)
      simp only [lead_Hear.l0, w]
      clear w
      rw [if_pos (by omega), if_pos (by omega), if_pos q]
    · rw [if_neg (fun z => q z.2)]
      refine Ev.step (f := fun _ => some (a, b, c, putAt l p i, d, s, m)) (fun k => ?_) (Ev.now _)
      simp only [lead_Hear.l0, ins i (by omega), Option.bind_some, Int.toNat_natCast]
      rw [if_pos (by omega), if_pos (by omega), if_neg q]
      by_cases e : (rd_T39 l (i : Int)).f0 = p.f0
      · rw [if_pos e, set_put l _ i hlt]
        unfold putAt
        rw [if_pos ⟨hlt, e⟩]
      · rw [if_neg e]
        unfold putAt
        rw [if_neg (fun z => e z.2)]
        rfl
theorem rhear_ev (a b c : Int) (l : List S39) (d : Bool) (s : ByteArray) (m : List Int) (p : S39) (hl : (l.length + 2) * 56 ≤ 140737488355328) (a' b' c' : Int) (l' : List S39) (d' : Bool) (s' : ByteArray) (m' : List Int) : ∀ n i, i + n = l.length → 
    Ev (fun k => reefref16_Hear.l0 k (i : Int) a b c l d s m p.f0 p.f1 p.f2 p.f3.f0 p.f3.f1 p.f4 a' b' c' l' d' s' m') (a', b', c', putAt l p (spot l p.f0 n i), d', s', m') := by
  intro n
  induction n with
  | zero =>
    intro i hi
    obtain rfl : i = l.length := by omega
    have e : putAt l p l.length = l ++ [p] := by unfold putAt; rw [if_neg (fun q => by omega), List.take_length, List.drop_length]
    have c1 : ¬ ((l.length : Nat) : Int) < ((l.length : Nat) : Int) := Int.lt_irrefl _
    have ht : (l.take ((l.length : Nat) : Int).toNat).length = l.length := by rw [Int.toNat_natCast, List.take_length]
    have c2 : ([] : List S39).length + (l.take ((l.length : Nat) : Int).toNat).length < 2513169434916 := by rw [ht]; simp only [List.length_nil]; omega
    have c3 : (([] : List S39) ++ l.take ((l.length : Nat) : Int).toNat).length < 2513169434916 := by rw [List.nil_append, ht]; omega
    have c4 : (([] : List S39) ++ l.take ((l.length : Nat) : Int).toNat ++ [p]).length + (l.drop ((l.length : Nat) : Int).toNat).length < 2513169434916 := by rw [List.nil_append, List.length_append, ht, Int.toNat_natCast, List.drop_length]; simp only [List.length_singleton, List.length_nil]; omega
    refine Ev.step (f := fun _ => some (a', b', c', putAt l p l.length, d', s', m')) (fun k => ?_) (Ev.now _)
    rw [reefref16_Hear.l0, if_neg c1, if_pos (Int.natCast_nonneg _), if_pos (Int.le_refl _), Option.bind_some, if_pos c2, Option.bind_some, if_pos c3, Option.bind_some, Option.bind_some]
    refine (if_pos c4).trans ?_
    rw [e, List.nil_append, Int.toNat_natCast, List.take_length, List.drop_length, List.append_nil]
  | succ n ih =>
    intro i hi
    have hlt : i < l.length := by omega
    have ht : (l.take i).length = i := by rw [List.length_take]; omega
    rw [spot]
    by_cases q : (rd_T39 l (i : Int)).f0 < p.f0
    · rw [if_pos ⟨hlt, q⟩]
      refine Ev.step (f := fun k => reefref16_Hear.l0 k ((i + 1 : Nat) : Int) a b c l d s m p.f0 p.f1 p.f2 p.f3.f0 p.f3.f1 p.f4 a' b' c' l' d' s' m') (fun k => ?_) (ih (i + 1) (by omega))
      have w := wrap_s i (by omega)
      simp only [reefref16_Hear.l0, w]
      clear w
      rw [if_pos (by omega), if_pos (by omega), if_pos q]
    · rw [if_neg (fun z => q z.2)]
      refine Ev.step (f := fun _ => some (a', b', c', putAt l p i, d', s', m')) (fun k => ?_) (Ev.now _)
      have w := wrap_s i (by omega)
      simp only [reefref16_Hear.l0, w, Option.bind_some, Int.toNat_natCast, List.nil_append, List.length_append, List.length_nil, List.length_singleton, List.length_drop, ht]
      clear w
      rw [if_pos (by omega), if_pos (by omega), if_neg q, if_pos (by omega), if_pos (by omega), if_pos (by omega)]
      by_cases e : (rd_T39 l (i : Int)).f0 = p.f0
      · rw [if_pos e, if_pos (by omega), if_pos (by omega), if_pos (by omega)]
        unfold putAt
        rw [if_pos ⟨hlt, e⟩]
        simp only [List.append_assoc, List.singleton_append]
      · rw [if_neg e, if_pos (by omega)]
        unfold putAt
        rw [if_neg (fun z => e z.2)]
        simp only [List.append_assoc, List.singleton_append]
theorem rpick_ev (a b c : Int) (l : List S39) (d : Bool) (s : ByteArray) (m : List Int) (n : Int) (hl : l.length < 4611686018427387904) : Ev (fun k => reefref16_Pick.f k a b c l d s m n) ((bestOf (sel l n)).f4, (bestOf (sel l n)).f2) := by
  have hno : ∀ r : List S39, (∀ x ∈ r, x.f2 = true) → ∀ y : S39, (y.f2 = false → y = z39) → (r.foldl better y).f2 = false → r.foldl better y = z39 := by
    intro r
    induction r with
    | nil => intro _ y hy h; exact hy h
    | cons x r ih =>
      intro hr y hy h
      rw [List.foldl_cons] at h ⊢
      refine ih (fun z hz => hr z (List.mem_cons_of_mem _ hz)) _ (fun hb => ?_) h
      unfold better at hb ⊢
      have hx := hr x List.mem_cons_self
      split at hb
      · rw [hx] at hb; cases hb
      · rename_i q
        rw [if_neg q]
        exact hy hb
  have hz : (bestOf (sel l n)).f2 = false → (bestOf (sel l n)) = z39 := fun h => hno _ (fun x hx => by
    unfold sel at hx
    have := (List.mem_filter.1 hx).2
    simp only [Bool.and_eq_true] at this
    exact this.2) z39 (fun _ => rfl) h
  have key : ∀ e i (y : S39), i + e = l.length → y = bestOf (sel (l.take i) n) → Ev (fun k => reefref16_Pick.l0 k n (i : Int) a b c l d s m y.f0 y.f1 y.f2 y.f3.f0 y.f3.f1 y.f4) ((bestOf (sel l n)).f4, (bestOf (sel l n)).f2) := by
    intro e
    induction e with
    | zero =>
      intro i y hi hy
      obtain rfl : i = l.length := by omega
      rw [List.take_length] at hy
      rw [← hy] at hz ⊢
      refine Ev.step (f := fun _ => some (y.f4, y.f2)) (fun k => ?_) (Ev.now _)
      simp only [reefref16_Pick.l0]
      rw [if_neg (by omega)]
      cases q : y.f2 with
      | true => rw [if_pos rfl]
      | false =>
        rw [if_neg (by decide), hz q]
        rfl
    | succ e ih =>
      intro i y hi hy
      have hlt : i < l.length := by omega
      have hs := sel_succ l n i hlt
      obtain ⟨x, hx⟩ : ∃ x, rd_T39 l (i : Int) = x := ⟨_, rfl⟩
      rw [hx] at hs
      have w := wrap_s i (by omega)
      by_cases q : x.f1 = n ∧ x.f2 = true
      · have hsel : (x.f1 == n && x.f2) = true := by rw [q.1, q.2]; simp
        rw [if_pos hsel] at hs
        have hnew : better y x = bestOf (sel (l.take (i + 1)) n) := by rw [hs, bestOf_snoc, ← hy]
        refine Ev.step (f := fun k => reefref16_Pick.l0 k n ((i + 1 : Nat) : Int) a b c l d s m (better y x).f0 (better y x).f1 (better y x).f2 (better y x).f3.f0 (better y x).f3.f1 (better y x).f4) (fun k => ?_) (ih (i + 1) _ (by omega) hnew)
        have hlat : reefref15_Later.f x.f3.f0 x.f3.f1 y.f3.f0 y.f3.f1 = some (laterB x.f3 y.f3) := laterB_some x.f3 y.f3
        simp only [reefref16_Pick.l0, hx, w]
        clear w
        rw [if_pos (by omega), if_pos (by omega), if_pos q.1, if_pos q.2]
        cases hy2 : y.f2 with
        | false =>
          rw [if_neg (by decide)]
          unfold better
          rw [hy2]
          simp
        | true =>
          rw [if_pos rfl, hlat]
          unfold better
          rw [hy2]
          cases laterB x.f3 y.f3 <;> simp [hy2]
      · have hsel : ¬ (x.f1 == n && x.f2) = true := by
          intro z
          simp only [Bool.and_eq_true, beq_iff_eq] at z
          exact q z
        rw [if_neg hsel, List.append_nil] at hs
        refine Ev.step (f := fun k => reefref16_Pick.l0 k n ((i + 1 : Nat) : Int) a b c l d s m y.f0 y.f1 y.f2 y.f3.f0 y.f3.f1 y.f4) (fun k => ?_) (ih (i + 1) y (by omega) (by rw [hs]; exact hy))
        simp only [reefref16_Pick.l0, hx, w]
        clear w
        rw [if_pos (by omega), if_pos (by omega)]
        by_cases q1 : x.f1 = n
        · rw [if_pos q1, if_neg (fun z => q ⟨q1, z⟩)]
        · rw [if_neg q1]
  have := key l.length 0 z39 (by omega) rfl
  exact this
theorem hears_ev (a b c : Int) (l : List S39) (d : Bool) (s : ByteArray) (m : List Int) (b0 b1 : Int) (o p : S39) (mons count : Int) (hl : l.length * 56 ≤ 140737488351232) (hm : m.length * 8 ≤ 140737488351232) :
    Ev (fun k => reeflaw16_LeadHears.f k a b c l d s m b0 b1 o.f0 o.f1 o.f2 o.f3.f0 o.f3.f1 o.f4 p.f0 p.f1 p.f2 p.f3.f0 p.f3.f1 p.f4 mons count) true := by
  unfold reeflaw16_LeadHears.f
  simp only [lead_Begin.f, reefref16_Begin.f, Option.bind_some]
  refine Ev.bind (same_ev _ _ _ _ _ _ _ (by simp) (by simp)) ?_
  simp only [if_true]
  obtain ⟨t, ht⟩ := rises_ev a b c l d s m (by omega) (by omega)
  refine Ev.bind ht ?_
  cases t with
  | false =>
    simp only [Bool.false_eq_true, if_false]
    exact Ev.bind awake_ev (Ev.now _)
  | true =>
    simp only [if_true, copy_some a b c l d s m (by omega) (by omega), Option.bind_some]
    have hsp := spot_le l p.f0 l.length 0 (by omega)
    have hpl := putAt_len l p _ hsp
    have ho : lead_owned.f a b c l d s m = some (a, b, c, l, d, s, m) := by
      unfold lead_owned.f api_Promise_58.f slices_Clone_int_int.f
      rw [if_pos (by omega), if_pos (by omega)]
      rfl
    obtain ⟨r, hr1, hr2, hr3⟩ : ∃ r : List S39, r.length ≤ l.length + 1 ∧ Ev (fun k => lead_Hear.f k a b c l d s m p.f0 p.f1 p.f2 p.f3.f0 p.f3.f1 p.f4) (a, b, c, r, d, s, m) ∧ Ev (fun k => reefref16_Hear.f k a b c l d s m p.f0 p.f1 p.f2 p.f3.f0 p.f3.f1 p.f4) (a, b, c, r, d, s, m) := by
      unfold lead_Hear.f reefref16_Hear.f
      simp only [ho, copy_some a b c l d s m (by omega) (by omega), Option.bind_some]
      by_cases h1 : a = 1
      · refine ⟨_, hpl, Ev.congr (fun k => if_pos h1) (hear_ev a b c l d s m p (by omega) l.length 0 (by omega)), Ev.congr (fun k => if_pos h1) (rhear_ev a b c l d s m p (by omega) a b c l d s m l.length 0 (by omega))⟩
      · exact ⟨l, by omega, Ev.congr (fun k => if_neg h1) (Ev.now _), Ev.congr (fun k => if_neg h1) (Ev.now _)⟩
    refine Ev.bind hr2 (Ev.bind hr3 ?_)
    dsimp only
    refine Ev.bind (rsame_ev _ _ _ _ _ _ _ (by omega) (by omega)) ?_
    obtain ⟨u, hu, hv⟩ : ∃ u, lead_Enough.f a b c l d s m mons = some u ∧ reefref16_Enough.f a b c l d s m mons = some u := by
      unfold lead_Enough.f reefref16_Enough.f api_Promise_45.f
      have e : reefref16_Most.f mons = lead_Most.f mons := rfl
      rw [e]
      obtain ⟨q, hq⟩ : ∃ q, lead_Most.f mons = some q := by unfold lead_Most.f; split <;> exact ⟨_, rfl⟩
      rw [hq]
      by_cases h1 : a = 1
      · by_cases h2 : mons ≥ 1
        · exact ⟨_, by rw [if_pos h1, if_pos h2]; rfl, by rw [if_pos h2, if_pos h1]; rfl⟩
        · exact ⟨false, by rw [if_pos h1, if_neg h2]; rfl, by rw [if_neg h2]⟩
      · by_cases h2 : mons ≥ 1
        · exact ⟨false, by rw [if_neg h1], by rw [if_pos h2, if_neg h1]⟩
        · exact ⟨false, by rw [if_neg h1], by rw [if_neg h2]⟩
    simp only [if_true, hu, hv, Option.bind_some, bne_self_eq_false]
    refine Ev.step (f := fun k => (lead_Pick.f a b c l d s m count).bind fun bt358 => ((reefref16_Pick.f k a b c l d s m count).bind fun bt360 => (if bt358.1.toList = bt360.1.toList then (if (bt358.2 == bt360.2) = true then ((reefref16_Same.f k a b c l d s m a b c l d s m).bind fun t362 => (if t362 = true then ((reeflaw16_awake.f k).bind fun t363 => (some t363)) else (none))) else (none)) else (none)))) (fun k => ?_) ?_
    · simp only [reeflaw16_LeadHears.j0, Bool.false_eq_true, if_false]
    · simp only [lead_Pick.f, Option.bind_some]
      refine Ev.bind (rpick_ev a b c l d s m count (by omega)) ?_
      simp only [if_true, beq_self_eq_true]
      refine Ev.bind (rsame_ev _ _ _ _ _ _ _ (by omega) (by omega)) ?_
      simp only [if_true]
      exact Ev.bind awake_ev (Ev.now _)
end Go.Proofs.Ytpdpjcpmpppadaa.Pure
