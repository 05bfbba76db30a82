import Derived.Test.YtpdpjcpmpppadaaPure0
import Derived.Test.YtpdpjcpmpppadaaP29
-- left of the seat's texts by prune.py, a program of this session
namespace Go.Proofs.Ytpdpjcpmpppadaa.Pure
open Go.RowKit Go.Proofs.Ytpdpjcpmpppadaa.P Go.Proofs.YtpdpjcpmpppadaaW.PrintWords Go.Proofs.YtpdpjcpmpppadaaW.PrintLast Go.Proofs.YtpdpjcpmpppadaaW.PrintMore
set_option linter.unusedVariables false
set_option linter.unusedSimpArgs false
theorem eqi2 (a b c : Int) (l : List S39) (d : Bool) (s : ByteArray) (m : List Int) (a' b' c' : Int) (l' : List S39) (d' : Bool) (s' : ByteArray) (m' : List Int) (hm : m.length < 4611686018427387904) :
    ∃ t, Ev (fun k => slices_Equal_int_int.f k m m') t ∧ (m.length = m'.length → Ev (fun k => reefref16_Same.l1 k 0 a b c l d s m a' b' c' l' d' s' m') t) ∧ (m.length ≠ m'.length → t = false) := by
  by_cases he : m.length = m'.length
  · have key : ∀ n i, i + n = m.length → ∃ t, Ev (fun k => slices_Equal_int_int.l0 k m m' (m.length : Int) (i : Int)) t ∧ Ev (fun k => reefref16_Same.l1 k (i : Int) a b c l d s m a' b' c' l' d' s' m') t := by
      intro n
      induction n with
      | zero =>
        intro i hi
        refine ⟨true, Ev.step (f := fun _ => some true) (fun k => ?_) (Ev.now _), Ev.step (f := fun _ => some true) (fun k => ?_) (Ev.now _)⟩
        · simp only [slices_Equal_int_int.l0]; rw [if_neg (by omega)]
        · simp only [reefref16_Same.l1]; rw [if_neg (by omega)]
      | succ n ih =>
        intro i hi
        by_cases q : rd m (i : Int) = rd m' (i : Int)
        · obtain ⟨t, h1, h2⟩ := ih (i + 1) (by omega)
          have w := wrap_s i (by omega)
          refine ⟨t, Ev.step (f := fun k => slices_Equal_int_int.l0 k m m' (m.length : Int) ((i + 1 : Nat) : Int)) (fun k => ?_) h1, Ev.step (f := fun k => reefref16_Same.l1 k ((i + 1 : Nat) : Int) a b c l d s m a' b' c' l' d' s' m') (fun k => ?_) h2⟩
          · simp only [slices_Equal_int_int.l0, w]; clear w
            rw [if_pos (by omega), if_pos (by omega), if_pos (by omega), if_pos (by omega), if_pos q]
          · simp only [reefref16_Same.l1, w]; clear w
            rw [if_pos (by omega), if_pos (by omega), if_pos (by omega), if_pos q]
        · refine ⟨false, Ev.step (f := fun _ => some false) (fun k => ?_) (Ev.now _), Ev.step (f := fun _ => some false) (fun k => ?_) (Ev.now _)⟩
          · simp only [slices_Equal_int_int.l0]
            rw [if_pos (by omega), if_pos (by omega), if_pos (by omega), if_pos (by omega), if_neg q]
          · simp only [reefref16_Same.l1]
            rw [if_pos (by omega), if_pos (by omega), if_pos (by omega), if_neg q]
    obtain ⟨t, h1, h2⟩ := key m.length 0 (by omega)
    exact ⟨t, Ev.congr (fun k => by unfold slices_Equal_int_int.f; rw [if_pos (by omega)]; rfl) h1, fun _ => h2, fun z => absurd he z⟩
  · exact ⟨false, Ev.congr (fun k => by unfold slices_Equal_int_int.f; rw [if_neg (by omega)]) (Ev.now _), fun z => absurd z he, fun _ => rfl⟩
def unlike (x y : S39) : Bool := (!(x.f0 == y.f0) || (!(x.f1 == y.f1) || (!(x.f2 == y.f2) || ((!(x.f3.f0 == y.f3.f0) || (!(x.f3.f1 == y.f3.f1))) || (!((x.f4).toList == (y.f4).toList))))))
theorem eqp2 (a b c : Int) (l : List S39) (d : Bool) (s : ByteArray) (m : List Int) (a' b' c' : Int) (l' : List S39) (d' : Bool) (s' : ByteArray) (m' : List Int) (hl : l.length < 4611686018427387904) :
    ∃ t, Ev (fun k => api_Promise_41.f k l l') t ∧ (l.length = l'.length → ∀ T, Ev (fun k => reefref16_Same.l1 k 0 a b c l d s m a' b' c' l' d' s' m') T → Ev (fun k => reefref16_Same.l0 k 0 a b c l d s m a' b' c' l' d' s' m') (t && T)) ∧ (l.length ≠ l'.length → t = false) := by
  by_cases he : l.length = l'.length
  · have key : ∀ n i, i + n = l.length → ∃ t, Ev (fun k => api_Promise_41.l0 k l l' (l.length : Int) (i : Int)) t ∧ ∀ T, Ev (fun k => reefref16_Same.l1 k 0 a b c l d s m a' b' c' l' d' s' m') T → Ev (fun k => reefref16_Same.l0 k (i : Int) a b c l d s m a' b' c' l' d' s' m') (t && T) := by
      intro n
      induction n with
      | zero =>
        intro i hi
        refine ⟨true, Ev.step (f := fun _ => some true) (fun k => ?_) (Ev.now _), fun T hT => Ev.step (f := fun k => reefref16_Same.l1 k 0 a b c l d s m a' b' c' l' d' s' m') (fun k => ?_) (by rw [Bool.true_and]; exact hT)⟩
        · simp only [api_Promise_41.l0]; rw [if_neg (by omega)]
        · simp only [reefref16_Same.l0]; rw [if_neg (by omega)]
      | succ n ih =>
        intro i hi
        cases q : unlike (rd_T39 l (i : Int)) (rd_T39 l' (i : Int)) with
        | false =>
          have q' : ¬ (unlike (rd_T39 l (i : Int)) (rd_T39 l' (i : Int)) = true) := by rw [q]; exact Bool.false_ne_true
          unfold unlike at q'
          obtain ⟨t, h1, h2⟩ := ih (i + 1) (by omega)
          have w := wrap_s i (by omega)
          refine ⟨t, Ev.step (f := fun k => api_Promise_41.l0 k l l' (l.length : Int) ((i + 1 : Nat) : Int)) (fun k => ?_) h1, fun T hT => Ev.step (f := fun k => reefref16_Same.l0 k ((i + 1 : Nat) : Int) a b c l d s m a' b' c' l' d' s' m') (fun k => ?_) (h2 T hT)⟩
          · simp only [api_Promise_41.l0, w]; clear w
            rw [if_pos (by omega), if_pos (by omega), if_pos (by omega), if_pos (by omega), if_neg q']
          · simp only [reefref16_Same.l0, w]; clear w
            rw [if_pos (by omega), if_pos (by omega), if_pos (by omega), if_neg q']
        | true =>
          have q' := q
          unfold unlike at q'
          refine ⟨false, Ev.step (f := fun _ => some false) (fun k => ?_) (Ev.now _), fun T hT => Ev.step (f := fun _ => some (false && T)) (fun k => ?_) (Ev.now _)⟩
          · simp only [api_Promise_41.l0]
            rw [if_pos (by omega), if_pos (by omega), if_pos (by omega), if_pos (by omega), if_pos q']
          · simp only [reefref16_Same.l0]
            rw [if_pos (by omega), if_pos (by omega), if_pos (by omega), if_pos q']
            rfl
    obtain ⟨t, h1, h2⟩ := key l.length 0 (by omega)
    exact ⟨t, Ev.congr (fun k => by unfold api_Promise_41.f; rw [if_pos (by omega)]; rfl) h1, fun _ => h2, fun z => absurd he z⟩
  · exact ⟨false, Ev.congr (fun k => by unfold api_Promise_41.f; rw [if_neg (by omega)]) (Ev.now _), fun z => absurd z he, fun _ => rfl⟩
theorem rsame_no (a b c : Int) (l : List S39) (d : Bool) (s : ByteArray) (m : List Int) (a' b' c' : Int) (l' : List S39) (d' : Bool) (s' : ByteArray) (m' : List Int) : Ev (fun k => reefref16_Same.j0 k true a b c l d s m a' b' c' l' d' s' m') false :=
  Ev.step (f := fun _ => some false) (fun k => by simp only [reefref16_Same.j0, if_true]) (Ev.now _)
theorem same2_ev (a b c : Int) (l : List S39) (d : Bool) (s : ByteArray) (m : List Int) (a' b' c' : Int) (l' : List S39) (d' : Bool) (s' : ByteArray) (m' : List Int) (hl : l.length < 4611686018427387904) (hm : m.length < 4611686018427387904) :
    ∃ t, Ev (fun k => lead_Same.f k a b c l d s m a' b' c' l' d' s' m') t ∧ Ev (fun k => reefref16_Same.f k a b c l d s m a' b' c' l' d' s' m') t := by
  obtain ⟨t2, e2, r2, n2⟩ := eqi2 a b c l d s m a' b' c' l' d' s' m' hm
  obtain ⟨t1, e1, r1, n1⟩ := eqp2 a b c l d s m a' b' c' l' d' s' m' hl
  have no := rsame_no a b c l d s m a' b' c' l' d' s' m'
  unfold lead_Same.f reefref16_Same.f
  by_cases ha : a = a'
  · simp only [if_pos ha]
    by_cases hb : (b == b' && (c == c')) = true
    · have hb' : ¬ ((!(b == b') || (!(c == c'))) = true) := by
        rw [Bool.and_eq_true] at hb
        rw [hb.1, hb.2]; decide
      simp only [if_pos hb, if_neg hb']
      by_cases hd : (a = a → d = d')
      · have hd := hd rfl
        subst hd
        simp only [beq_self_eq_true, bne_self_eq_false, Bool.false_eq_true, if_false, if_true]
        by_cases hs : s.toList = s'.toList
        · simp only [if_pos hs]
          by_cases h1 : l.length = l'.length
          · have c1 : (l.length : Int) = (l'.length : Int) := by omega
            simp only [if_pos c1]
            by_cases h2 : m.length = m'.length
            · have c2 : ((m.length : Int) != (m'.length : Int)) = false := by rw [bne_eq_false_iff_eq]; omega
              refine ⟨t1 && t2, Ev.bind e1 ?_, ?_⟩
              · cases t1 with
                | true => simp only [if_true, Bool.true_and]; exact Ev.bind e2 (Ev.now _)
                | false => simp only [Bool.false_eq_true, if_false, Bool.false_and]; exact Ev.now _
              · refine Ev.step (f := fun k => reefref16_Same.l0 k 0 a b c l d s m a' b' c' l' d s' m') (fun k => ?_) (r1 h1 t2 (r2 h2))
                rw [c2]
                simp only [reefref16_Same.j0, Bool.false_eq_true, if_false]
            · have c2 : ((m.length : Int) != (m'.length : Int)) = true := by rw [bne_iff_ne]; omega
              obtain rfl := n2 h2
              rw [c2]
              refine ⟨false, Ev.bind e1 ?_, no⟩
              cases t1 with
              | true => simp only [if_true]; exact Ev.bind e2 (Ev.now _)
              | false => simp only [Bool.false_eq_true, if_false]; exact Ev.now _
          · have c1 : ¬ (l.length : Int) = (l'.length : Int) := by omega
            simp only [if_neg c1]
            obtain rfl := n1 h1
            exact ⟨false, Ev.bind e1 (by simp only [Bool.false_eq_true, if_false]; exact Ev.now _), no⟩
        · simp only [if_neg hs]
          exact ⟨false, Ev.bind e1 (by cases t1 <;> simp only [Bool.false_eq_true, if_false, if_true] <;> exact Ev.now _), no⟩
      · have hd' : ¬ d = d' := fun z => hd (fun _ => z)
        have c1 : (d != d') = true := bne_iff_ne.mpr hd'
        have c2 : (d == d') = false := beq_eq_false_iff_ne.mpr hd'
        simp only [c1, c2, Bool.false_eq_true, if_false, if_true]
        exact ⟨false, Ev.bind e1 (by cases t1 <;> simp only [Bool.false_eq_true, if_false, if_true] <;> exact Ev.now _), no⟩
    · have hb' : (!(b == b') || (!(c == c'))) = true := by
        cases q1 : (b == b') <;> cases q2 : (c == c') <;> simp_all
      simp only [if_neg hb, if_pos hb']
      exact ⟨false, Ev.now _, no⟩
  · simp only [if_neg ha]
    exact ⟨false, Ev.now _, no⟩
theorem rises2_ev (a b c : Int) (l : List S39) (d : Bool) (s : ByteArray) (m : List Int) (hl : l.length < 4611686018427387904) (hm : m.length < 4611686018427387904) : ∃ t, Ev (fun k => reefref16_Rises.f k a b c l d s m) t ∧ (t = true → ∀ j : Nat, 1 ≤ j → j < m.length → rd m ((j - 1 : Nat) : Int) < rd m (j : Int)) := by
  have key1 : ∀ n i, 1 ≤ i → i + n = m.length + 1 → ∃ t, Ev (fun k => reefref16_Rises.l1 k (i : Int) a b c l d s m) t ∧ (t = true → ∀ j : Nat, i ≤ j → j < m.length → rd m ((j - 1 : Nat) : Int) < rd m (j : Int)) := by
    intro n
    induction n with
    | zero =>
      intro i h1 hi
      refine ⟨true, Ev.step (f := fun _ => some true) (fun k => ?_) (Ev.now _), fun _ j hj hjl => by omega⟩
      simp only [reefref16_Rises.l1]
      rw [if_neg (by omega)]
    | succ n ih =>
      intro i h1 hi
      by_cases hlt : i < m.length
      · obtain ⟨t, ht, hs⟩ := ih (i + 1) (by omega) (by omega)
        have w2 : wrap64 ((i : Int) - 1) = ((i - 1 : Nat) : Int) := by rw [wrap_of (by omega) (by omega)]; omega
        by_cases q : rd m ((i - 1 : Nat) : Int) ≥ rd m (i : Int)
        · refine ⟨false, Ev.step (f := fun _ => some false) (fun k => ?_) (Ev.now _), fun z => absurd z (by decide)⟩
          simp only [reefref16_Rises.l1, w2]
          clear w2
          rw [if_pos (by omega), if_pos (by omega), if_pos (by omega), if_pos (by omega), if_pos q]
        · refine ⟨t, Ev.step (f := fun k => reefref16_Rises.l1 k ((i + 1 : Nat) : Int) a b c l d s m) (fun k => ?_) ht, fun z j hj hjl => ?_⟩
          · have w := wrap_s i (by clear w2; omega)
            simp only [reefref16_Rises.l1, w, w2]
            clear w w2
            rw [if_pos (by omega), if_pos (by omega), if_pos (by omega), if_pos (by omega), if_neg q]
          · clear w2
            rcases Nat.lt_or_ge i j with hij | hij
            · exact hs z j hij hjl
            · obtain rfl : j = i := by omega
              exact Int.not_le.mp q
      · refine ⟨true, Ev.step (f := fun _ => some true) (fun k => ?_) (Ev.now _), fun _ j hj hjl => by omega⟩
        simp only [reefref16_Rises.l1]
        rw [if_neg (by omega)]
  have key0 : ∀ n i, 1 ≤ i → i + n = l.length + 1 → ∃ t, Ev (fun k => reefref16_Rises.l0 k (i : Int) a b c l d s m) t ∧ (t = true → ∀ j : Nat, 1 ≤ j → j < m.length → rd m ((j - 1 : Nat) : Int) < rd m (j : Int)) := by
    intro n
    induction n with
    | zero =>
      intro i h1 hi
      obtain ⟨t, ht, hs⟩ := key1 m.length 1 (by omega) (by omega)
      refine ⟨t, Ev.step (f := fun k => reefref16_Rises.l1 k ((1 : Nat) : Int) a b c l d s m) (fun k => ?_) ht, hs⟩
      simp only [reefref16_Rises.l0]
      rw [if_neg (by omega)]
      rfl
    | succ n ih =>
      intro i h1 hi
      by_cases hlt : i < l.length
      · obtain ⟨t, ht, hs⟩ := ih (i + 1) (by omega) (by omega)
        have w2 : wrap64 ((i : Int) - 1) = ((i - 1 : Nat) : Int) := by rw [wrap_of (by omega) (by omega)]; omega
        by_cases q : (rd_T39 l ((i - 1 : Nat) : Int)).f0 ≥ (rd_T39 l (i : Int)).f0
        · refine ⟨false, Ev.step (f := fun _ => some false) (fun k => ?_) (Ev.now _), fun z => absurd z (by decide)⟩
          simp only [reefref16_Rises.l0, w2]
          clear w2
          rw [if_pos (by omega), if_pos (by omega), if_pos (by omega), if_pos (by omega), if_pos q]
        · refine ⟨t, Ev.step (f := fun k => reefref16_Rises.l0 k ((i + 1 : Nat) : Int) a b c l d s m) (fun k => ?_) ht, hs⟩
          have w := wrap_s i (by clear w2; omega)
          simp only [reefref16_Rises.l0, w, w2]
          clear w w2
          rw [if_pos (by omega), if_pos (by omega), if_pos (by omega), if_pos (by omega), if_neg q]
      · obtain ⟨t, ht, hs⟩ := key1 m.length 1 (by omega) (by omega)
        refine ⟨t, Ev.step (f := fun k => reefref16_Rises.l1 k ((1 : Nat) : Int) a b c l d s m) (fun k => ?_) ht, hs⟩
        simp only [reefref16_Rises.l0]
        rw [if_neg (by omega)]
        rfl
  obtain ⟨t, ht, hs⟩ := key0 l.length 1 (by omega) (by omega)
  exact ⟨t, ht, hs⟩
def putI (m : List Int) (x : Int) (i : Nat) : List Int := m.take i ++ (x :: m.drop (if i < m.length ∧ rd m (i : Int) = x then i + 1 else i))
def spotI (m : List Int) (x : Int) : Nat → Nat → Nat
  | 0, i => i
  | d + 1, i => if i < m.length ∧ rd m (i : Int) < x then spotI m x d (i + 1) else i
theorem spotI_le (m : List Int) (x : Int) : ∀ d i, i ≤ m.length → spotI m x d i ≤ m.length
  | 0, i, h => h
  | d + 1, i, h => by
    rw [spotI]
    split
    · exact spotI_le m x d (i + 1) (by omega)
    · exact h
theorem spotI_low (m : List Int) (x : Int) : ∀ d i j, i + d = m.length → (∀ j : Nat, j < i → rd m (j : Int) < x) → j < spotI m x d i → rd m (j : Int) < x
  | 0, i, j, hi, h, hj => h j hj
  | d + 1, i, j, hi, h, hj => by
    rw [spotI] at hj
    split at hj
    · next q => exact spotI_low m x d (i + 1) j (by omega) (fun j' hj' => by
        rcases Nat.lt_or_ge j' i with z | z
        · exact h j' z
        · obtain rfl : j' = i := by omega
          exact q.2) hj
    · exact h j hj
theorem spotI_high (m : List Int) (x : Int) : ∀ d i, i + d = m.length → spotI m x d i < m.length → ¬ rd m (spotI m x d i : Int) < x
  | 0, i, hi, hs => by rw [spotI] at hs; omega
  | d + 1, i, hi, hs => by
    rw [spotI] at hs ⊢
    split at hs
    · next q => rw [if_pos q]; exact spotI_high m x d (i + 1) (by omega) hs
    · next q => rw [if_neg q]; exact fun z => q ⟨hs, z⟩
theorem rd_get (m : List Int) (i : Nat) (h : i < m.length) : rd m (i : Int) = m[i] := by simp [rd, h]
theorem sorted_le (m : List Int) (hs : ∀ j : Nat, 1 ≤ j → j < m.length → rd m ((j - 1 : Nat) : Int) < rd m (j : Int)) : ∀ d i : Nat, i + d < m.length → rd m (i : Int) ≤ rd m ((i + d : Nat) : Int)
  | 0, i, h => Int.le_refl _
  | d + 1, i, h => by
    have h1 := sorted_le m hs d i (by omega)
    have h2 := hs (i + (d + 1)) (by omega) h
    rw [show i + (d + 1) - 1 = i + d by omega] at h2
    omega
theorem putI_in (m : List Int) (x : Int) (hs : ∀ j : Nat, 1 ≤ j → j < m.length → rd m ((j - 1 : Nat) : Int) < rd m (j : Int)) (h : (m.any fun y => y == x) = true) : putI m x (spotI m x m.length 0) = m := by
  obtain ⟨y, hy, hyx⟩ := List.any_eq_true.1 h
  obtain rfl := beq_iff_eq.1 hyx
  obtain ⟨j, hj, rfl⟩ := List.getElem_of_mem hy
  have hle := spotI_le m m[j] m.length 0 (Nat.zero_le _)
  have hlow := fun q => spotI_low m m[j] m.length 0 q (by omega) (fun _ z => absurd z (by omega))
  have hhigh := spotI_high m m[j] m.length 0 (by omega)
  generalize spotI m m[j] m.length 0 = p at hle hlow hhigh
  have hjp : p ≤ j := by
    rcases Nat.lt_or_ge j p with z | z
    · have := hlow j z; rw [rd_get m j hj] at this; omega
    · exact z
  have hp : p < m.length := by omega
  have h1 := hhigh hp
  have h2 := sorted_le m hs (j - p) p (by omega)
  rw [show p + (j - p) = j by omega, rd_get m j hj] at h2
  have e : rd m (p : Int) = m[j] := by omega
  unfold putI
  rw [if_pos ⟨hp, e⟩, ← e, rd_get m p hp, ← List.drop_eq_getElem_cons hp, List.take_append_drop]
theorem putI_out (m : List Int) (x : Int) (p : Nat) (h : (m.any fun y => y == x) = false) : putI m x p = m.take p ++ ([x] ++ m.drop p) := by
  unfold putI
  rw [if_neg]
  · rfl
  · rintro ⟨h1, h2⟩
    rw [rd_get m p h1] at h2
    have : (m.any fun y => y == x) = true := List.any_eq_true.2 ⟨m[p], List.getElem_mem h1, beq_iff_eq.2 h2⟩
    rw [this] at h
    exact absurd h (by decide)
theorem putI_len (m : List Int) (x : Int) (i : Nat) (h : i ≤ m.length) : (putI m x i).length ≤ m.length + 1 := by
  unfold putI
  rw [List.length_append, List.length_take, List.length_cons, List.length_drop]
  split <;> omega
theorem ack_ev (a b c : Int) (l : List S39) (d : Bool) (s : ByteArray) (m : List Int) (x : Int) (hl : (m.length + 1) * 8 ≤ 140737488355328) : ∀ n i, i + n = m.length →
    Ev (fun k => lead_Ack.l0 k x (i : Int) a b c l d s m) (a, b, c, l, d, s, m.take (spotI m x n i) ++ ([x] ++ m.drop (spotI m x n i))) := by
  have ins : ∀ i : Nat, i ≤ m.length → slices_Insert_int_int.f m (i : Int) [x] = some (m.take i ++ ([x] ++ m.drop i)) := fun i hi => by
    unfold slices_Insert_int_int.f
    rw [if_pos ⟨by simp, by omega, by omega, by simpa using hl⟩, Int.toNat_natCast]
  intro n
  induction n with
  | zero =>
    intro i hi
    refine Ev.step (f := fun _ => some (a, b, c, l, d, s, m.take i ++ ([x] ++ m.drop i))) (fun k => ?_) (Ev.now _)
    simp only [lead_Ack.l0, ins i (by omega), Option.bind_some]
    rw [if_neg (by omega)]
  | succ n ih =>
    intro i hi
    have hlt : i < m.length := by omega
    rw [spotI]
    by_cases q : rd m (i : Int) < x
    · rw [if_pos ⟨hlt, q⟩]
      refine Ev.step (f := fun k => lead_Ack.l0 k x ((i + 1 : Nat) : Int) a b c l d s m) (fun k => ?_) (ih (i + 1) (by omega))
      have w := wrap_s i (by omega)
      simp only [lead_Ack.l0, w]
      clear w
      rw [if_pos (by omega), if_pos (by omega), if_pos q]
    · rw [if_neg (fun z => q z.2)]
      refine Ev.step (f := fun _ => some (a, b, c, l, d, s, m.take i ++ ([x] ++ m.drop i))) (fun k => ?_) (Ev.now _)
      simp only [lead_Ack.l0, ins i (by omega), Option.bind_some]
      rw [if_pos (by omega), if_pos (by omega), if_neg q]
theorem rack_ev (a b c : Int) (l : List S39) (d : Bool) (s : ByteArray) (m : List Int) (x : Int) (hl : (m.length + 2) * 8 ≤ 140737488355328) (a' b' c' : Int) (l' : List S39) (d' : Bool) (s' : ByteArray) (m' : List Int) : ∀ n i, i + n = m.length →
    Ev (fun k => reefref16_Ack.l0 k x (i : Int) a b c l d s m a' b' c' l' d' s' m') (a', b', c', l', d', s', putI m x (spotI m x n i)) := by
  intro n
  induction n with
  | zero =>
    intro i hi
    have e : putI m x i = m.take i ++ [x] ++ m.drop i := by unfold putI; rw [if_neg (fun q => by omega), List.append_assoc]; rfl
    refine Ev.step (f := fun _ => some (a', b', c', l', d', s', putI m x i)) (fun k => ?_) (Ev.now _)
    have c2 : ([] : List Int).length + (m.take (i : Int).toNat).length < 17592186044416 := by rw [Int.toNat_natCast, List.length_take]; simp only [List.length_nil]; omega
    have c3 : (([] : List Int) ++ m.take (i : Int).toNat).length < 17592186044416 := by rw [List.nil_append, Int.toNat_natCast, List.length_take]; omega
    have c4 : (([] : List Int) ++ m.take (i : Int).toNat ++ [x]).length + (m.drop (i : Int).toNat).length < 17592186044416 := by rw [List.nil_append, List.length_append, Int.toNat_natCast, List.length_take, List.length_drop, List.length_singleton]; omega
    simp only [reefref16_Ack.l0]
    rw [if_neg (by omega), if_pos (by omega), if_pos (by omega), if_pos c2]
    simp only [Option.bind_some]
    rw [if_pos c3, if_pos c4, e, List.nil_append, Int.toNat_natCast]
  | succ n ih =>
    intro i hi
    have hlt : i < m.length := by omega
    rw [spotI]
    by_cases q : rd m (i : Int) < x
    · rw [if_pos ⟨hlt, q⟩]
      refine Ev.step (f := fun k => reefref16_Ack.l0 k x ((i + 1 : Nat) : Int) a b c l d s m a' b' c' l' d' s' m') (fun k => ?_) (ih (i + 1) (by omega))
      have w := wrap_s i (by omega)
      simp only [reefref16_Ack.l0, w]
      clear w
      rw [if_pos (by omega), if_pos (by omega), if_pos q]
    · rw [if_neg (fun z => q z.2)]
      have c2 : ([] : List Int).length + (m.take (i : Int).toNat).length < 17592186044416 := by rw [Int.toNat_natCast, List.length_take]; simp only [List.length_nil]; omega
      have c3 : (([] : List Int) ++ m.take (i : Int).toNat).length < 17592186044416 := by rw [List.nil_append, Int.toNat_natCast, List.length_take]; omega
      have c4 : (([] : List Int) ++ m.take (i : Int).toNat ++ [x]).length + (m.drop (i : Int).toNat).length < 17592186044416 := by rw [List.nil_append, List.length_append, Int.toNat_natCast, List.length_take, List.length_drop, List.length_singleton]; omega
      have c5 : (([] : List Int) ++ m.take (i : Int).toNat ++ [x]).length + (m.drop (((i + 1 : Nat) : Int)).toNat).length < 17592186044416 := by rw [List.nil_append, List.length_append, Int.toNat_natCast, List.length_take, Int.toNat_natCast, List.length_drop, List.length_singleton]; omega
      have w := wrap_s i (by omega)
      refine Ev.step (f := fun _ => some (a', b', c', l', d', s', putI m x i)) (fun k => ?_) (Ev.now _)
      simp only [reefref16_Ack.l0, w]
      clear w
      rw [if_pos (by omega), if_pos (by omega), if_neg q, if_pos (by omega), if_pos c2]
      simp only [Option.bind_some]
      rw [if_pos c3]
      by_cases e : rd m (i : Int) = x
      · rw [if_pos e, if_pos (by omega), if_pos (by omega), if_pos c5, List.nil_append, Int.toNat_natCast, Int.toNat_natCast]
        unfold putI
        rw [if_pos ⟨hlt, e⟩, List.append_assoc]
        rfl
      · rw [if_neg e, if_pos c4, List.nil_append, Int.toNat_natCast]
        unfold putI
        rw [if_neg (fun z => e z.2), List.append_assoc]
        rfl
end Go.Proofs.Ytpdpjcpmpppadaa.Pure
-- left of the seat's texts by prune.py, a program of this session
namespace Go.Proofs.Ytpdpjcpmpppadaa.Pure
open Go.RowKit Go.Proofs.Ytpdpjcpmpppadaa.P Go.Proofs.YtpdpjcpmpppadaaW.PrintWords Go.Proofs.YtpdpjcpmpppadaaW.PrintLast Go.Proofs.YtpdpjcpmpppadaaW.PrintMore
set_option linter.unusedVariables false
set_option linter.unusedSimpArgs false
theorem rd39_get (l : List S39) (i : Nat) (h : i < l.length) : rd_T39 l (i : Int) = l[i] := by simp [rd_T39, h]
theorem wait_end (a b c : Int) (l : List S39) (d : Bool) (s : ByteArray) (m : List Int) (x1 : Int) (r : List Int) (i : Nat) (hi : i < 64) (hr : r.length ≤ i) (v : Bool) (q : List Int)
    (h : Ev (fun k => reefref16_Wait.l0 k x1 (if v = true then r else r ++ [(i : Int)]) ((i + 1 : Nat) : Int) a b c l d s m) q) :
    Ev (fun k => if v = true then (reefref16_Wait.l0 k x1 r (wrap64 ((i : Int) + 1)) a b c l d s m) else (if r.length < 17592186044416 then (reefref16_Wait.l0 k x1 (r ++ [(i : Int)]) (wrap64 ((i : Int) + 1)) a b c l d s m) else none)) q := by
  have w := wrap_s i (by omega)
  have hc : r.length < 17592186044416 := by omega
  refine Ev.congr (fun k => ?_) h
  rw [w]
  cases v with
  | true => simp only [if_true]
  | false => simp only [Bool.false_eq_true, if_false]; rw [if_pos hc]
theorem wait2 (a b c : Int) (l : List S39) (d : Bool) (s : ByteArray) (m : List Int) (x1 : Int) (r : List Int) (i : Nat) (hi : i < 64) (hr : r.length ≤ i) (hm : m.length < 4611686018427387904) (q : List Int) (ha : a = 2) :
    ∀ n j, j + n = m.length → ∀ v : Bool, Ev (fun k => reefref16_Wait.l0 k x1 (if (v || ((m.drop j).any fun y => y == (i : Int))) = true then r else r ++ [(i : Int)]) ((i + 1 : Nat) : Int) a b c l d s m) q →
      Ev (fun k => reefref16_Wait.l2 k x1 r (i : Int) v (j : Int) a b c l d s m) q := by
  intro n
  induction n with
  | zero =>
    intro j hj v h
    rw [List.drop_eq_nil_of_le (by omega), List.any_nil, Bool.or_false] at h
    refine Ev.step (fun k => ?_) (wait_end a b c l d s m x1 r i hi hr v q h)
    simp only [reefref16_Wait.l2]
    rw [if_neg (by omega)]
  | succ n ih =>
    intro j hj v h
    have hlt : j < m.length := by omega
    rw [List.drop_eq_getElem_cons hlt, List.any_cons, ← Bool.or_assoc] at h
    have h2 := ih (j + 1) (by omega) _ h
    have w := wrap_s j (by omega)
    cases v with
    | true =>
      rw [Bool.true_or] at h2
      refine Ev.step (fun k => ?_) h2
      simp only [reefref16_Wait.l2, w, if_true]
      rw [if_pos (by omega), if_pos ha]
    | false =>
      rw [Bool.false_or, ← rd_get m j hlt] at h2
      refine Ev.step (fun k => ?_) h2
      simp only [reefref16_Wait.l2, w, Bool.false_eq_true, if_false]
      clear w
      rw [if_pos (by omega), if_pos ha, if_pos (by omega)]
theorem wait2n (a b c : Int) (l : List S39) (d : Bool) (s : ByteArray) (m : List Int) (x1 : Int) (r : List Int) (i : Nat) (hi : i < 64) (hr : r.length ≤ i) (q : List Int) (ha : ¬ a = 2) (v : Bool)
    (h : Ev (fun k => reefref16_Wait.l0 k x1 (if v = true then r else r ++ [(i : Int)]) ((i + 1 : Nat) : Int) a b c l d s m) q) :
      Ev (fun k => reefref16_Wait.l2 k x1 r (i : Int) v 0 a b c l d s m) q := by
  refine Ev.step (fun k => ?_) (wait_end a b c l d s m x1 r i hi hr v q h)
  simp only [reefref16_Wait.l2, if_neg ha]
  rw [ite_self]
theorem wait1 (a b c : Int) (l : List S39) (d : Bool) (s : ByteArray) (m : List Int) (x1 : Int) (r : List Int) (i : Nat) (hl : l.length < 4611686018427387904) (q : List Int) (ha : a = 1) :
    ∀ n j, j + n = l.length → ∀ v : Bool, Ev (fun k => reefref16_Wait.j3 k x1 r (i : Int) (v || ((l.drop j).any fun y => y.f0 == (i : Int))) a b c l d s m) q →
      Ev (fun k => reefref16_Wait.l1 k x1 r (i : Int) v (j : Int) a b c l d s m) q := by
  intro n
  induction n with
  | zero =>
    intro j hj v h
    rw [List.drop_eq_nil_of_le (by omega), List.any_nil, Bool.or_false] at h
    refine Ev.step (fun k => ?_) h
    simp only [reefref16_Wait.l1]
    rw [if_neg (by omega)]
  | succ n ih =>
    intro j hj v h
    have hlt : j < l.length := by omega
    rw [List.drop_eq_getElem_cons hlt, List.any_cons, ← Bool.or_assoc] at h
    have h2 := ih (j + 1) (by omega) _ h
    have w := wrap_s j (by omega)
    cases v with
    | true =>
      rw [Bool.true_or] at h2
      refine Ev.step (fun k => ?_) h2
      simp only [reefref16_Wait.l1, w, if_true]
      rw [if_pos (by omega), if_pos ha]
    | false =>
      rw [Bool.false_or, ← rd39_get l j hlt] at h2
      refine Ev.step (fun k => ?_) h2
      simp only [reefref16_Wait.l1, w, Bool.false_eq_true, if_false]
      clear w
      rw [if_pos (by omega), if_pos ha, if_pos (by omega)]
theorem wait1n (a b c : Int) (l : List S39) (d : Bool) (s : ByteArray) (m : List Int) (x1 : Int) (r : List Int) (i : Nat) (q : List Int) (ha : ¬ a = 1) (v : Bool)
    (h : Ev (fun k => reefref16_Wait.j3 k x1 r (i : Int) v a b c l d s m) q) : Ev (fun k => reefref16_Wait.l1 k x1 r (i : Int) v 0 a b c l d s m) q := by
  refine Ev.step (fun k => ?_) h
  simp only [reefref16_Wait.l1, if_neg ha]
  rw [ite_self]
theorem wait_ev (a b c : Int) (l : List S39) (d : Bool) (s : ByteArray) (m : List Int) (x1 : Int) (hl : l.length < 4611686018427387904) (hm : m.length < 4611686018427387904) :
    Ev (fun k => reefref16_Wait.f k a b c l d s m x1) (lead_Wait.row a l d m (mn (mx x1 0) 64).toNat) := by
  have hn : (mn (mx x1 0) 64).toNat ≤ 64 := by unfold mn mx; split <;> split <;> omega
  have key : ∀ n i, i + n = (mn (mx x1 0) 64).toNat → Ev (fun k => reefref16_Wait.l0 k x1 (lead_Wait.row a l d m i) (i : Int) a b c l d s m) (lead_Wait.row a l d m (mn (mx x1 0) 64).toNat) := by
    intro n
    induction n with
    | zero =>
      intro i hi
      have e : i = (mn (mx x1 0) 64).toNat := by omega
      have hc : ¬ (i : Int) < mn x1 64 := by rw [e]; unfold mn mx; (repeat' split) <;> omega
      rw [← e]
      refine Ev.step (f := fun _ => some (lead_Wait.row a l d m i)) (fun k => ?_) (Ev.now _)
      simp only [reefref16_Wait.l0, if_neg hc]
    | succ n ih =>
      intro i hi
      have hc : (i : Int) < mn x1 64 := by
        have : i < (mn (mx x1 0) 64).toNat := by omega
        revert this
        unfold mn mx
        (repeat' split) <;> omega
      have hr := lead_Wait.row_len a l d m i
      have h := ih (i + 1) (by omega)
      have hend : ∀ v : Bool, lead_Wait.keep a l d m (i : Int) = !v → Ev (fun k => reefref16_Wait.l0 k x1 (if v = true then lead_Wait.row a l d m i else lead_Wait.row a l d m i ++ [(i : Int)]) ((i + 1 : Nat) : Int) a b c l d s m) (lead_Wait.row a l d m (mn (mx x1 0) 64).toNat) := by
        intro v hv
        rw [lead_Wait.row, hv] at h
        cases v with
        | true => simpa using h
        | false => simpa using h
      by_cases h1 : a = 1
      · have h2 : ¬ a = 2 := by omega
        refine Ev.step (f := fun k => reefref16_Wait.j1 k x1 (lead_Wait.row a l d m i) (i : Int) false a b c l d s m) (fun k => by simp only [reefref16_Wait.l0, if_pos hc, if_pos h1]) ?_
        refine Ev.step (f := fun k => reefref16_Wait.l1 k x1 (lead_Wait.row a l d m i) (i : Int) false ((0 : Nat) : Int) a b c l d s m) (fun k => by simp only [reefref16_Wait.j1]; rfl) ?_
        refine wait1 a b c l d s m x1 _ i hl _ h1 l.length 0 (by omega) false ?_
        rw [List.drop_zero, Bool.false_or]
        refine Ev.step (f := fun k => reefref16_Wait.l2 k x1 (lead_Wait.row a l d m i) (i : Int) (l.any fun y => y.f0 == (i : Int)) 0 a b c l d s m) (fun k => by simp only [reefref16_Wait.j3]) ?_
        exact wait2n a b c l d s m x1 _ i (by omega) hr _ h2 _ (hend _ (by rw [lead_Wait.keep, if_pos h1]))
      · by_cases h2 : a = 2
        · refine Ev.step (f := fun k => reefref16_Wait.j1 k x1 (lead_Wait.row a l d m i) (i : Int) (!d) a b c l d s m) (fun k => by simp only [reefref16_Wait.l0, if_pos hc, if_neg h1, if_pos h2]) ?_
          refine Ev.step (f := fun k => reefref16_Wait.l1 k x1 (lead_Wait.row a l d m i) (i : Int) (!d) 0 a b c l d s m) (fun k => by simp only [reefref16_Wait.j1]) ?_
          refine wait1n a b c l d s m x1 _ i _ h1 _ ?_
          refine Ev.step (f := fun k => reefref16_Wait.l2 k x1 (lead_Wait.row a l d m i) (i : Int) (!d) ((0 : Nat) : Int) a b c l d s m) (fun k => by simp only [reefref16_Wait.j3]; rfl) ?_
          refine wait2 a b c l d s m x1 _ i (by omega) hr hm _ h2 m.length 0 (by omega) _ ?_
          rw [List.drop_zero]
          refine hend _ ?_
          rw [lead_Wait.keep, if_neg h1, if_pos h2]
          cases d <;> simp
        · refine Ev.step (f := fun k => reefref16_Wait.j1 k x1 (lead_Wait.row a l d m i) (i : Int) (!false) a b c l d s m) (fun k => by simp only [reefref16_Wait.l0, if_pos hc, if_neg h1, if_neg h2]) ?_
          refine Ev.step (f := fun k => reefref16_Wait.l1 k x1 (lead_Wait.row a l d m i) (i : Int) (!false) 0 a b c l d s m) (fun k => by simp only [reefref16_Wait.j1]) ?_
          refine wait1n a b c l d s m x1 _ i _ h1 _ ?_
          refine Ev.step (f := fun k => reefref16_Wait.l2 k x1 (lead_Wait.row a l d m i) (i : Int) (!false) 0 a b c l d s m) (fun k => by simp only [reefref16_Wait.j3]) ?_
          exact wait2n a b c l d s m x1 _ i (by omega) hr _ h2 _ (hend _ (by rw [lead_Wait.keep, if_neg h1, if_neg h2]; rfl))
  exact key (mn (mx x1 0) 64).toNat 0 (by omega)
theorem cmp_ev (a b c : Int) (l : List S39) (d : Bool) (s : ByteArray) (m : List Int) (r : List Int) (hr : r.length ≤ 64) (hl : l.length < 4611686018427387904) (hm : m.length < 4611686018427387904) : Ev (fun k => reeflaw16_LeadDoes.l0 k r r 0 a b c l d s m a b c l d s m) true := by
  have key : ∀ n i, i + n = r.length → Ev (fun k => reeflaw16_LeadDoes.l0 k r r (i : Int) a b c l d s m a b c l d s m) true := by
    intro n
    induction n with
    | zero =>
      intro i hi
      refine Ev.step (f := fun k => (reefref16_Same.f k a b c l d s m a b c l d s m).bind fun t635 => (if t635 = true then ((reeflaw16_awake.f k).bind fun t636 => (some t636)) else (none))) (fun k => ?_) ?_
      · simp only [reeflaw16_LeadDoes.l0]
        rw [if_neg (by omega)]
      · refine Ev.bind (rsame_ev _ _ _ _ _ _ _ hl hm) ?_
        simp only [if_true]
        exact Ev.bind awake_ev (Ev.now _)
    | succ n ih =>
      intro i hi
      have w := wrap_s i (by omega)
      refine Ev.step (f := fun k => reeflaw16_LeadDoes.l0 k r r ((i + 1 : Nat) : Int) a b c l d s m a b c l d s m) (fun k => ?_) (ih (i + 1) (by omega))
      simp only [reeflaw16_LeadDoes.l0, w, if_true]
      clear w
      rw [if_pos (by omega), if_pos (by omega), if_pos (by omega)]
  exact key r.length 0 (by omega)
theorem does_ev (a b c : Int) (l : List S39) (d : Bool) (s : ByteArray) (m : List Int) (a' b' c' : Int) (l' : List S39) (d' : Bool) (s' : ByteArray) (m' : List Int) (v : ByteArray) (mon mons : Int) (hl : l.length * 56 ≤ 140737488351232) (hm : m.length * 8 ≤ 140737488351232) :
    Ev (fun k => reeflaw16_LeadDoes.f k a b c l d s m a' b' c' l' d' s' m' v mon mons) true := by
  unfold reeflaw16_LeadDoes.f
  obtain ⟨t, h1, h2⟩ := same2_ev a b c l d s m a' b' c' l' d' s' m' (by omega) (by omega)
  refine Ev.bind h1 (Ev.bind h2 ?_)
  simp only [bne_self_eq_false, Bool.false_eq_true, if_false, copy_some a b c l d s m (by omega) (by omega), Option.bind_some]
  refine Ev.bind (same_ev a b c l d s m (by omega) (by omega)) ?_
  obtain ⟨t, ht, hs⟩ := rises2_ev a b c l d s m (by omega) (by omega)
  have ho : lead_owned.f a b c l d s m = some (a, b, c, l, d, s, m) := by
    unfold lead_owned.f api_Promise_58.f slices_Clone_int_int.f
    rw [if_pos (by omega), if_pos (by omega)]
    rfl
  have hp : reefref16_Propose.f a b c l d s m v mon = lead_Propose.f a b c l d s m v mon := by
    unfold lead_Propose.f reefref16_Propose.f
    rw [ho, copy_some a b c l d s m (by omega) (by omega)]
  obtain ⟨p0, p1, p2, p3, p4, p5, p6, hpe, hp3, hp6⟩ : ∃ p0 p1 p2 p3 p4 p5 p6, lead_Propose.f a b c l d s m v mon = some (p0, p1, p2, p3, p4, p5, p6) ∧ p3.length < 4611686018427387904 ∧ p6.length < 4611686018427387904 := by
    unfold lead_Propose.f
    rw [ho]
    simp only [Option.bind_some]
    by_cases q1 : a = 2
    · by_cases q2 : d = true
      · exact ⟨_, _, _, _, _, _, _, by rw [if_pos q1, if_pos q2], by omega, by omega⟩
      · exact ⟨_, _, _, _, _, _, _, by rw [if_pos q1, if_neg q2], by omega, by simp⟩
    · exact ⟨_, _, _, _, _, _, _, by rw [if_neg q1], by omega, by omega⟩
  have hde : reefref16_Done.f a b c l d s m = some (a, b, c, l, false, (⟨#[]⟩ : ByteArray), ([] : List Int)) := by
    unfold reefref16_Done.f
    rw [copy_some a b c l d s m (by omega) (by omega)]
    rfl
  have hdl : lead_Done.f a b c l d s m = some (a, b, c, l, false, (⟨#[]⟩ : ByteArray), ([] : List Int)) := by
    unfold lead_Done.f
    rw [ho]
    rfl
  obtain ⟨u, hu, hv⟩ : ∃ u, lead_Chosen.f a b c l d s m mons = some u ∧ reefref16_Chosen.f a b c l d s m mons = some u := by
    unfold lead_Chosen.f reefref16_Chosen.f lead_many_int.f
    have e : reefref16_Most.f mons = lead_Most.f mons := rfl
    rw [e]
    obtain ⟨q, hq⟩ : ∃ q, lead_Most.f mons = some q := by unfold lead_Most.f; split <;> exact ⟨_, rfl⟩
    rw [hq]
    by_cases h1 : d = true
    · by_cases h2 : mons ≥ 1
      · exact ⟨_, by rw [if_pos h1, if_pos h2]; rfl, by rw [if_pos h2, if_pos h1]; rfl⟩
      · exact ⟨false, by rw [if_pos h1, if_neg h2]; rfl, by rw [if_neg h2]⟩
    · by_cases h2 : mons ≥ 1
      · exact ⟨false, by rw [if_neg h1], by rw [if_pos h2, if_neg h1]⟩
      · exact ⟨false, by rw [if_neg h1], by rw [if_neg h2]⟩
  refine Ev.step (f := fun k => _) (fun k => by rw [reeflaw16_LeadDoes.j0]) ?_
  simp only [Bool.not_true, Bool.false_eq_true, if_false]
  refine Ev.bind ht ?_
  cases t with
  | false =>
    simp only [Bool.false_eq_true, if_false]
    exact Ev.bind awake_ev (Ev.now _)
  | true =>
    have hs := hs rfl
    obtain ⟨r, hr1, hr2, hr3⟩ : ∃ r : List Int, r.length < 4611686018427387904 ∧ Ev (fun k => lead_Ack.f k a b c l d s m mon) (a, b, c, l, d, s, r) ∧ Ev (fun k => reefref16_Ack.f k a b c l d s m mon) (a, b, c, l, d, s, r) := by
      unfold lead_Ack.f reefref16_Ack.f
      simp only [ho, copy_some a b c l d s m (by omega) (by omega), Option.bind_some]
      cases d with
      | false =>
        simp only [Bool.false_eq_true, if_false]
        exact ⟨m, by omega, Ev.step (f := fun _ => some (a, b, c, l, false, s, m)) (fun k => by simp only [lead_Ack.j0, if_true]) (Ev.now _), Ev.now _⟩
      | true =>
        simp only [if_true]
        have hsp := spotI_le m mon m.length 0 (Nat.zero_le _)
        have hpl := putI_len m mon _ hsp
        have hra := rack_ev a b c l true s m mon (by omega) a b c l true s m m.length 0 (by omega)
        have hla := ack_ev a b c l true s m mon (by omega) m.length 0 (by omega)
        refine ⟨_, by omega, ?_, hra⟩
        cases hc : (m.any fun y => y == mon) with
        | true =>
          have hce := containsInt_ev m mon (by omega)
          rw [hc] at hce
          refine Ev.bind hce ?_
          rw [putI_in m mon hs hc]
          exact Ev.step (f := fun _ => some (a, b, c, l, true, s, m)) (fun k => by simp only [lead_Ack.j0, if_true]) (Ev.now _)
        | false =>
          have hce := containsInt_ev m mon (by omega)
          rw [hc] at hce
          refine Ev.bind hce ?_
          rw [putI_out m mon _ hc]
          refine Ev.step (f := fun k => lead_Ack.l0 k mon 0 a b c l true s m) (fun k => by simp only [lead_Ack.j0, Bool.false_eq_true, if_false]) ?_
          exact hla
    have hw := wait_ev a b c l d s m mons (by omega) (by omega)
    have hn : (mn (mx mons 0) 64).toNat ≤ 64 := by unfold mn mx; split <;> split <;> omega
    have hlen := lead_Wait.row_len a l d m (mn (mx mons 0) 64).toNat
    simp only [if_true, copy_some a b c l d s m (by omega) (by omega), lead_Lead.f, reefref16_Lead.f, Option.bind_some, hp, hpe, hde, hdl, hu, hv]
    refine Ev.bind (rsame_ev _ _ _ _ _ _ _ (by simp) (by simp)) ?_
    simp only [if_true]
    refine Ev.bind (rsame_ev _ _ _ _ _ _ _ hp3 hp6) ?_
    simp only [if_true]
    refine Ev.bind hr2 (Ev.bind hr3 ?_)
    dsimp only
    refine Ev.bind (rsame_ev _ _ _ _ _ _ _ (by omega) hr1) ?_
    simp only [if_true]
    refine Ev.bind (rsame_ev _ _ _ _ _ _ _ (by omega) (by simp)) ?_
    simp only [if_true, bne_self_eq_false]
    refine Ev.step (f := fun k => (reefref16_Wait.f k a b c l d s m mons).bind fun t630 => (if ((lead_Wait.row a l d m (mn (mx mons 0) 64).toNat).length : Int) = (t630.length : Int) then (reeflaw16_LeadDoes.l0 k (lead_Wait.row a l d m (mn (mx mons 0) 64).toNat) t630 0 a b c l d s m a b c l d s m) else (none))) (fun k => ?_) ?_
    · simp only [reeflaw16_LeadDoes.j1, lead_Wait.f, Option.bind_some, Bool.false_eq_true, if_false]
    · refine Ev.bind hw ?_
      simp only [if_true]
      exact cmp_ev a b c l d s m _ (by omega) (by omega) (by omega)
end Go.Proofs.Ytpdpjcpmpppadaa.Pure
