/- The pieces of a range are the document's. -/
import Derived.Test.YteajaofcgcgodaaDoorPure0
import Derived.Test.YteajaofcgcgodaaDoorP8
import Derived.Test.YteajaofcgcgodaaDoorP9
import Derived.Test.YteajaofcgcgodaaDoorP10
import Derived.Test.YteajaofcgcgodaaDoorP26
namespace Go.Proofs.YteajaofcgcgodaaDoor.Pure
open Go.RowKit Go.Proofs.YteajaofcgcgodaaDoor.P Go.Proofs.YteajaofcgcgodaaDoorW.PrintWords Go.Proofs.YteajaofcgcgodaaDoorW.PrintLast Go.Proofs.YteajaofcgcgodaaDoorW.PrintMore
set_option linter.unusedVariables false
theorem rplace_nat {u c o : Nat} (h : Lay u c o) (x : Nat) (hx : x < 4096) : reefref28_Place.f u c o x = some (((pI u c (o / u) x : Nat) : Int), ((pO u c (o / u) x : Nat) : Int)) := by
  have e : reefref28_Place.f u c o x = if (x : Int) < 0 then some (0, 0) else if (x : Int) ≥ 4096 then some (0, 0) else stripe_find.f u c o x := rfl
  rw [e, if_neg (by omega), if_neg (by omega), find_nat h x (by omega)]
theorem Lay.okL {u c o : Nat} (h : Lay u c o) : okL u c o := by
  have hK := h.K
  have h3 : o / u ≤ o := Nat.div_le_self _ _
  refine ⟨by have := h.u1; omega, by have := h.c1; omega, ?_⟩
  rw [tdiv_nat, wrap_nat (by have := h.o64; omega)]
  omega
theorem fd_nat {u c o : Nat} (h : Lay u c o) (off i : Nat) (hx : off + i < 4096) : fdOf u c o off i = (((pI u c (o / u) (off + i) : Nat) : Int), ((pO u c (o / u) (off + i) : Nat) : Int)) := by
  unfold fdOf
  rw [← Int.natCast_add, wrap_nat (by omega), find_nat h (off + i) (by omega)]
  rfl
theorem same_ev (l : List S51) (hl : l.length < 9223372036854775807) : Ev (fun k => reefref28_Same.f k l l) true := by
  have : ∀ (d i : Nat), i + d = l.length → Ev (fun k => reefref28_Same.l0 k l l i) true := by
    intro d
    induction d with
    | zero =>
      intro i hi
      refine Ev.step (f := fun _ => some true) (fun k => ?_) (Ev.now _)
      simp only [reefref28_Same.l0]
      rw [if_neg (by omega)]
    | succ d ih =>
      intro i hi
      refine Ev.step (f := fun k => reefref28_Same.l0 k l l ((i + 1 : Nat) : Int)) (fun k => ?_) (ih (i + 1) (by omega))
      simp only [reefref28_Same.l0]
      rw [if_pos (by omega), if_pos (by omega), if_pos (by omega), wrap_of (by omega) (by omega), if_neg (by simp)]
      rfl
  refine Ev.congr (f := fun k => reefref28_Same.l0 k l l (0 : Nat)) (fun k => ?_) (this l.length 0 (by omega))
  simp only [reefref28_Same.f, if_true]
  rfl
theorem rd_last (pre : List S51) (f : S51) : rd_T51 (pre ++ [f]) (pre.length : Int) = f := by
  unfold rd_T51; simp
theorem set_last (pre : List S51) (f g : S51) : (pre ++ [f]).set ((pre.length : Int)).toNat g = pre ++ [g] := by
  simp
theorem frags_l0 {u c o : Nat} (h : Lay u c o) (off n : Nat) (hn : off + n ≤ 4096) : ∀ (d i : Nat) (pre : List S51) (f : S51), i + d = n → 0 < f.f2 → f.f2 ≤ i → pre.length ≤ i →
    Ev (fun k => reefref28_Frags.l0 k off n (pre ++ [f]) i u c o) (pre ++ pcs (fdOf u c o off) d i f, 0) := by
  intro d
  induction d with
  | zero =>
    intro i pre f hi hf _ _
    rw [pcs, if_pos hf]
    refine Ev.step (f := fun _ => some (pre ++ [f], (0 : Int))) (fun k => ?_) (Ev.now _)
    simp only [reefref28_Frags.l0]
    rw [if_neg (by omega)]
  | succ d ih =>
    intro i pre f hi hf hfi hpi
    have hx : off + i < 4096 := by omega
    have e0 : wrap64 ((off : Int) + (i : Int)) = ((off + i : Nat) : Int) := by rw [wrap_of (by omega) (by omega)]; omega
    have hlen : (pre ++ [f]).length = pre.length + 1 := by simp
    have e1 : wrap64 (((pre ++ [f]).length : Int) - 1) = (pre.length : Int) := by rw [hlen, wrap_of (by omega) (by omega)]; omega
    have e2 : wrap64 ((i : Int) + 1) = ((i + 1 : Nat) : Int) := by rw [wrap_of (by omega) (by omega)]; omega
    rw [pcs, fd_nat h off i hx]
    by_cases q1 : f.f0 = ((pI u c (o / u) (off + i) : Nat) : Int)
    · by_cases q2 : wrap64 (f.f1 + f.f2) = ((pO u c (o / u) (off + i) : Nat) : Int)
      · rw [if_pos ⟨hf, q1.symm, q2.symm⟩]
        refine Ev.step (f := fun k => reefref28_Frags.l0 k off n (pre ++ [⟨f.f0, f.f1, wrap64 (f.f2 + 1), f.f3⟩]) ((i + 1 : Nat) : Int) u c o) (fun k => ?_) (ih (i + 1) pre ⟨f.f0, f.f1, wrap64 (f.f2 + 1), f.f3⟩ (by omega) (by show 0 < wrap64 (f.f2 + 1); rw [wrap_of (by omega) (by omega)]; omega) (by show wrap64 (f.f2 + 1) ≤ _; rw [wrap_of (by omega) (by omega)]; omega) (by omega))
        simp only [reefref28_Frags.l0, e0, e1, e2, rplace_nat h (off + i) hx, Option.bind_some, rd_last, set_last]
        rw [if_pos (by omega), if_pos (by omega), if_pos (by omega), if_pos (by omega), if_pos q1, if_pos q2]
      · rw [if_neg (fun q => q2 q.2.2.symm), if_pos hf]
        refine Ev.step (f := fun k => reefref28_Frags.l0 k off n ((pre ++ [f]) ++ [⟨((pI u c (o / u) (off + i) : Nat) : Int), ((pO u c (o / u) (off + i) : Nat) : Int), 1, (i : Int)⟩]) ((i + 1 : Nat) : Int) u c o) (fun k => ?_) ?_
        · simp only [reefref28_Frags.l0, e0, e1, e2, rplace_nat h (off + i) hx, Option.bind_some, rd_last, set_last]
          rw [if_pos (by omega), if_pos (by omega), if_pos (by omega), if_pos (by omega), if_pos q1, if_neg q2, if_pos (by omega)]
        · have := ih (i + 1) (pre ++ [f]) ⟨((pI u c (o / u) (off + i) : Nat) : Int), ((pO u c (o / u) (off + i) : Nat) : Int), 1, (i : Int)⟩ (by omega) (by show (0 : Int) < 1; omega) (by show (1 : Int) ≤ _; omega) (by omega)
          rw [← List.append_assoc]
          exact this
    · rw [if_neg (fun q => q1 q.2.1.symm), if_pos hf]
      refine Ev.step (f := fun k => reefref28_Frags.l0 k off n ((pre ++ [f]) ++ [⟨((pI u c (o / u) (off + i) : Nat) : Int), ((pO u c (o / u) (off + i) : Nat) : Int), 1, (i : Int)⟩]) ((i + 1 : Nat) : Int) u c o) (fun k => ?_) ?_
      · simp only [reefref28_Frags.l0, e0, e1, e2, rplace_nat h (off + i) hx, Option.bind_some, rd_last, set_last]
        rw [if_pos (by omega), if_pos (by omega), if_pos (by omega), if_pos (by omega), if_neg q1, if_pos (by omega)]
      · have := ih (i + 1) (pre ++ [f]) ⟨((pI u c (o / u) (off + i) : Nat) : Int), ((pO u c (o / u) (off + i) : Nat) : Int), 1, (i : Int)⟩ (by omega) (by show (0 : Int) < 1; omega) (by show (1 : Int) ≤ _; omega) (by omega)
        rw [← List.append_assoc]
        exact this
theorem frags_all {u c o : Nat} (h : Lay u c o) (off n : Nat) (hn : off + n ≤ 4096) : Ev (fun k => reefref28_Frags.l0 k off n ([] : List S51) 0 u c o) (pcs (fdOf u c o off) n 0 z51, 0) := by
  cases n with
  | zero =>
    refine Ev.step (f := fun _ => some (([] : List S51), (0 : Int))) (fun k => ?_) (Ev.now _)
    simp only [reefref28_Frags.l0]
    rw [if_neg (by omega)]
  | succ d =>
    have hx : off + 0 < 4096 := by omega
    have e0 : wrap64 ((off : Int) + 0) = ((off + 0 : Nat) : Int) := by rw [wrap_of (by omega) (by omega)]; omega
    have e2 : wrap64 ((0 : Int) + 1) = ((0 + 1 : Nat) : Int) := by rw [wrap_of (by omega) (by omega)]; rfl
    have e1 : wrap64 ((([] : List S51).length : Int) - 1) = -1 := by rw [List.length_nil, wrap_of (by omega) (by omega)]; rfl
    rw [pcs, fd_nat h off 0 hx, if_neg (fun q => by have := q.1; simp [z51] at this), if_neg (by simp [z51]), List.nil_append]
    refine Ev.step (f := fun k => reefref28_Frags.l0 k off ((d + 1 : Nat) : Int) ([] ++ [⟨((pI u c (o / u) (off + 0) : Nat) : Int), ((pO u c (o / u) (off + 0) : Nat) : Int), 1, ((0 : Nat) : Int)⟩]) ((0 + 1 : Nat) : Int) u c o) (fun k => ?_) (frags_l0 h off (d + 1) hn d (0 + 1) [] _ (by omega) (by show (0 : Int) < 1; omega) (by show (1 : Int) ≤ _; omega) (by simp))
    simp only [reefref28_Frags.l0, e0, e1, e2, rplace_nat h (off + 0) hx, Option.bind_some]
    rw [if_pos (by omega), if_neg (by decide), if_pos (by decide)]
    rfl
theorem rfrags_no (u c o off n : Int) (h : off < 0 ∨ n < 0 ∨ 4096 < off ∨ 4096 - off < n) : Ev (fun k => reefref28_Frags.f k u c o off n) (([] : List S51), 28) := by
  have j : Ev (fun k => reefref28_Frags.j0 k off n true u c o) (([] : List S51), (28 : Int)) := Ev.step (f := fun _ => some ([], 28)) (fun k => by simp only [reefref28_Frags.j0, if_true]) (Ev.now _)
  by_cases h1 : off < 0
  · exact Ev.congr (fun k => by unfold reefref28_Frags.f; rw [if_pos h1]) j
  · by_cases h2 : n < 0
    · exact Ev.congr (fun k => by unfold reefref28_Frags.f; rw [if_neg h1, if_pos h2]) j
    · by_cases h3 : off > 4096
      · exact Ev.congr (fun k => by unfold reefref28_Frags.f; rw [if_neg h1, if_neg h2, if_pos h3]) j
      · have hw : wrap64 (4096 - off) = 4096 - off := wrap_of (by omega) (by omega)
        have h4 : decide (n > wrap64 (4096 - off)) = true := decide_eq_true (by omega)
        exact Ev.congr (fun k => by unfold reefref28_Frags.f; rw [if_neg h1, if_neg h2, if_neg h3, h4]) j
theorem frags_ev (u c o off n : Int) : Ev (fun k => reeflaw28_StripeFrags.f k u c o off n) true := by
  unfold reeflaw28_StripeFrags.f
  obtain ⟨t, ht, _, hfit⟩ := fit_cases u c o
  rw [ht]
  simp only [Option.bind_some]
  cases t with
  | false =>
    simp only [Bool.false_eq_true, if_false]
    exact Ev.bind awake_ev (Ev.now _)
  | true =>
    obtain ⟨u, c, o, rfl, rfl, rfl, h⟩ := hfit rfl
    simp only [if_true]
    by_cases hb : off < 0 ∨ n < 0 ∨ 4096 < n ∨ 4096 - n < off
    · have e : stripe_Frags.f u c o off n = some ([], 28) := by unfold stripe_Frags.f; rw [if_pos hb]
      simp only [e, Option.bind_some]
      refine Ev.bind (rfrags_no u c o off n (by omega)) (Ev.bind (same_ev [] (by decide)) ?_)
      simp only [if_true]
      exact Ev.bind awake_ev (Ev.now _)
    · obtain ⟨off, rfl⟩ := Int.eq_ofNat_of_zero_le (show 0 ≤ off by omega)
      obtain ⟨n, rfl⟩ := Int.eq_ofNat_of_zero_le (show 0 ≤ n by omega)
      have e : stripe_Frags.f u c o off n = some (pcs (fdOf u c o off) n 0 z51, 0) := by unfold stripe_Frags.f; rw [if_neg hb, if_pos h.okL, Int.toNat_natCast]
      have hw : wrap64 (4096 - (off : Int)) = 4096 - (off : Int) := wrap_of (by omega) (by omega)
      have hd : decide ((n : Int) > wrap64 (4096 - (off : Int))) = false := decide_eq_false (by omega)
      have hr : Ev (fun k => reefref28_Frags.f k u c o off n) (pcs (fdOf u c o off) n 0 z51, 0) := by
        refine Ev.congr (f := fun k => reefref28_Frags.j0 k off n false u c o) (fun k => by unfold reefref28_Frags.f; rw [if_neg (by omega), if_neg (by omega), if_neg (by omega), hd]) ?_
        exact Ev.step (f := fun k => reefref28_Frags.l0 k off n ([] : List S51) 0 u c o) (fun k => by simp only [reefref28_Frags.j0, Bool.false_eq_true, if_false]) (frags_all h off n (by omega))
      have hl := pcs_len (fdOf u c o off) n 0 z51
      simp only [e, Option.bind_some]
      refine Ev.bind hr (Ev.bind (same_ev _ (by omega)) ?_)
      simp only [if_true]
      exact Ev.bind awake_ev (Ev.now _)
end Go.Proofs.YteajaofcgcgodaaDoor.Pure
