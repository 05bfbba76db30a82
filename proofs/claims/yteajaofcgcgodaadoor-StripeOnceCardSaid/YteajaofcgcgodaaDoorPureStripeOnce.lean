/- Each byte lies in one place, and no two in the same. -/
import Derived.Test.YteajaofcgcgodaaDoorPure0
import Derived.Test.YteajaofcgcgodaaDoorOfreeflaw28StripeOnce
namespace Go.Proofs.YteajaofcgcgodaaDoor.Pure
open Go.RowKit Go.Proofs.YteajaofcgcgodaaDoor.P Go.Proofs.YteajaofcgcgodaaDoorW.PrintWords Go.Proofs.YteajaofcgcgodaaDoorW.PrintLast Go.Proofs.YteajaofcgcgodaaDoorW.PrintMore
set_option linter.unusedVariables false
theorem into (a : Int) : ∃ x : Nat, wrap64 (Int.tmod (IntKind.u64.wrap a) 4096) = (x : Int) ∧ x < 4096 := by
  have hw : 0 ≤ IntKind.u64.wrap a := by simp [IntKind.wrap, IntKind.bits, IntKind.signed]; omega
  rw [Int.tmod_eq_emod_of_nonneg hw, wrap_of (by omega) (by omega)]
  exact ⟨(IntKind.u64.wrap a % 4096).toNat, by omega, by omega⟩
theorem once_ev (u c o a b : Int) : Ev (fun k => reeflaw28_StripeOnce.f k u c o a b) true := by
  unfold reeflaw28_StripeOnce.f
  obtain ⟨t, ht, _, hfit⟩ := fit_cases u c o
  rw [ht]
  simp only [Option.bind_some]
  cases t with
  | false =>
    simp only [Bool.false_eq_true, if_false]
    exact Ev.bind awake_ev (Ev.now _)
  | true =>
    obtain ⟨u, c, o, rfl, rfl, rfl, h⟩ := hfit rfl
    obtain ⟨x, hx, hx4⟩ := into a
    obtain ⟨y, hy, hy4⟩ := into b
    have hi := pI_le u c (o / u) x h.K
    have hf := pO_lt u c (o / u) x h.u1 h.K
    rw [h.Ku] at hf
    have hb := back_nat h (pI u c (o / u) x) (pO u c (o / u) x) (by omega) hf
    have hbx := bk_pl u c (o / u) x h.u1 h.c1
    have hby := bk_pl u c (o / u) y h.u1 h.c1
    rw [hbx, if_neg (by omega)] at hb
    simp only [hx, hy, place_nat h x hx4, place_nat h y hy4, Option.bind_some, if_true]
    refine Ev.bind hb ?_
    simp only [if_true]
    have g1 : ((pO u c (o / u) x : Nat) : Int) ≥ 0 := by omega
    have g2 : ((pO u c (o / u) x : Nat) : Int) < (o : Int) := by omega
    have g3 : ((pI u c (o / u) x : Nat) : Int) ≥ 0 := by omega
    have e1 : (pI u c (o / u) x = pI u c (o / u) y ∧ pO u c (o / u) x = pO u c (o / u) y) ↔ x = y :=
      ⟨fun ⟨q1, q2⟩ => by rw [q1, q2, hby] at hbx; exact hbx.symm, fun q => by rw [q]; exact ⟨rfl, rfl⟩⟩
    have fin : Ev (fun k => (reeflaw28_awake.f k).bind fun t => some t) true := Ev.bind awake_ev (Ev.now _)
    by_cases q1 : ((pI u c (o / u) x : Nat) : Int) = ((pI u c (o / u) y : Nat) : Int)
    · have q : ((((pO u c (o / u) x : Nat) : Int) == ((pO u c (o / u) y : Nat) : Int)) == ((x : Int) == (y : Int))) = true := by
        by_cases q2 : x = y
        · subst q2; simp
        · have q3 : ¬ pO u c (o / u) x = pO u c (o / u) y := fun q3 => q2 (e1.1 ⟨by omega, q3⟩)
          have w1 : (((pO u c (o / u) x : Nat) : Int) == ((pO u c (o / u) y : Nat) : Int)) = false := beq_eq_false_iff_ne.2 (by omega)
          have w2 : ((x : Int) == (y : Int)) = false := beq_eq_false_iff_ne.2 (by omega)
          rw [w1, w2]; rfl
      simp only [if_pos q1, if_pos q, if_pos g1, if_pos g2, if_pos g3]
      exact fin
    · have q : (false == ((x : Int) == (y : Int))) = true := by
        have w3 : x ≠ y := fun q => q1 (by rw [q])
        have w2 : ((x : Int) == (y : Int)) = false := beq_eq_false_iff_ne.2 (by omega)
        rw [w2]; rfl
      simp only [if_neg q1, if_pos q, if_pos g1, if_pos g2, if_pos g3]
      exact fin
end Go.Proofs.YteajaofcgcgodaaDoor.Pure
