/- Which byte lies where, there and back, is the document's: a search among all bytes. -/
import Derived.Test.YteajaofcgcgodaaDoorPure0
import Derived.Test.YteajaofcgcgodaaDoorP8
import Derived.Test.YteajaofcgcgodaaDoorP13
import Derived.Test.YteajaofcgcgodaaDoorP29
namespace Go.Proofs.YteajaofcgcgodaaDoor.Pure
open Go.RowKit Go.Proofs.YteajaofcgcgodaaDoor.P Go.Proofs.YteajaofcgcgodaaDoorW.PrintWords Go.Proofs.YteajaofcgcgodaaDoorW.PrintLast Go.Proofs.YteajaofcgcgodaaDoorW.PrintMore
set_option linter.unusedVariables false
theorem rplace_nat {u c o : Nat} (h : Lay u c o) (x : Nat) (hx : x < 4096) : reefref28_Place.f u c o x = some (((pI u c (o / u) x : Nat) : Int), ((pO u c (o / u) x : Nat) : Int)) := by
  have e : reefref28_Place.f u c o x = if (x : Int) < 0 then some (0, 0) else if (x : Int) ≥ 4096 then some (0, 0) else stripe_find.f u c o x := rfl
  rw [e, if_neg (by omega), if_neg (by omega), find_nat h x (by omega)]
theorem both_place {u c o : Nat} (h : Lay u c o) (a : Int) : ∃ p : Int × Int, stripe_Place.f u c o a = some p ∧ reefref28_Place.f u c o a = some p := by
  by_cases h1 : a < 0
  · exact ⟨(0, 0), by unfold stripe_Place.f; rw [if_pos h1], by unfold reefref28_Place.f; rw [if_pos h1]⟩
  · by_cases h2 : a ≥ 4096
    · exact ⟨(0, 0), by unfold stripe_Place.f; rw [if_neg h1, if_pos h2], by unfold reefref28_Place.f; rw [if_neg h1, if_pos h2]⟩
    · obtain ⟨x, rfl⟩ := Int.eq_ofNat_of_zero_le (show 0 ≤ a by omega)
      exact ⟨_, place_nat h x (by omega), rplace_nat h x (by omega)⟩
def seek (P : Nat → Prop) [DecidablePred P] : Nat → Nat → Int × Int
  | 0, _ => (0, 28)
  | d + 1, x => if P x then ((x : Int), 0) else seek P d (x + 1)
theorem seek_none (P : Nat → Prop) [DecidablePred P] : ∀ (d x : Nat), (∀ y, y < x + d → ¬ P y) → seek P d x = (0, 28) := by
  intro d
  induction d with
  | zero => intro x _; rfl
  | succ d ih =>
    intro x h
    rw [seek, if_neg (h x (by omega))]
    exact ih (x + 1) (fun y hy => h y (by omega))
theorem seek_one (P : Nat → Prop) [DecidablePred P] (b : Nat) (hb : P b) (hu : ∀ y, P y → y = b) : ∀ (d x : Nat), x ≤ b → b < x + d → seek P d x = ((b : Int), 0) := by
  intro d
  induction d with
  | zero => intro x h1 h2; omega
  | succ d ih =>
    intro x h1 h2
    rw [seek]
    by_cases e : P x
    · rw [if_pos e, hu x e]
    · rw [if_neg e]
      have : x ≠ b := fun q => e (q ▸ hb)
      exact ih (x + 1) (by omega) (by omega)
theorem rback_l0 {u c o : Nat} (h : Lay u c o) (i f : Int) : ∀ (d x : Nat), x + d = 4096 → Ev (fun k => reefref28_Back.l0 k i f x u c o) (seek (fun y => ((pI u c (o / u) y : Nat) : Int) = i ∧ ((pO u c (o / u) y : Nat) : Int) = f) d x) := by
  intro d
  induction d with
  | zero =>
    intro x hx
    refine Ev.step (f := fun _ => some ((0 : Int), (28 : Int))) (fun k => ?_) (Ev.now _)
    simp only [reefref28_Back.l0]
    rw [if_neg (by omega)]
  | succ d ih =>
    intro x hx
    have hx4 : x < 4096 := by omega
    have hw : wrap64 ((x : Int) + 1) = ((x + 1 : Nat) : Int) := by rw [wrap_of (by omega) (by omega)]; omega
    rw [seek]
    by_cases e1 : ((pI u c (o / u) x : Nat) : Int) = i
    · by_cases e2 : ((pO u c (o / u) x : Nat) : Int) = f
      · rw [if_pos ⟨e1, e2⟩]
        refine Ev.step (f := fun _ => some ((x : Int), (0 : Int))) (fun k => ?_) (Ev.now _)
        simp only [reefref28_Back.l0, rplace_nat h x hx4, Option.bind_some]
        rw [if_pos (by omega), if_pos e1, if_pos e2]
      · rw [if_neg (fun q => e2 q.2)]
        refine Ev.step (f := fun k => reefref28_Back.l0 k i f ((x + 1 : Nat) : Int) u c o) (fun k => ?_) (ih (x + 1) (by omega))
        simp only [reefref28_Back.l0, rplace_nat h x hx4, Option.bind_some, hw]
        rw [if_pos (by omega), if_pos e1, if_neg e2]
    · rw [if_neg (fun q => e1 q.1)]
      refine Ev.step (f := fun k => reefref28_Back.l0 k i f ((x + 1 : Nat) : Int) u c o) (fun k => ?_) (ih (x + 1) (by omega))
      simp only [reefref28_Back.l0, rplace_nat h x hx4, Option.bind_some, hw]
      rw [if_pos (by omega), if_neg e1]
theorem both_back {u c o : Nat} (h : Lay u c o) (i f : Int) : ∃ r : Int × Int, Ev (fun k => stripe_Back.f k u c o i f) r ∧ Ev (fun k => reefref28_Back.f k u c o i f) r := by
  have hr := rback_l0 h i f 4096 0 (by omega)
  have hr' : Ev (fun k => reefref28_Back.f k u c o i f) (seek (fun y => ((pI u c (o / u) y : Nat) : Int) = i ∧ ((pO u c (o / u) y : Nat) : Int) = f) 4096 0) := hr
  have hK := h.K
  by_cases hb : i < 0 ∨ f < 0 ∨ f ≥ (o : Int) ∨ i ≥ 4096
  · refine ⟨(0, 28), back_no i f hb, ?_⟩
    rw [seek_none _ 4096 0 (fun y hy q => ?_)] at hr'
    · exact hr'
    · have h1 := pI_le u c (o / u) y hK
      have h2 := pO_lt u c (o / u) y h.u1 hK
      rw [h.Ku] at h2
      omega
  · obtain ⟨i, rfl⟩ := Int.eq_ofNat_of_zero_le (show 0 ≤ i by omega)
    obtain ⟨f, rfl⟩ := Int.eq_ofNat_of_zero_le (show 0 ≤ f by omega)
    refine ⟨_, back_nat h i f (by omega) (by omega), ?_⟩
    have hp := pI_bk u c (o / u) i f h.u1 h.c1 (by rw [h.Ku]; omega)
    have hu : ∀ y : Nat, (((pI u c (o / u) y : Nat) : Int) = (i : Int) ∧ ((pO u c (o / u) y : Nat) : Int) = (f : Int)) → y = bk u c (o / u) i f := fun y q => by
      have q1 : pI u c (o / u) y = i := by omega
      have q2 : pO u c (o / u) y = f := by omega
      have := bk_pl u c (o / u) y h.u1 h.c1
      rw [q1, q2] at this
      exact this.symm
    by_cases hb4 : bk u c (o / u) i f ≥ 4096
    · rw [if_pos hb4]
      rw [seek_none _ 4096 0 (fun y hy q => by have := hu y q; omega)] at hr'
      exact hr'
    · rw [if_neg hb4]
      rw [seek_one _ (bk u c (o / u) i f) ⟨by rw [hp.1], by rw [hp.2]⟩ hu 4096 0 (by omega) (by omega)] at hr'
      exact hr'
theorem places_ev (u c o a i f : Int) : Ev (fun k => reeflaw28_StripePlaces.f k u c o a i f) true := by
  unfold reeflaw28_StripePlaces.f
  obtain ⟨t, ht, hs, hfit⟩ := fit_cases u c o
  rw [ht, hs]
  have hne : ¬ ((t != t) = true) := by simp
  simp only [Option.bind_some, if_neg hne]
  cases t with
  | false =>
    simp only [Bool.false_eq_true, if_false]
    exact Ev.bind awake_ev (Ev.now _)
  | true =>
    obtain ⟨u, c, o, rfl, rfl, rfl, h⟩ := hfit rfl
    obtain ⟨p, hp1, hp2⟩ := both_place h a
    obtain ⟨r, hr1, hr2⟩ := both_back h i f
    simp only [hp1, hp2, Option.bind_some, if_true]
    refine Ev.bind hr1 (Ev.bind hr2 ?_)
    simp only [if_true]
    exact Ev.bind awake_ev (Ev.now _)
end Go.Proofs.YteajaofcgcgodaaDoor.Pure
