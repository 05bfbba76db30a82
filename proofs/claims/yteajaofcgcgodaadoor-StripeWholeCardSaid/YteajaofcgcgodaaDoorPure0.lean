/- Which byte lies where, in whole numbers; what the laws of chapter 28 share. -/
import Derived.Test.YteajaofcgcgodaaDoorP24
import Derived.Test.YteajaofcgcgodaaDoorP2
import Derived.Test.YteajaofcgcgodaaDoorP3
import Derived.Test.YteajaofcgcgodaaDoorP4
import Derived.Test.YteajaofcgcgodaaDoorP12
namespace Go.Proofs.YteajaofcgcgodaaDoor.Pure
open Go.RowKit Go.Proofs.YteajaofcgcgodaaDoor.P Go.Proofs.YteajaofcgcgodaaDoorW.PrintWords Go.Proofs.YteajaofcgcgodaaDoorW.PrintLast Go.Proofs.YteajaofcgcgodaaDoorW.PrintMore
set_option linter.unusedVariables false

theorem wrap_of {x : Int} (h0 : -9223372036854775808 ≤ x) (h1 : x < 9223372036854775808) : wrap64 x = x := by unfold wrap64; omega
/-- Where byte x lies, and which byte lies there. -/
def pI (u c K x : Nat) : Nat := x / u / c / K * c + x / u % c
def pO (u c K x : Nat) : Nat := x / u / c % K * u + x % u
def bk (u c K i f : Nat) : Nat := ((i / c * K + f / u) * c + i % c) * u + f % u
theorem mul_add_div (a b c : Nat) (h : b < c) : (a * c + b) / c = a := by
  rw [Nat.add_comm, Nat.add_mul_div_right _ _ (by omega), Nat.div_eq_of_lt h, Nat.zero_add]
theorem mul_add_mod' (a b c : Nat) (h : b < c) : (a * c + b) % c = b := by
  rw [Nat.add_comm, Nat.add_mul_mod_self_right, Nat.mod_eq_of_lt h]
theorem div_mod_eq (a b : Nat) : a / b * b + a % b = a := by rw [Nat.mul_comm]; exact Nat.div_add_mod a b
theorem bk_pl (u c K x : Nat) (hu : 0 < u) (hc : 0 < c) : bk u c K (pI u c K x) (pO u c K x) = x := by
  unfold bk pI pO
  rw [mul_add_div _ _ c (Nat.mod_lt _ hc), mul_add_mod' _ _ c (Nat.mod_lt _ hc), mul_add_div _ _ u (Nat.mod_lt _ hu), mul_add_mod' _ _ u (Nat.mod_lt _ hu), div_mod_eq, div_mod_eq, div_mod_eq]
theorem pI_bk (u c K i f : Nat) (hu : 0 < u) (hc : 0 < c) (hf : f < K * u) : pI u c K (bk u c K i f) = i ∧ pO u c K (bk u c K i f) = f := by
  have hfu : f / u < K := (Nat.div_lt_iff_lt_mul hu).2 hf
  unfold bk pI pO
  rw [mul_add_div _ _ u (Nat.mod_lt _ hu), mul_add_mod' _ _ u (Nat.mod_lt _ hu), mul_add_div _ _ c (Nat.mod_lt _ hc), mul_add_mod' _ _ c (Nat.mod_lt _ hc), mul_add_div _ _ K hfu, mul_add_mod' _ _ K hfu, div_mod_eq, div_mod_eq]
  exact ⟨rfl, rfl⟩
theorem pI_le (u c K x : Nat) (hK : 0 < K) : pI u c K x ≤ x := by
  unfold pI
  have h1 : x / u / c / K * c ≤ x / u / c * c := Nat.mul_le_mul_right _ (Nat.div_le_self _ _)
  have h2 := div_mod_eq (x / u) c
  have h3 := Nat.div_le_self x u
  omega
theorem pO_lt (u c K x : Nat) (hu : 0 < u) (hK : 0 < K) : pO u c K x < K * u := by
  unfold pO
  have h1 : x / u / c % K < K := Nat.mod_lt _ hK
  have h2 : x % u < u := Nat.mod_lt _ hu
  have h3 : (x / u / c % K + 1) * u ≤ K * u := Nat.mul_le_mul_right _ h1
  rw [Nat.add_mul, Nat.one_mul] at h3
  omega
/-- A layout that is fit, in whole numbers. -/
structure Lay (u c o : Nat) : Prop where
  u1 : 1 ≤ u
  uo : u ≤ o
  o64 : o ≤ 64
  dvd : o % u = 0
  c1 : 1 ≤ c
  c16 : c ≤ 16
theorem Lay.K {u c o : Nat} (h : Lay u c o) : 0 < o / u := Nat.div_pos h.uo h.u1
theorem Lay.Ku {u c o : Nat} (h : Lay u c o) : o / u * u = o := Nat.div_mul_cancel (Nat.dvd_of_mod_eq_zero h.dvd)
theorem fit_cases (u c o : Int) : ∃ b, reefref28_Fit.f u c o = some b ∧ stripe_Fit.f u c o = some b ∧ (b = true → ∃ u' c' o' : Nat, u = u' ∧ c = c' ∧ o = o' ∧ Lay u' c' o') := by
  have e : stripe_Fit.f u c o = reefref28_Fit.f u c o := rfl
  rw [e]
  unfold reefref28_Fit.f
  by_cases h1 : u ≥ 1
  · rw [if_pos h1]
    by_cases h2 : o ≥ u
    · rw [if_pos h2]
      by_cases h3 : o ≤ 64
      · rw [if_pos h3, if_neg (by omega)]
        by_cases h4 : Int.tmod o u = 0
        · rw [if_pos h4]
          by_cases h5 : c ≥ 1
          · rw [if_pos h5]
            refine ⟨_, rfl, rfl, fun h => ?_⟩
            have h6 := of_decide_eq_true h
            refine ⟨u.toNat, c.toNat, o.toNat, by omega, by omega, by omega, by omega, by omega, by omega, ?_, by omega, by omega⟩
            rw [Int.tmod_eq_emod_of_nonneg (by omega)] at h4
            have : ((o.toNat % u.toNat : Nat) : Int) = 0 := by rw [Int.natCast_emod, Int.toNat_of_nonneg (by omega), Int.toNat_of_nonneg (by omega)]; exact h4
            omega
          · rw [if_neg h5]; exact ⟨false, rfl, rfl, fun h => by cases h⟩
        · rw [if_neg h4]; exact ⟨false, rfl, rfl, fun h => by cases h⟩
      · rw [if_neg h3]; exact ⟨false, rfl, rfl, fun h => by cases h⟩
    · rw [if_neg h2]; exact ⟨false, rfl, rfl, fun h => by cases h⟩
  · rw [if_neg h1]; exact ⟨false, rfl, rfl, fun h => by cases h⟩
theorem tdiv_nat (a b : Nat) : Int.tdiv (a : Int) (b : Int) = ((a / b : Nat) : Int) := by rw [Int.tdiv_eq_ediv_of_nonneg (by omega)]; rfl
theorem tmod_nat (a b : Nat) : Int.tmod (a : Int) (b : Int) = ((a % b : Nat) : Int) := by rw [Int.tmod_eq_emod_of_nonneg (by omega)]; rfl
theorem wrap_nat {n : Nat} (h : n < 9223372036854775808) : wrap64 (n : Int) = (n : Int) := wrap_of (by omega) (by omega)
theorem find_nat {u c o : Nat} (h : Lay u c o) (x : Nat) (hx : x < 9223372036854775808) : stripe_find.f u c o x = some (((pI u c (o / u) x : Nat) : Int), ((pO u c (o / u) x : Nat) : Int)) := by
  have hK := h.K
  have hu := h.u1; have hc := h.c1; have ho := h.o64
  have e1 : x / u ≤ x := Nat.div_le_self _ _
  have e2 : x / u / c ≤ x / u := Nat.div_le_self _ _
  have e3 : o / u ≤ o := Nat.div_le_self _ _
  have e4 : x / u / c / (o / u) ≤ x / u / c := Nat.div_le_self _ _
  have e5 := pI_le u c (o / u) x hK
  have e6 := pO_lt u c (o / u) x hu hK
  rw [h.Ku] at e6
  have e7 : x / u / c / (o / u) * c ≤ pI u c (o / u) x := Nat.le_add_right _ _
  have e8 : x / u / c % (o / u) * u ≤ pO u c (o / u) x := Nat.le_add_right _ _
  have f1 : pI u c (o / u) x = x / u / c / (o / u) * c + x / u % c := rfl
  have f2 : pO u c (o / u) x = x / u / c % (o / u) * u + x % u := rfl
  unfold stripe_find.f
  rw [if_neg (by omega), if_neg (by omega), tdiv_nat o u, wrap_nat (by omega), if_neg (by omega), tdiv_nat x u, wrap_nat (by omega), tdiv_nat (x / u) c, wrap_nat (by omega), tdiv_nat (x / u / c), wrap_nat (by omega), tmod_nat, tmod_nat, tmod_nat,
    show ((x / u / c / (o / u) : Nat) : Int) * (c : Int) = ((x / u / c / (o / u) * c : Nat) : Int) by rw [Int.natCast_mul], wrap_nat (by omega),
    show ((x / u / c % (o / u) : Nat) : Int) * (u : Int) = ((x / u / c % (o / u) * u : Nat) : Int) by rw [Int.natCast_mul], wrap_nat (by omega), ← Int.natCast_add, ← Int.natCast_add, ← f1, ← f2, wrap_nat (by omega), wrap_nat (by omega)]
theorem place_nat {u c o : Nat} (h : Lay u c o) (x : Nat) (hx : x < 4096) : stripe_Place.f u c o x = some (((pI u c (o / u) x : Nat) : Int), ((pO u c (o / u) x : Nat) : Int)) := by
  unfold stripe_Place.f
  rw [if_neg (by omega), if_neg (by omega), find_nat h x (by omega)]
  rfl
theorem back_no {u c o : Int} (i f : Int) (h : i < 0 ∨ f < 0 ∨ f ≥ o ∨ i ≥ 4096) : Ev (fun k => stripe_Back.f k u c o i f) (0, 28) := by
  have j : ∀ i f, Ev (fun k => stripe_Back.j0 k i f true u c o) ((0 : Int), (28 : Int)) := fun i f => Ev.step (f := fun _ => some (0, 28)) (fun k => by simp only [stripe_Back.j0, if_true]) (Ev.now _)
  by_cases h1 : i < 0
  · exact Ev.congr (fun k => by unfold stripe_Back.f; rw [if_pos h1]) (j i f)
  · by_cases h2 : f < 0
    · exact Ev.congr (fun k => by unfold stripe_Back.f; rw [if_neg h1, if_pos h2]) (j i f)
    · by_cases h3 : f ≥ o
      · exact Ev.congr (fun k => by unfold stripe_Back.f; rw [if_neg h1, if_neg h2, if_pos h3]) (j i f)
      · have h4 : decide (i ≥ 4096) = true := decide_eq_true (by omega)
        exact Ev.congr (fun k => by unfold stripe_Back.f; rw [if_neg h1, if_neg h2, if_neg h3, h4]) (j i f)
theorem back_nat {u c o : Nat} (h : Lay u c o) (i f : Nat) (hi : i < 4096) (hf : f < o) : Ev (fun k => stripe_Back.f k u c o i f) (if bk u c (o / u) i f ≥ 4096 then ((0 : Int), (28 : Int)) else (((bk u c (o / u) i f : Nat) : Int), 0)) := by
  have hK := h.K
  have hu := h.u1; have hc := h.c1; have ho := h.o64; have huo := h.uo; have hcc := h.c16
  have e1 : i / c ≤ i := Nat.div_le_self _ _
  have e2 : o / u ≤ o := Nat.div_le_self _ _
  have e3 : f / u ≤ f := Nat.div_le_self _ _
  have e4 : i / c * (o / u) ≤ 4096 * 64 := Nat.mul_le_mul (by omega) (by omega)
  have e5 : i % c < c := Nat.mod_lt _ hc
  have e6 : f % u < u := Nat.mod_lt _ hu
  have e7 : (i / c * (o / u) + f / u) * c ≤ (4096 * 64 + 64) * 16 := Nat.mul_le_mul (by omega) hcc
  have e8 : ((i / c * (o / u) + f / u) * c + i % c) * u ≤ ((4096 * 64 + 64) * 16 + 16) * 64 := Nat.mul_le_mul (by omega) (by omega)
  have hd : decide ((i : Int) ≥ 4096) = false := decide_eq_false (by omega)
  have eb : bk u c (o / u) i f = ((i / c * (o / u) + f / u) * c + i % c) * u + f % u := rfl
  refine Ev.congr (f := fun k => stripe_Back.j0 k i f false u c o) (fun k => by unfold stripe_Back.f; rw [if_neg (by omega), if_neg (by omega), if_neg (by omega), hd]) ?_
  refine Ev.step (f := fun _ => some (if bk u c (o / u) i f ≥ 4096 then ((0 : Int), (28 : Int)) else (((bk u c (o / u) i f : Nat) : Int), 0))) (fun k => ?_) (Ev.now _)
  simp only [stripe_Back.j0]
  rw [if_neg (by decide), if_neg (by omega), if_neg (by omega), tdiv_nat i c, wrap_nat (by omega), tdiv_nat o u, wrap_nat (by omega), tdiv_nat f u, wrap_nat (by omega), tmod_nat, tmod_nat, ← Int.natCast_mul, wrap_nat (by omega), ← Int.natCast_add, wrap_nat (by omega), ← Int.natCast_mul, wrap_nat (by omega), ← Int.natCast_add, wrap_nat (by omega), ← Int.natCast_mul, wrap_nat (by omega), ← Int.natCast_add, wrap_nat (by omega), ← eb]
  by_cases hb : bk u c (o / u) i f ≥ 4096
  · rw [if_pos hb, if_pos (by omega)]
  · rw [if_neg hb, if_neg (by omega)]
set_option maxRecDepth 100000 in
theorem awake_ev : Ev (fun k => reeflaw28_awake.f k) true := Ev.of (k := 30) (fun k => reeflaw28_awake.mono k) (by decide +kernel)
end Go.Proofs.YteajaofcgcgodaaDoor.Pure
