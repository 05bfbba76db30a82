/- Two majorities of at most 20 have one in common. -/
import Derived.Test.YtpdpjcpmpppadaaP28
import Derived.Test.YtpdpjcpmpppadaaPure0
namespace Go.Proofs.Ytpdpjcpmpppadaa.Pure
open Go.RowKit Go.Proofs.Ytpdpjcpmpppadaa.P Go.Proofs.YtpdpjcpmpppadaaW.PrintWords Go.Proofs.YtpdpjcpmpppadaaW.PrintLast Go.Proofs.YtpdpjcpmpppadaaW.PrintMore
set_option linter.unusedVariables false

theorem one_bit (x : Int) : Go.bits .and .u32 x 1 = 0 ∨ Go.bits .and .u32 x 1 = 1 := by
  have h : (BitVec.ofInt 32 x &&& BitVec.ofInt 32 1).toNat ≤ 1 := by
    rw [BitVec.toNat_and]; exact Nat.and_le_right
  have e : Go.bits .and .u32 x 1 = IntKind.u32.wrap ((BitVec.ofInt 32 x &&& BitVec.ofInt 32 1).toNat : Int) := rfl
  rw [e]
  generalize (BitVec.ofInt 32 x &&& BitVec.ofInt 32 1).toNat = q at h
  rw [IntKind.wrap_u32]
  omega
theorem loop (a1 a2 n most : Int) (hn0 : 1 ≤ n) (hn : n ≤ 20) (hm1 : 2 * most > n) (hm2 : 2 * (most - 1) ≤ n) : ∀ (d : Nat) (i one other both : Int), i + d = n → 0 ≤ i → 0 ≤ one → one ≤ i → 0 ≤ other → other ≤ i → 0 ≤ both → both ≤ i → one + other - both ≤ i →
    Ev (fun k => reeflaw16_LeadMajorities.l0 k n a1 a2 most one other both i) true := by
  intro d
  induction d with
  | zero =>
    intro i one other both hi h0 h1 h2 h3 h4 h5 h6 h7
    have w1 : wrap64 (2 * most) = 2 * most := wrap_of (by omega) (by omega)
    have w2 : wrap64 (most - 1) = most - 1 := wrap_of (by omega) (by omega)
    have w3 : wrap64 (2 * (most - 1)) = 2 * (most - 1) := wrap_of (by omega) (by omega)
    refine Ev.step (f := fun k => (reeflaw16_awake.f k).bind fun t => some t) (fun k => ?_) (Ev.bind awake_ev (Ev.now _))
    simp only [reeflaw16_LeadMajorities.l0, w1, w2, w3]
    rw [if_neg (show ¬ i < n by omega), if_pos hm1, if_pos hm2]
    by_cases c1 : one < most
    · rw [if_pos c1]
    · rw [if_neg c1]
      by_cases c2 : other < most
      · rw [if_pos c2]
      · rw [if_neg c2, if_pos (show both > 0 by omega)]
  | succ d ih =>
    intro i one other both hi h0 h1 h2 h3 h4 h5 h6 h7
    obtain ⟨x, hx⟩ : ∃ x, Go.bits .and .u32 (shr .u32 a1 (IntKind.u64.wrap i)) 1 = x := ⟨_, rfl⟩
    obtain ⟨y, hy⟩ : ∃ y, Go.bits .and .u32 (shr .u32 a2 (IntKind.u64.wrap i)) 1 = y := ⟨_, rfl⟩
    have bx := one_bit (shr .u32 a1 (IntKind.u64.wrap i))
    have by' := one_bit (shr .u32 a2 (IntKind.u64.wrap i))
    rw [hx] at bx
    rw [hy] at by'
    obtain ⟨z, hz, hz2⟩ : ∃ z, x * y = z ∧ (z = 0 ∧ (x = 0 ∨ y = 0) ∨ z = 1 ∧ x = 1 ∧ y = 1) := by
      rcases bx with rfl | rfl <;> rcases by' with rfl | rfl <;> exact ⟨_, rfl, by decide⟩
    have wi : IntKind.u64.wrap i = i := by rw [IntKind.wrap_u64]; omega
    have wx : wrap64 x = x := wrap_of (by omega) (by omega)
    have wy : wrap64 y = y := wrap_of (by omega) (by omega)
    have wz : wrap64 z = z := wrap_of (by omega) (by omega)
    refine Ev.step (f := fun k => reeflaw16_LeadMajorities.l0 k n a1 a2 most (one + x) (other + y) (both + z) (i + 1)) (fun k => ?_) (ih (i + 1) (one + x) (other + y) (both + z) (by omega) (by omega) (by omega) (by omega) (by omega) (by omega) (by omega) (by omega) (by omega))
    simp only [reeflaw16_LeadMajorities.l0, hx, hy, wx, wy, hz, wz]
    rw [if_pos (show i < n by omega), if_pos (show 0 ≤ IntKind.u64.wrap i by rw [wi]; exact h0), wrap_of (x := one + x) (by omega) (by omega), wrap_of (x := other + y) (by omega) (by omega), wrap_of (x := both + z) (by omega) (by omega), wrap_of (x := i + 1) (by omega) (by omega)]
theorem LeadMajorities : reeflaw16_LeadMajorities.Pure := by
  intro a0 a1 a2 h0 h1 h2
  obtain ⟨n, hn⟩ : ∃ n, wrap64 (1 + (wrap64 (Int.tmod (IntKind.u64.wrap a0) 20))) = n := ⟨_, rfl⟩
  have hr : 1 ≤ n ∧ n ≤ 20 := by
    have hw : 0 ≤ IntKind.u64.wrap a0 := by rw [IntKind.wrap_u64]; omega
    have h3 := Int.tmod_nonneg 20 hw
    have h4 := Int.tmod_lt_of_pos (IntKind.u64.wrap a0) (show (0 : Int) < 20 by decide)
    rw [wrap_of (x := Int.tmod (IntKind.u64.wrap a0) 20) (by omega) (by omega), wrap_of (by omega) (by omega)] at hn
    omega
  have hm : lead_Most.f n = some (n / 2 + 1) := by
    unfold lead_Most.f
    rw [if_neg (by omega), Int.tdiv_eq_ediv_of_nonneg (by omega), wrap_of (x := n / 2) (by omega) (by omega), wrap_of (by omega) (by omega)]
  have := loop a1 a2 n (n / 2 + 1) hr.1 hr.2 (by omega) (by omega) n.toNat 0 0 0 0 (by omega) (by omega) (by omega) (by omega) (by omega) (by omega) (by omega) (by omega) (by omega)
  obtain ⟨k, hk⟩ := this.rounds
  refine ⟨k, ?_⟩
  unfold reeflaw16_LeadMajorities.f
  rw [hn, hm]
  exact hk
end Go.Proofs.Ytpdpjcpmpppadaa.Pure
