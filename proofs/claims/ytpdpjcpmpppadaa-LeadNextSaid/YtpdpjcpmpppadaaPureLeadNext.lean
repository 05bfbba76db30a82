/- The next ballot is the document's, later than what was promised, and one's own. -/
import Derived.Test.YtpdpjcpmpppadaaP27
import Derived.Test.YtpdpjcpmpppadaaPure0
namespace Go.Proofs.Ytpdpjcpmpppadaa.Pure
open Go.RowKit Go.Proofs.Ytpdpjcpmpppadaa.P Go.Proofs.YtpdpjcpmpppadaaW.PrintWords Go.Proofs.YtpdpjcpmpppadaaW.PrintLast Go.Proofs.YtpdpjcpmpppadaaW.PrintMore
set_option linter.unusedVariables false

theorem mx_le (a b : Int) : a ≤ mx a b ∧ b ≤ mx a b := by unfold mx; split <;> omega
theorem next_cases (a b s m : Int) : (lead_Next.f a b s m = some (0, 0, false) ∧ reefref16_Next.f a b s m = some (0, 0, false)) ∨
    (0 ≤ mx a s ∧ mx a s < 1073741824 ∧ lead_Next.f a b s m = some (mx a s + 1, m, true) ∧ reefref16_Next.f a b s m = some (mx a s + 1, m, true)) := by
  unfold lead_Next.f reefref16_Next.f
  by_cases h1 : mx a s ≥ 1073741824
  · left
    refine ⟨by rw [if_pos h1], ?_⟩
    rw [if_pos h1]
    repeat' split
    all_goals rfl
  · by_cases h2 : mx a s < 0
    · left
      refine ⟨by rw [if_neg h1, if_pos h2], ?_⟩
      rw [if_pos h2]
      repeat' split
      all_goals rfl
    · by_cases h3 : m < 0
      · left
        exact ⟨by rw [if_neg h1, if_neg h2, if_pos h3], by rw [if_pos h3]⟩
      · by_cases h4 : m ≥ 5
        · left
          exact ⟨by rw [if_neg h1, if_neg h2, if_neg h3, if_pos h4], by rw [if_neg h3, if_pos h4]⟩
        · right
          have w : wrap64 (mx a s + 1) = mx a s + 1 := wrap_of (by omega) (by omega)
          exact ⟨by omega, by omega, by rw [if_neg h1, if_neg h2, if_neg h3, if_neg h4, w], by rw [if_neg h3, if_neg h4, if_neg h2, if_neg h1, w]⟩
theorem most_eq (n : Int) : ∃ r, lead_Most.f n = some r ∧ reefref16_Most.f n = some r := by
  unfold lead_Most.f reefref16_Most.f
  split
  · exact ⟨_, rfl, rfl⟩
  · exact ⟨_, rfl, rfl⟩
theorem next_ev (a b s m n : Int) : Ev (fun k => reeflaw16_LeadNext.f k a b s m n) true := by
  obtain ⟨r, hr1, hr2⟩ := most_eq n
  have hm := mx_le a s
  unfold reeflaw16_LeadNext.f
  rcases next_cases a b s m with ⟨h1, h2⟩ | ⟨h0, hb, h1, h2⟩
  · simp only [h1, h2, hr1, hr2, Option.bind_some, beq_self_eq_true, Bool.not_true, Bool.or_self, Bool.false_eq_true, if_false, bne_self_eq_false]
    refine Ev.step (f := fun k => (reeflaw16_awake.f k).bind fun t => some t) (fun k => ?_) (Ev.bind awake_ev (Ev.now _))
    simp [reeflaw16_LeadNext.j0]
  · simp only [h1, h2, hr1, hr2, Option.bind_some, beq_self_eq_true, Bool.not_true, Bool.or_self, Bool.false_eq_true, if_false, bne_self_eq_false]
    refine Ev.step (f := fun k => (reeflaw16_awake.f k).bind fun t => some t) (fun k => ?_) (Ev.bind awake_ev (Ev.now _))
    have hl : reefref15_Later.f (mx a s + 1) m a b = some true := by unfold reefref15_Later.f; rw [if_pos (by omega)]
    simp only [reeflaw16_LeadNext.j0, Bool.false_eq_true, if_false, if_true, hl, Option.bind_some]
    rw [if_pos (show mx a s + 1 > s by omega)]
end Go.Proofs.Ytpdpjcpmpppadaa.Pure
