/- What is cut up, in whole numbers and texts. -/
import Derived.Test.YteajaofcgcgodaaDoorPure0
import Derived.Test.YteajaofcgcgodaaDoorGather
import Derived.Test.YteajaofcgcgodaaDoorP15
namespace Go.Proofs.YteajaofcgcgodaaDoor.Pure
open Go.RowKit Go.Proofs.YteajaofcgcgodaaDoor.P Go.Proofs.YteajaofcgcgodaaDoorW.PrintWords Go.Proofs.YteajaofcgcgodaaDoorW.PrintLast Go.Proofs.YteajaofcgcgodaaDoorW.PrintMore
set_option linter.unusedVariables false
/-- A piece's bytes. -/
def cutS (s : ByteArray) (f : S51) : ByteArray :=
  if 0 ≤ f.f3 ∧ 0 ≤ f.f2 ∧ f.f2 ≤ (s.size : Int) ∧ f.f3 ≤ (s.size : Int) - f.f2 then s.extract f.f3.toNat (f.f3 + f.f2).toNat else ⟨#[]⟩
def scatU (s : ByteArray) (l : List S51) : Nat → List ByteArray
  | 0 => []
  | k + 1 => scatU s l k ++ [cutS s (rd_T51 l (k : Int))]
theorem scatU_len (s : ByteArray) (l : List S51) : ∀ k, (scatU s l k).length = k
  | 0 => rfl
  | k + 1 => by rw [scatU, List.length_append, scatU_len s l k]; rfl
theorem scat_ev (s : ByteArray) (l : List S51) (hs : s.size ≤ 140737488351232) (hl : l.length * 32 ≤ 140737488351232) : Ev (fun k => stripe_Scatter.f k s l) (scatU s l l.length) := by
  have key : ∀ d i, i + d = l.length → Ev (fun k => stripe_Scatter.l0 k s (scatU s l i) l (l.length : Int) (i : Int)) (scatU s l l.length) := by
    intro d
    induction d with
    | zero =>
      intro i hi
      obtain rfl : i = l.length := by omega
      refine Ev.step (f := fun _ => some (scatU s l l.length)) (fun k => ?_) (Ev.now _)
      simp only [stripe_Scatter.l0]
      rw [if_neg (by omega)]
    | succ d ih =>
      intro i hi
      have hlen := scatU_len s l i
      refine Ev.step (f := fun k => stripe_Scatter.l0 k s (scatU s l (i + 1)) l (l.length : Int) ((i + 1 : Nat) : Int)) (fun k => ?_) (ih (i + 1) (by omega))
      have w1 : wrap64 ((i : Int) + 1) = ((i + 1 : Nat) : Int) := by rw [wrap_of (by omega) (by omega)]; omega
      obtain ⟨f, hf⟩ : ∃ f, rd_T51 l (i : Int) = f := ⟨_, rfl⟩
      simp only [stripe_Scatter.l0, w1, hf, scatU]
      rw [if_pos (by omega), if_pos (by omega), if_pos (by omega)]
      unfold cutS
      by_cases h1 : 0 ≤ f.f3
      · by_cases h2 : 0 ≤ f.f2
        · by_cases h3 : f.f2 ≤ (s.size : Int)
          · by_cases h4 : f.f3 ≤ (s.size : Int) - f.f2
            · have w2 : wrap64 (f.f3 + f.f2) = f.f3 + f.f2 := wrap_of (by omega) (by omega)
              have w3 : wrap64 ((s.size : Int) - f.f2) = (s.size : Int) - f.f2 := wrap_of (by omega) (by omega)
              simp only [w2, w3]
              rw [if_pos h1, if_pos h2, if_pos h3, if_pos h4, if_pos h1, if_pos (by omega), if_pos (by omega), if_pos (by omega), if_pos ⟨h1, h2, h3, h4⟩]
            · have w3 : wrap64 ((s.size : Int) - f.f2) = (s.size : Int) - f.f2 := wrap_of (by omega) (by omega)
              simp only [w3]
              rw [if_pos h1, if_pos h2, if_pos h3, if_neg h4, if_pos (by omega), if_neg (fun q => h4 q.2.2.2)]
          · rw [if_pos h1, if_pos h2, if_neg h3, if_pos (by omega), if_neg (fun q => h3 q.2.2.1)]
        · rw [if_pos h1, if_neg h2, if_pos (by omega), if_neg (fun q => h2 q.2.1)]
      · rw [if_neg h1, if_pos (by omega), if_neg (fun q => h1 q.1)]
  exact key l.length 0 (by omega)
end Go.Proofs.YteajaofcgcgodaaDoor.Pure
