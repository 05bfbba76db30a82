/- The program's mixed numbers of words, texts and rows of numbers are the reference's, for every input whose parts take fewer than 2^47 bytes each; and chapter 1's examples hold. -/
import Derived.Test.YthfeigheeloeaaaP2
import Derived.Test.YthfeigheeloeaaaPure0
namespace Go.Proofs.Ythfeigheeloeaaa.Pure
open Go.RowKit Go.Proofs.Ythfeigheeloeaaa.P Go.Proofs.YthfeigheeloeaaaW.PrintWords Go.Proofs.YthfeigheeloeaaaW.PrintLast

theorem HashMixes : reeflaw01_HashMixes.Pure := by
  intro l0 a1 l2 h1 h2 h3 h4 h5 h6 h7
  have hs : a1.size ≤ 9223372036854775807 := by omega
  obtain ⟨k1, w⟩ := words_ev l0 (by unfold maxLen at h1; omega)
  obtain ⟨k2, t⟩ := text_ev a1 hs
  obtain ⟨k3, d⟩ := digest_ev a1 hs
  obtain ⟨k4, j⟩ := join_ev l2 h6
  obtain ⟨r1, e1⟩ : ∃ r, hash_Words.f l0 = some r := ⟨_, words_some l0⟩
  obtain ⟨r2, e2⟩ : ∃ r, hash_Text.f a1 = some r := ⟨_, text_some a1 hs⟩
  obtain ⟨r3, e3⟩ : ∃ r, hash_Digest.f a1 = some r := ⟨_, digest_some a1 hs⟩
  obtain ⟨r4, e4⟩ : ∃ r, hash_Join.f l2 = some r := ⟨_, join_some l2⟩
  rw [e1] at w
  rw [e2] at t
  rw [e3] at d
  rw [e4] at j
  refine ⟨k1 + k2 + k3 + k4, ?_⟩
  have w := w (k1 + k2 + k3 + k4) (by omega)
  have t := t (k1 + k2 + k3 + k4) (by omega)
  have d := d (k1 + k2 + k3 + k4) (by omega)
  have j := j (k1 + k2 + k3 + k4) (by omega)
  simp only at w t d j
  unfold reeflaw01_HashMixes.f
  rw [e1, w, e2, t, e3, d, e4, j, awake_true]
  simp only [Option.bind_some, Option.getD_some, if_true]
end Go.Proofs.Ythfeigheeloeaaa.Pure
