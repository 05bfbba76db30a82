/- Four bytes, as a text, mix to the number of the word that they make, and the same words asked again mix to the same, and stay: for every 32-bit number and every row of words that takes fewer than 2^47 bytes; and chapter 1's examples hold. -/
import Derived.Test.YthfeigheeloeaaaP2
import Derived.Test.YthfeigheeloeaaaPure0
namespace Go.Proofs.Ythfeigheeloeaaa.Pure
open Go.RowKit Go.Proofs.Ythfeigheeloeaaa.P Go.Proofs.YthfeigheeloeaaaW.PrintWords Go.Proofs.YthfeigheeloeaaaW.PrintLast Go.Proofs.YthfeigheeloeaaaW.PrintMore
open Hash Plain Logs

theorem text_word (x : Int) : hash_Text.f (strOfNums ([x % 256, (x / 256) % 256, (x / 65536) % 256, (x / 16777216) % 256] : List Int)) = hash_Words.f [x] := by
  have hs : (strOfNums ([x % 256, (x / 256) % 256, (x / 65536) % 256, (x / 16777216) % 256] : List Int)).size = 4 := by rw [strOfNums_size]; rfl
  have hr : ∀ y ∈ ([x % 256, (x / 256) % 256, (x / 65536) % 256, (x / 16777216) % 256] : List Int), 0 ≤ y ∧ y < 256 := by
    intro y hy
    simp only [List.mem_cons, List.not_mem_nil, or_false] at hy
    omega
  have hu := upto_strOfNums _ hr
  rw [show ([x % 256, (x / 256) % 256, (x / 65536) % 256, (x / 16777216) % 256] : List Int).length = 4 from rfl] at hu
  have hl : upto (lowb32 x) 4 = [x % 256, (x / 256) % 256, (x / 65536) % 256, (x / 16777216) % 256] := by
    have e : upto (lowb32 x) 4 = [lowb32 x 0, lowb32 x 1, lowb32 x 2, lowb32 x 3] := rfl
    rw [e]
    simp [lowb32]
  unfold hash_Text.f hash_Words.f wmix32
  rw [hs, if_pos (by decide), hu, ← hl]
  simp only [List.foldl_cons, List.foldl_nil]
theorem own_l0 (x : Int) (l : List Int) (hn : l.length ≤ 9223372036854775807) (s : ByteArray) (r t : Int) (h1 : hash_Words.f l = some r) (h2 : hash_Text.f s = some t) (h3 : hash_Words.f [x] = some t) :
    ∀ (d i : Nat), i + d = l.length → Ev (fun k => reeflaw01_HashWords.l0 k x l s l r (l.length : Int) (i : Int)) true := by
  intro d
  induction d with
  | zero =>
    intro i hi
    refine Ev.step (f := fun _ => some true) (fun k => ?_) (Ev.now _)
    simp only [reeflaw01_HashWords.l0]
    rw [if_neg (by omega), h1, h2, h3, awake_true]
    simp only [Option.bind_some, if_true]
  | succ d ih =>
    intro i hi
    refine Ev.step (f := fun k => reeflaw01_HashWords.l0 k x l s l r (l.length : Int) ((i + 1 : Nat) : Int)) (fun k => ?_) (ih (i + 1) (by omega))
    simp only [reeflaw01_HashWords.l0]
    rw [if_pos (by omega), if_pos (by omega), if_pos (by omega), if_pos (by omega), wrap_succ (show i < l.length by omega) hn]
    simp only [if_true]
theorem HashWords : reeflaw01_HashWords.Pure := by
  intro x l hx hm h4 hw
  obtain ⟨r, e1⟩ : ∃ r, hash_Words.f l = some r := ⟨_, words_some l⟩
  obtain ⟨t, e3⟩ : ∃ r, hash_Words.f [x] = some r := ⟨_, words_some [x]⟩
  have e2 := (text_word x).trans e3
  have hn : l.length ≤ 9223372036854775807 := by omega
  obtain ⟨k, hk⟩ := (own_l0 x l hn _ r t e1 e2 e3 l.length 0 (by omega)).rounds
  refine ⟨k, ?_⟩
  unfold reeflaw01_HashWords.f
  rw [if_pos (by simp only [List.length_nil]; omega)]
  simp only [Option.bind_some, List.nil_append]
  rw [e1]
  simp only [Option.bind_some]
  exact hk
end Go.Proofs.Ythfeigheeloeaaa.Pure
