/- Rows of frames are read as the document says: any bytes, which are left as they are. -/
import Derived.Test.YtoadflcdpcfibaaOfreeflaw03FrameAll
import Derived.Test.YtoadflcdpcfibaaPure0
import Derived.Test.YtoadflcdpcfibaaOfreefref03All
import Derived.Test.YtoadflcdpcfibaaOfreeflaw03texts
namespace Go.Proofs.Ytoadflcdpcfibaa.Pure
open Go.RowKit Go.Proofs.Ytoadflcdpcfibaa.P Go.Proofs.YtoadflcdpcfibaaW.PrintWords Go.Proofs.YtoadflcdpcfibaaW.PrintLast
set_option linter.unusedVariables false

theorem texts_self (l : List ByteArray) (hl : l.length < 9223372036854775807) : Ev (fun k => reeflaw03_texts.f k l l) true := by
  have : ∀ (d i : Nat), i + d = l.length → Ev (fun k => reeflaw03_texts.l0 k l l (l.length : Int) i) true := by
    intro d
    induction d with
    | zero =>
      intro i hi
      refine Ev.step (f := fun _ => some true) (fun k => ?_) (Ev.now _)
      simp only [reeflaw03_texts.l0]
      rw [if_neg (by omega)]
    | succ d ih =>
      intro i hi
      refine Ev.step (f := fun k => reeflaw03_texts.l0 k l l (l.length : Int) ((i + 1 : Nat) : Int)) (fun k => ?_) (ih (i + 1) (by omega))
      simp only [reeflaw03_texts.l0]
      rw [if_pos (by omega), if_pos (by omega), if_pos (by omega), if_pos (by omega), wrap_of (by omega) (by omega)]
      simp
  refine Ev.congr (f := fun k => reeflaw03_texts.l0 k l l (l.length : Int) (0 : Nat)) (fun k => ?_) (this l.length 0 (by omega))
  simp only [reeflaw03_texts.f, if_true]
  rfl
/-- What is told of a frame that was opened: it takes some bytes, and no more than there are; its body is shorter. -/
theorem openS_some (q : List Int) (hb : bytes q) : (openS q).2.2.2 = 0 → 9 ≤ (openS q).2.2.1 ∧ (openS q).2.2.1 ≤ q.length ∧ (openS q).2.1.length ≤ 1048575 := by
  have h3 := low3_range hb 2
  unfold openS
  split
  · intro h; exact absurd h (by decide)
  · split
    · intro h; exact absurd h (by decide)
    · split
      · intro h; exact absurd h (by decide)
      · split
        · intro h; exact absurd h (by decide)
        · split
          · intro _
            refine ⟨by simp only; omega, by simp only; omega, ?_⟩
            simp only [List.length_drop, List.length_take]
            omega
          · intro h; exact absurd h (by decide)
def allS (l : List Int) : Nat → List ByteArray → Nat → List ByteArray × Int × Int
  | 0, out, i => (out, i, 0)
  | d + 1, out, i => if i < l.length then (if (openS (l.drop i)).2.2.2 = 0 then allS l d (out ++ [(strOfNums [(openS (l.drop i)).1]) ++ (strOfNums (openS (l.drop i)).2.1)]) (i + (openS (l.drop i)).2.2.1.toNat) else (out, i, (openS (l.drop i)).2.2.2)) else (out, i, 0)
theorem strOfNums_size (l : List Int) : (strOfNums l).size = l.length := by simp [strOfNums, ByteArray.size]
theorem all_both (l : List Int) (hb : bytes l) (hl : l.length < 8796093022208) : ∀ (d i : Nat) (out : List ByteArray), l.length ≤ i + d → i ≤ l.length → out.length ≤ i →
    Ev (fun k => frame_All.l0 k l out (i : Int)) (allS l d out i) ∧ Ev (fun k => reefref03_All.l0 k l out (i : Int)) (allS l d out i) ∧ (allS l d out i).1.length ≤ l.length := by
  intro d
  induction d with
  | zero =>
    intro i out h hi ho
    refine ⟨Ev.step (f := fun _ => some (out, (i : Int), 0)) (fun k => ?_) (Ev.now _), Ev.step (f := fun _ => some (out, (i : Int), 0)) (fun k => ?_) (Ev.now _), by show out.length ≤ _; omega⟩
    · simp only [frame_All.l0]; rw [if_neg (by omega)]
    · simp only [reefref03_All.l0]; rw [if_neg (by omega)]
  | succ d ih =>
    intro i out h hi ho
    by_cases hlt : i < l.length
    · have hO := open_ev (l.drop i) (bytes_drop hb i) (by rw [List.length_drop]; omega)
      have hR := ropen_ev (l.drop i) (bytes_drop hb i) (by rw [List.length_drop]; omega)
      have hS := openS_some (l.drop i) (bytes_drop hb i)
      have hld : (l.drop i).length = l.length - i := List.length_drop
      obtain ⟨⟨k0, bd, n, e⟩, hq⟩ : ∃ x, openS (l.drop i) = x := ⟨_, rfl⟩
      rw [hq] at hO hR hS
      simp only at hS
      have s1 : (strOfNums [k0]).size = 1 := strOfNums_size _
      by_cases he : e = 0
      · subst he
        obtain ⟨h9, hn, hbd⟩ := hS rfl
        have s2 : (strOfNums bd).size = bd.length := strOfNums_size _
        have q1 : (strOfNums [k0]).size + (strOfNums bd).size ≤ 9223372036854775807 := by omega
        have q2 : out.length < 8796093022208 := by omega
        have hw : wrap64 ((i : Int) + n) = ((i + n.toNat : Nat) : Int) := by rw [wrap_of (by omega) (by omega)]; omega
        have eS : allS l (d + 1) out i = allS l d (out ++ [(strOfNums [k0]) ++ (strOfNums bd)]) (i + n.toNat) := by
          show (if i < l.length then (if (openS (l.drop i)).2.2.2 = 0 then allS l d (out ++ [(strOfNums [(openS (l.drop i)).1]) ++ (strOfNums (openS (l.drop i)).2.1)]) (i + (openS (l.drop i)).2.2.1.toNat) else (out, (i : Int), (openS (l.drop i)).2.2.2)) else (out, (i : Int), 0)) = _
          rw [if_pos hlt, hq, if_pos rfl]
        obtain ⟨a, b, c⟩ := ih (i + n.toNat) (out ++ [(strOfNums [k0]) ++ (strOfNums bd)]) (by omega) (by omega) (by rw [List.length_append, List.length_singleton]; omega)
        rw [eS]
        refine ⟨?_, ?_, c⟩
        · refine Ev.step (f := fun k => (openL k (l.drop i)).bind fun bt => (if bt.2.2.2 = 0 then (if (strOfNums [bt.1]).size + (strOfNums bt.2.1).size ≤ 9223372036854775807 then (if out.length < 8796093022208 then (frame_All.l0 k l (out ++ [(strOfNums [bt.1]) ++ (strOfNums bt.2.1)]) (wrap64 ((i : Int) + bt.2.2.1))) else (none)) else (none)) else (some (out, (i : Int), bt.2.2.2)))) (fun k => ?_) (Ev.bind hO ?_)
          · simp only [frame_All.l0]
            rw [if_pos (by omega), if_pos (by omega), Int.toNat_natCast]
          · simp only [if_true, hw, if_pos q1, if_pos q2]
            exact a
        · refine Ev.step (f := fun k => (reefref03_Open.f k (l.drop i)).bind fun bt => (if bt.2.2.2 = 0 then ((some (([bt.1] : List Int) : List Int)).bind fun y => (if (strOfNums y).size + (strOfNums bt.2.1).size ≤ 9223372036854775807 then (if out.length < 8796093022208 then (reefref03_All.l0 k l (out ++ [(strOfNums y) ++ (strOfNums bt.2.1)]) (wrap64 ((i : Int) + bt.2.2.1))) else (none)) else (none))) else (some (out, (i : Int), bt.2.2.2)))) (fun k => ?_) (Ev.bind hR ?_)
          · simp only [reefref03_All.l0]
            rw [if_pos (by omega), if_pos (by omega), if_pos (by omega), Int.toNat_natCast]
          · simp only [if_true, hw, Option.bind_some, if_pos q1, if_pos q2]
            exact b
      · have eS : allS l (d + 1) out i = (out, (i : Int), e) := by
          show (if i < l.length then (if (openS (l.drop i)).2.2.2 = 0 then allS l d (out ++ [(strOfNums [(openS (l.drop i)).1]) ++ (strOfNums (openS (l.drop i)).2.1)]) (i + (openS (l.drop i)).2.2.1.toNat) else (out, (i : Int), (openS (l.drop i)).2.2.2)) else (out, (i : Int), 0)) = _
          rw [if_pos hlt, hq, if_neg he]
        rw [eS]
        refine ⟨?_, ?_, by show out.length ≤ _; omega⟩
        · refine Ev.step (f := fun k => (openL k (l.drop i)).bind fun bt => (if bt.2.2.2 = 0 then (if (strOfNums [bt.1]).size + (strOfNums bt.2.1).size ≤ 9223372036854775807 then (if out.length < 8796093022208 then (frame_All.l0 k l (out ++ [(strOfNums [bt.1]) ++ (strOfNums bt.2.1)]) (wrap64 ((i : Int) + bt.2.2.1))) else (none)) else (none)) else (some (out, (i : Int), bt.2.2.2)))) (fun k => ?_) (Ev.bind hO ?_)
          · simp only [frame_All.l0]
            rw [if_pos (by omega), if_pos (by omega), Int.toNat_natCast]
          · simp only [if_neg he]
            exact Ev.now _
        · refine Ev.step (f := fun k => (reefref03_Open.f k (l.drop i)).bind fun bt => (if bt.2.2.2 = 0 then ((some (([bt.1] : List Int) : List Int)).bind fun y => (if (strOfNums y).size + (strOfNums bt.2.1).size ≤ 9223372036854775807 then (if out.length < 8796093022208 then (reefref03_All.l0 k l (out ++ [(strOfNums y) ++ (strOfNums bt.2.1)]) (wrap64 ((i : Int) + bt.2.2.1))) else (none)) else (none))) else (some (out, (i : Int), bt.2.2.2)))) (fun k => ?_) (Ev.bind hR ?_)
          · simp only [reefref03_All.l0]
            rw [if_pos (by omega), if_pos (by omega), if_pos (by omega), Int.toNat_natCast]
          · simp only [if_neg he]
            exact Ev.now _
    · have eS : allS l (d + 1) out i = (out, (i : Int), 0) := by
        show (if i < l.length then _ else (out, (i : Int), 0)) = _
        rw [if_neg hlt]
      rw [eS]
      refine ⟨Ev.step (f := fun _ => some (out, (i : Int), 0)) (fun k => ?_) (Ev.now _), Ev.step (f := fun _ => some (out, (i : Int), 0)) (fun k => ?_) (Ev.now _), by show out.length ≤ _; omega⟩
      · simp only [frame_All.l0]; rw [if_neg (by omega)]
      · simp only [reefref03_All.l0]; rw [if_neg (by omega)]
theorem FrameAllU : ∀ (l0 : List Int), l0.length ≤ maxLen → l0.length * 1 ≤ 140737488351232 → (∀ x ∈ l0, (Lit.int .u8 x).wf = true) → l0.length ≤ 1048576 → ∃ k, reeflaw03_FrameAll.f k l0 = some true := by
  intro l hm hl hw hs
  have hb := bytes_of hw
  obtain ⟨a, b, c⟩ := all_both l hb (by omega) l.length 0 [] (by omega) (by omega) (by simp)
  refine Ev.rounds (g := fun k => reeflaw03_FrameAll.f k l) ?_
  obtain ⟨R, hR⟩ : ∃ R, allS l l.length [] 0 = R := ⟨_, rfl⟩
  rw [hR] at a b c
  unfold reeflaw03_FrameAll.f
  have q : 0 + l.length < 140737488355328 := by omega
  simp only [Option.bind_some, List.nil_append, List.length_nil, if_pos q]
  refine Ev.bind (g := fun k => frame_All.f k l) a (Ev.bind (g := fun k => reefref03_All.f k l) b (Ev.bind (texts_self R.1 (by omega)) ?_))
  simp only [if_true]
  exact Ev.bind awake_ev (Ev.now _)
end Go.Proofs.Ytoadflcdpcfibaa.Pure
