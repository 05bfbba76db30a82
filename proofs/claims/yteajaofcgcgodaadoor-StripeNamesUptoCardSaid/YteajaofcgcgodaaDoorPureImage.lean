/- Names of images: what the program and the document compute. -/
import Derived.Test.YteajaofcgcgodaaDoorP5
import Derived.Test.YteajaofcgcgodaaDoorP24
import Derived.Test.YteajaofcgcgodaaDoorPureNum
namespace Go.Proofs.YteajaofcgcgodaaDoor.Pure
open Go.RowKit Go.Proofs.YteajaofcgcgodaaDoor.P Go.Proofs.YteajaofcgcgodaaDoorW.PrintWords Go.Proofs.YteajaofcgcgodaaDoorW.PrintLast Go.Proofs.YteajaofcgcgodaaDoorW.PrintMore
set_option linter.unusedVariables false
set_option linter.unusedSimpArgs false
/-- A byte of an image's name. -/
def chI (d : Int) : Bool := decide ((97 ≤ d ∧ d ≤ 122) ∨ (48 ≤ d ∧ d ≤ 57) ∨ d = 95)
def szI (s : ByteArray) : Bool := decide (1 ≤ s.size ∧ s.size ≤ 16)
/-- Is a text an image's name? -/
def imgV (s : ByteArray) : Bool := s.data.toList.all (fun b => chI (b.toNat : Int)) && szI s
theorem wrap_s (i : Nat) (h : i < 9223372036854775807) : wrap64 ((i : Int) + 1) = ((i + 1 : Nat) : Int) := by unfold wrap64; omega
theorem bt_at (s : ByteArray) (i : Nat) (h : i < s.data.toList.length) : bt s (i : Int) = (s.data.toList[i].toNat : Int) := by
  rw [← rd_bytesOf]
  unfold rd bytesOf
  rw [Int.toNat_natCast, List.getD_eq_getElem?_getD, List.getElem?_map, List.getElem?_eq_getElem h]
  rfl
theorem c_step (d : Int) (X : Option Bool) : (if d < 97 then (if d < 48 then (if d = 95 then X else (some false)) else (if d > 57 then (if d = 95 then X else (some false)) else X)) else (if d > 122 then (if d < 48 then (if d = 95 then X else (some false)) else (if d > 57 then (if d = 95 then X else (some false)) else X)) else X)) = if chI d = true then X else some false := by
  unfold chI
  simp only [decide_eq_true_eq]
  repeat' split
  all_goals first | rfl | (exfalso; omega)
theorem r_step (d : Int) (X : Option Bool) : (if d ≥ 97 then (if d ≤ 122 then X else (if d ≥ 48 then (if d ≤ 57 then X else (if (d = 95) then X else (some false))) else (if (d = 95) then X else (some false)))) else (if d ≥ 48 then (if d ≤ 57 then X else (if (d = 95) then X else (some false))) else (if (d = 95) then X else (some false)))) = if chI d = true then X else some false := by
  unfold chI
  simp only [decide_eq_true_eq]
  repeat' split
  all_goals first | rfl | (exfalso; omega)
theorem sz_end (s : ByteArray) : (if (s.size : Int) ≥ 1 then (some (decide ((s.size : Int) ≤ 16))) else (some false)) = some (szI s) := by
  unfold szI
  split
  · congr 1
    rw [decide_eq_decide]; omega
  · congr 1
    symm
    rw [decide_eq_false_iff_not]; omega
theorem image_ev (s : ByteArray) (hs : s.size < 9223372036854775807) : Ev (fun k => stripe_image.f k s) (imgV s) := by
  have hl : s.data.toList.length = s.size := data_length s
  have main : ∀ n i : Nat, i + n = s.size → Ev (fun k => stripe_image.l0 k s (s.size : Int) (i : Int)) ((s.data.toList.drop i).all (fun b => chI (b.toNat : Int)) && szI s) := by
    intro n
    induction n with
    | zero =>
      intro i hi
      rw [List.drop_of_length_le (by omega), List.all_nil, Bool.true_and]
      refine Ev.step (f := fun _ => some (szI s)) (fun k => ?_) (Ev.now _)
      simp only [stripe_image.l0]
      rw [if_neg (by omega), sz_end]
    | succ n ih =>
      intro i hi
      have hil : i < s.data.toList.length := by omega
      rw [List.drop_eq_getElem_cons hil, List.all_cons]
      refine Ev.step (f := fun k => if chI (s.data.toList[i].toNat : Int) = true then stripe_image.l0 k s (s.size : Int) ((i + 1 : Nat) : Int) else some false) (fun k => ?_) ?_
      · simp only [stripe_image.l0]
        rw [if_pos (by omega), if_pos (by omega), if_pos (by omega), bt_at s i hil, wrap_s i (by omega), c_step]
      · cases hc : chI (s.data.toList[i].toNat : Int) with
        | true => rw [Bool.true_and]; exact Ev.congr (fun k => by rw [if_pos rfl]) (ih (i + 1) (by omega))
        | false => rw [Bool.false_and, Bool.false_and]; exact Ev.congr (f := fun _ => some false) (fun k => by rw [if_neg Bool.false_ne_true]) (Ev.now _)
  have := main s.size 0 (by omega)
  rw [List.drop_zero] at this
  exact this
theorem rimage_ev (s : ByteArray) (hs : s.size < 9223372036854775807) : Ev (fun k => reefref28_image.f k s) (imgV s) := by
  have hl : s.data.toList.length = s.size := data_length s
  have main : ∀ n i : Nat, i + n = s.size → Ev (fun k => reefref28_image.l0 k s (i : Int)) ((s.data.toList.drop i).all (fun b => chI (b.toNat : Int)) && szI s) := by
    intro n
    induction n with
    | zero =>
      intro i hi
      rw [List.drop_of_length_le (by omega), List.all_nil, Bool.true_and]
      refine Ev.step (f := fun _ => some (szI s)) (fun k => ?_) (Ev.now _)
      simp only [reefref28_image.l0]
      rw [if_neg (by omega), sz_end]
    | succ n ih =>
      intro i hi
      have hil : i < s.data.toList.length := by omega
      rw [List.drop_eq_getElem_cons hil, List.all_cons]
      refine Ev.step (f := fun k => if chI (s.data.toList[i].toNat : Int) = true then reefref28_image.l0 k s ((i + 1 : Nat) : Int) else some false) (fun k => ?_) ?_
      · simp only [reefref28_image.l0]
        rw [if_pos (by omega), if_pos (by omega), bt_at s i hil, wrap_s i (by omega), r_step]
      · cases hc : chI (s.data.toList[i].toNat : Int) with
        | true => rw [Bool.true_and]; exact Ev.congr (fun k => by rw [if_pos rfl]) (ih (i + 1) (by omega))
        | false => rw [Bool.false_and, Bool.false_and]; exact Ev.congr (f := fun _ => some false) (fun k => by rw [if_neg Bool.false_ne_true]) (Ev.now _)
  have := main s.size 0 (by omega)
  rw [List.drop_zero] at this
  exact this
/-! ## names of objects -/
def itoaS (i : Int) : ByteArray := ⟨(Lib.itoa i).toArray⟩
def nameV (s : ByteArray) (i : Int) : ByteArray := if imgV s = true ∧ 0 ≤ i ∧ i < 4096 then s ++ (⟨#[46]⟩ : ByteArray) ++ itoaS i else ⟨#[]⟩
/-- What the code's Parse answers. -/
def parseV (s : ByteArray) : ByteArray × Int × Bool :=
  match Lib.atoiAll (Lib.cut s.data.toList [46]).2.1 with
  | .ok v => if (Lib.cut s.data.toList [46]).2.2 = true ∧ nameV ⟨(Lib.cut s.data.toList [46]).1.toArray⟩ v = s then (⟨(Lib.cut s.data.toList [46]).1.toArray⟩, v, true) else (⟨#[]⟩, 0, false)
  | _ => (⟨#[]⟩, 0, false)
end Go.Proofs.YteajaofcgcgodaaDoor.Pure
