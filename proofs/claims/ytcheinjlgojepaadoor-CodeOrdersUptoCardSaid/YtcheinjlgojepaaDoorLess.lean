-- left of the seat's texts by prune.py, a program of this session
import Derived.Test.YtcheinjlgojepaaDoorP0
namespace Go.Proofs.YtcheinjlgojepaaDoor.P
theorem bl_nil (l : List UInt8) : Op.bytesLess l [] = false := by cases l <;> rfl
theorem bl_nil_cons (a : UInt8) (l : List UInt8) : Op.bytesLess [] (a :: l) = true := rfl
theorem bl_cons (a b : UInt8) (x y : List UInt8) : Op.bytesLess (a :: x) (b :: y) = (decide (a < b) || (a == b && Op.bytesLess x y)) := rfl
theorem bl_irr : ∀ l : List UInt8, Op.bytesLess l l = false
  | [] => rfl
  | a :: l => by rw [bl_cons, bl_irr l]; simp [UInt8.lt_irrefl]
theorem bl_total : ∀ a b : List UInt8, Op.bytesLess a b = false → Op.bytesLess b a = false → a = b
  | [], [], _, _ => rfl
  | [], b :: y, h, _ => by rw [bl_nil_cons] at h; cases h
  | a :: x, [], _, h => by rw [bl_nil_cons] at h; cases h
  | a :: x, b :: y, h, g => by
    rw [bl_cons] at h g
    simp only [Bool.or_eq_false_iff, decide_eq_false_iff_not, Bool.and_eq_false_iff, beq_eq_false_iff_ne] at h g
    have e : a = b := by
      have h1 := h.1; have g1 := g.1
      rw [UInt8.lt_iff_toNat_lt] at h1 g1
      exact UInt8.toNat_inj.1 (by omega)
    subst e
    rw [bl_total x y (h.2.resolve_left (fun n => n rfl)) (g.2.resolve_left (fun n => n rfl))]
theorem bl_eq_of (a b : List UInt8) (h : Op.bytesLess a b = false) (g : Op.bytesLess b a = false) : (a == b) = true := by rw [bl_total a b h g]; simp
theorem bl_ne_of (a b : List UInt8) (g : Op.bytesLess b a = true) : (a == b) = false := by
  rw [beq_eq_false_iff_ne]
  rintro rfl
  rw [bl_irr] at g; cases g
end Go.Proofs.YtcheinjlgojepaaDoor.P
