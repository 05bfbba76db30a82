/- stripe.pieces: the iterator over the pieces of a range. -/
import Derived.RangeFuncNested
import Derived.RangeFuncBound
import Derived.RangeFuncCalls
import Derived.RangeFuncLeaves
import Derived.RangeFuncBox
import Derived.Shelf.Abstract
import Derived.Shelf.RegionOpen
import Derived.WalkKit
import Derived.OwnWalkIn
import Derived.TacticsInMore
import Derived.LoopNIn
import Derived.LoopIn
import Derived.Maps.AppendAt
import Derived.Lib.Hide
import Derived.Test.YteajaofcgcgodaaDoorRangeR
import Derived.Test.YteajaofcgcgodaaDoorP3
namespace Go.Proofs.YteajaofcgcgodaaDoor.P
open Go.RowKit Go.Shelf Go.Proofs Go.Proofs.YteajaofcgcgodaaDoorW.PrintWords Go.Proofs.YteajaofcgcgodaaDoorW.PrintLast Go.Proofs.YteajaofcgcgodaaDoorW.PrintMore
open Go.Proofs.YteajaofcgcgodaaDoor.R
attribute [local go_sem] Oper.semAt_some
set_option linter.unusedVariables false
set_option linter.unusedSimpArgs false

def cells51 (f : S51) : Array Value := #[.int .i64 f.f0, .int .i64 f.f1, .int .i64 f.f2, .int .i64 f.f3]
/-- The pieces that d bytes more, from the i-th on, give, the piece f being under way. -/
def pcs (fd : Nat → Int × Int) : Nat → Nat → S51 → List S51
  | 0, _, f => if 0 < f.f2 then [f] else []
  | d + 1, i, f => if 0 < f.f2 ∧ (fd i).1 = f.f0 ∧ (fd i).2 = wrap64 (f.f1 + f.f2) then pcs fd d (i + 1) ⟨f.f0, f.f1, wrap64 (f.f2 + 1), f.f3⟩
    else (if 0 < f.f2 then [f] else []) ++ pcs fd d (i + 1) ⟨(fd i).1, (fd i).2, 1, (i : Int)⟩

theorem AbR.below {β : Type} {B k : Nat} {J : β → World → Prop} (h : AbR B k J) {s : β} {W W' : World} (hJ : J s W) (hb : Below W.heap.size W W') : J s W' :=
  h s W W' none hJ ⟨hb.os, hb.tape, hb.output, hb.size, fun k hk _ => hb.block k hk⟩ (fun r e => by cases e)
theorem AbR.laid {β : Type} {B k : Nat} {J : β → World → Prop} (h : AbR B k J) {s : β} {W : World} (o : Obj) (hJ : J s W) : J s (W.alloc o) :=
  h s W _ none hJ (World.grownBy_alloc W o none) (fun r e => by cases e)
theorem AbR.put {β : Type} {B k : Nat} {J : β → World → Prop} (h : AbR B k J) {s : β} {W : World} {b : Nat} (j : Nat) (u : Value) (h1 : B ≤ b) (h2 : b < B + k) (hJ : J s W) : J s (W.setCell ⟨b, j, none⟩ u) :=
  h s W _ (some b) hJ ⟨rfl, rfl, rfl, by simp [World.setCell], fun k _ hk => Below.heap_setCell _ _ _ k (fun e => hk (by rw [e]))⟩ (fun r e => by cases e; exact ⟨h1, h2⟩)
theorem grown_of_below {W W' : World} (h : Below W.heap.size W W') : W.grownBy W' none := ⟨h.os, h.tape, h.output, h.size, fun k hk _ => h.block k hk⟩

set_option maxHeartbeats 1000000 in
theorem pieces_in (F : Fence) (n : Nat) (h34 : F.fn 34) (hro : F.round = none) (u c o off m : Int) (w : World) :
    CallsIn F n Tryd.prog 34 #[.agg #[.int .i64 u, .int .i64 c, .int .i64 o], .int .i64 off, .int .i64 m] w fun e w' => e = .returned (.func (.func 42) #[] #[.pointer (some ⟨w.heap.size + 2, 0, none⟩), .pointer (some ⟨w.heap.size, 0, none⟩), .pointer (some ⟨w.heap.size + 1, 0, none⟩)]) ∧ w' = ((w.alloc (.cells #[.int .i64 u, .int .i64 c, .int .i64 o] 23)).alloc (.cells #[.int .i64 off] 2)).alloc (.cells #[.int .i64 m] 2) := by
  refine callsIn_of_wp Tryd.func34 rfl h34 ?_ hro
  have hu23 := Tryd.underlying23
  simp only [Tryd.ntmps34, List.size_toArray, List.length_cons, List.length_nil, Nat.reduceAdd, Nat.reduceSub, Array.replicate_succ, Array.replicate_zero, List.push_toArray, List.append_toArray, List.nil_append, List.cons_append]
  gi_wp2
  go_ret
  exact ⟨rfl, rfl⟩

set_option maxRecDepth 100000 in
set_option maxHeartbeats 4000000 in
theorem pieces_seq (n : Nat) (hn : 1 ≤ n) (B1 B2 B3 : Nat) (S₀ : Nat → Prop) (u c o off : Int) (m : Nat) (hm : m < 9223372036854775807) (fd : Nat → Int × Int) (w : World) (hS : ∀ j, S₀ j → j < w.heap.size) (s1 : S₀ B1) (s2 : S₀ B2) (s3 : S₀ B3)
    (b1 : w.heap[B1]? = some (.cells #[.int .i64 (m : Int)] 2 (0, 0))) (b2 : w.heap[B2]? = some (.cells #[.int .i64 u, .int .i64 c, .int .i64 o] 23 (0, 0))) (b3 : w.heap[B3]? = some (.cells #[.int .i64 off] 2 (0, 0)))
    (hfd : ∀ i : Nat, i < m → stripe_find.f u c o (wrap64 (off + i)) = some (fd i)) :
    SeqR Fence.wide n Tryd.prog 42 #[.pointer (some ⟨B1, 0, none⟩), .pointer (some ⟨B2, 0, none⟩), .pointer (some ⟨B3, 0, none⟩)] (fun x : S51 => #[.agg (cells51 x)]) S₀ (fun t => t = 62) 1 (fun xs => xs = pcs fd m 0 z51) (fun pre => ∃ r, pre ≠ [] ∧ pre ++ r = pcs fd m 0 z51) (pcs fd m 0 z51).length w := by
  obtain ⟨T, hT⟩ : ∃ T, pcs fd m 0 z51 = T := ⟨_, rfl⟩
  rw [hT]
  intro lp J Jx W hW hJ hJx hY h0
  have hz := hW.size
  have l1 := blk_lt b1; have l2 := blk_lt b2; have l3 := blk_lt b3
  have b1' := (hW.block B1 l1).trans b1
  have b2' := (hW.block B2 l2).trans b2
  have b3' := (hW.block B3 l3).trans b3
  have hS' : ∀ j, S₀ j → j < W.heap.size := fun j hj => Nat.lt_of_lt_of_le (hS j hj) hz
  clear hS b1 b2 b3 hW hz l1 l2 l3
  refine callsIn_of_wp Tryd.func42 rfl trivial ?_ rfl
  have h36 : Fence.wide.fn 36 := trivial
  have hu23 := Tryd.underlying23
  have hu51 := Tryd.underlying51
  have hu62 := Tryd.underlying62
  simp only [Tryd.ntmps42, List.size_toArray, List.length_cons, List.length_nil, Nat.reduceAdd, Nat.reduceSub, Array.replicate_succ, Array.replicate_zero, List.push_toArray, List.append_toArray, List.nil_append, List.cons_append]
  have c1 : W.cell? ⟨B1, 0, none⟩ = some (.int .i64 (m : Int)) := (blk_cell b1' 0).trans rfl
  have lb1 : B1 < W.heap.size := hS' _ s1
  have f1 : (W.alloc (Obj.cells #[Value.int IntKind.i64 0, Value.int IntKind.i64 0, Value.int IntKind.i64 0, Value.int IntKind.i64 0] 51)).cell? ⟨B1, 0, none⟩ = some (.int .i64 (m : Int)) := by rw [World.cell?_alloc_lt _ _ _ lb1]; exact c1
  gi_wp2
  clear f1 c1 lb1
  gi_loopw [9] (fun v9 wr => ∃ (i : Nat) (f : S51) (pre : List S51), v9 = .int .i64 (i : Int) ∧ i ≤ m ∧ pre ++ pcs fd (m - i) i f = T ∧ J pre wr ∧ wr.heap[W.heap.size]? = some (.cells (cells51 f) 51 (0, 0)) ∧ wr.heap[B2]? = some (.cells #[.int .i64 u, .int .i64 c, .int .i64 o] 23 (0, 0)) ∧ wr.heap[B3]? = some (.cells #[.int .i64 off] 2 (0, 0)))
    (fun i _ => m - (intOf i).toNat)
  case atStart =>
    refine ⟨0, z51, [], rfl, Nat.zero_le _, hT, AbR.laid hJ _ h0, ?_, ?_, ?_⟩
    · exact World.alloc_heap_new _ _
    · exact blk_alloc b2' _
    · exact blk_alloc b3' _
  case round =>
    obtain ⟨i, f, pre, rfl, him, hpre, hJs, hf, k2, k3⟩ := hrel
    have hz : W.heap.size < wr.heap.size := blk_lt hf
    have c2a : wr.cell? ⟨B2, 0, none⟩ = some (.int .i64 u) := (blk_cell k2 0).trans rfl
    have c2b : wr.cell? ⟨B2, 1, none⟩ = some (.int .i64 c) := (blk_cell k2 1).trans rfl
    have c2c : wr.cell? ⟨B2, 2, none⟩ = some (.int .i64 o) := (blk_cell k2 2).trans rfl
    have c3a : wr.cell? ⟨B3, 0, none⟩ = some (.int .i64 off) := (blk_cell k3 0).trans rfl
    by_cases hlt : i < m
    · have hltb : decide ((i : Int) < (m : Int)) = true := decide_eq_true (by omega)
      have hfi := hfd i hlt
      obtain ⟨⟨p1, p2⟩, hp⟩ : ∃ p, p = fd i := ⟨_, rfl⟩
      rw [← hp] at hfi
      obtain ⟨g0, g1, g2, g3⟩ := f
      have cf0 : ∀ {w1 : World}, Below wr.heap.size wr w1 → ∀ o', (w1.alloc o').cell? ⟨W.heap.size, 0, none⟩ = some (.int .i64 g0) := fun hb o' => (blk_cell (blk_alloc ((hb.block _ hz).trans hf) _) 0).trans rfl
      have cf1 : ∀ {w1 : World}, Below wr.heap.size wr w1 → ∀ o', (w1.alloc o').cell? ⟨W.heap.size, 1, none⟩ = some (.int .i64 g1) := fun hb o' => (blk_cell (blk_alloc ((hb.block _ hz).trans hf) _) 1).trans rfl
      have cf2 : ∀ {w1 : World}, Below wr.heap.size wr w1 → ∀ o', (w1.alloc o').cell? ⟨W.heap.size, 2, none⟩ = some (.int .i64 g2) := fun hb o' => (blk_cell (blk_alloc ((hb.block _ hz).trans hf) _) 2).trans rfl
      have cf3 : ∀ {w1 : World}, Below wr.heap.size wr w1 → ∀ o', (w1.alloc o').cell? ⟨W.heap.size, 3, none⟩ = some (.int .i64 g3) := fun hb o' => (blk_cell (blk_alloc ((hb.block _ hz).trans hf) _) 3).trans rfl
      have cz : ∀ {w1 : World}, Below wr.heap.size wr w1 → ∀ o' j, (w1.alloc o').frozen? ⟨W.heap.size, j, none⟩ = false := fun hb o' j => blk_frozen (blk_alloc ((hb.block _ hz).trans hf) _) j
      have fin : ∀ (X : World) (pre' : List S51) (p1 p2 : Int), J pre' X → ∀ a0 a1 a2 a3, X.heap[W.heap.size]? = some (.cells #[a0, a1, a2, a3] 51 (0, 0)) → X.heap[B2]? = some (.cells #[.int .i64 u, .int .i64 c, .int .i64 o] 23 (0, 0)) → X.heap[B3]? = some (.cells #[.int .i64 off] 2 (0, 0)) →
          J pre' ((((X.setCell ⟨W.heap.size, 0, none⟩ (Value.int IntKind.i64 p1)).setCell ⟨W.heap.size, 1, none⟩ (Value.int IntKind.i64 p2)).setCell ⟨W.heap.size, 2, none⟩ (Value.int IntKind.i64 1)).setCell ⟨W.heap.size, 3, none⟩ (Value.int IntKind.i64 (i : Int))) ∧
          ((((X.setCell ⟨W.heap.size, 0, none⟩ (Value.int IntKind.i64 p1)).setCell ⟨W.heap.size, 1, none⟩ (Value.int IntKind.i64 p2)).setCell ⟨W.heap.size, 2, none⟩ (Value.int IntKind.i64 1)).setCell ⟨W.heap.size, 3, none⟩ (Value.int IntKind.i64 (i : Int))).heap[W.heap.size]? = some (.cells (cells51 ⟨p1, p2, 1, (i : Int)⟩) 51 (0, 0)) ∧
          ((((X.setCell ⟨W.heap.size, 0, none⟩ (Value.int IntKind.i64 p1)).setCell ⟨W.heap.size, 1, none⟩ (Value.int IntKind.i64 p2)).setCell ⟨W.heap.size, 2, none⟩ (Value.int IntKind.i64 1)).setCell ⟨W.heap.size, 3, none⟩ (Value.int IntKind.i64 (i : Int))).heap[B2]? = some (.cells #[.int .i64 u, .int .i64 c, .int .i64 o] 23 (0, 0)) ∧
          ((((X.setCell ⟨W.heap.size, 0, none⟩ (Value.int IntKind.i64 p1)).setCell ⟨W.heap.size, 1, none⟩ (Value.int IntKind.i64 p2)).setCell ⟨W.heap.size, 2, none⟩ (Value.int IntKind.i64 1)).setCell ⟨W.heap.size, 3, none⟩ (Value.int IntKind.i64 (i : Int))).heap[B3]? = some (.cells #[.int .i64 off] 2 (0, 0)) := fun X pre' p1 p2 hx a0 a1 a2 a3 x1 x2 x3 => by
        have e2 : B2 ≠ W.heap.size := Nat.ne_of_lt (hS' _ s2)
        have e3 : B3 ≠ W.heap.size := Nat.ne_of_lt (hS' _ s3)
        exact ⟨AbR.put hJ _ _ (Nat.le_refl _) (by omega) (AbR.put hJ _ _ (Nat.le_refl _) (by omega) (AbR.put hJ _ _ (Nat.le_refl _) (by omega) (AbR.put hJ _ _ (Nat.le_refl _) (by omega) hx))),
          blk_set (blk_set (blk_set (blk_set x1 0 _) 1 _) 2 _) 3 _, blk_far (blk_far (blk_far (blk_far x2 e2 _) e2 _) e2 _) e2 _, blk_far (blk_far (blk_far (blk_far x3 e3 _) e3 _) e3 _) e3 _⟩
      by_cases hg : 0 < g2
      · have hgb : decide (0 < g2) = true := decide_eq_true hg
        by_cases he : p1 = g0 ∧ p2 = wrap64 (g1 + g2)
        · obtain ⟨rfl, rfl⟩ := he
          gi_wp2_with (gi_at_call 36; refine (callsIn_wide.2 (stripe_find.calls u c o _ p1 (wrap64 (g1 + g2)) _ hfi)).mono ?_; rintro e w1 ⟨rfl, hb⟩; have x0 := cf0 hb (Obj.cells #[Value.int IntKind.i64 p1, Value.int IntKind.i64 (wrap64 (g1 + g2))] 62); have x1 := cf1 hb (Obj.cells #[Value.int IntKind.i64 p1, Value.int IntKind.i64 (wrap64 (g1 + g2))] 62); have x2 := cf2 hb (Obj.cells #[Value.int IntKind.i64 p1, Value.int IntKind.i64 (wrap64 (g1 + g2))] 62); have x3 := cf3 hb (Obj.cells #[Value.int IntKind.i64 p1, Value.int IntKind.i64 (wrap64 (g1 + g2))] 62); have x4 := cz hb (Obj.cells #[Value.int IntKind.i64 p1, Value.int IntKind.i64 (wrap64 (g1 + g2))] 62) 2)
          go_roundw
          case rel =>
            refine ⟨i + 1, ⟨p1, g1, wrap64 (g2 + 1), g3⟩, pre, by simp, by omega, ?_, ?_, ?_, ?_, ?_⟩
            · rw [← hpre, show m - i = (m - (i + 1)) + 1 by omega, pcs, ← hp, if_pos ⟨hg, rfl, rfl⟩]
            · exact AbR.put hJ _ _ (Nat.le_refl _) (by omega) (AbR.laid hJ _ (AbR.below hJ hJs hb))
            · exact blk_set (blk_alloc ((hb.block _ hz).trans hf) _) 2 _
            · exact blk_far (blk_alloc ((hb.block _ (blk_lt k2)).trans k2) _) (by have := hS' _ s2; simp; omega) _
            · exact blk_far (blk_alloc ((hb.block _ (blk_lt k3)).trans k3) _) (by have := hS' _ s3; simp; omega) _
          case measure => simp [intOf]; omega
        · by_cases h1 : p1 = g0
          · subst h1
            have h2 : ¬ p2 = wrap64 (g1 + g2) := fun h => he ⟨rfl, h⟩
            have h2b : (p2 == wrap64 (g1 + g2)) = false := beq_eq_false_iff_ne.2 h2
            have h2d : decide (p2 = wrap64 (g1 + g2)) = false := decide_eq_false h2
            have hpre' : (pre ++ [⟨p1, g1, g2, g3⟩]) ++ pcs fd (m - (i + 1)) (i + 1) ⟨p1, p2, 1, (i : Int)⟩ = T := by
              rw [← hpre, show m - i = (m - (i + 1)) + 1 by omega, pcs, ← hp, if_neg (fun h => he h.2), if_pos hg, List.append_assoc]
            have hlen : pre.length < T.length := by rw [← hpre']; simp only [List.length_append, List.length_cons, List.length_nil]; omega
            gi_wp2_with (gi_at_call 36; refine (callsIn_wide.2 (stripe_find.calls u c o _ p1 p2 _ hfi)).mono ?_; rintro e w1 ⟨rfl, hb⟩; have x0 := cf0 hb (Obj.cells #[Value.int IntKind.i64 p1, Value.int IntKind.i64 p2] 62); have x1 := cf1 hb (Obj.cells #[Value.int IntKind.i64 p1, Value.int IntKind.i64 p2] 62); have x2 := cf2 hb (Obj.cells #[Value.int IntKind.i64 p1, Value.int IntKind.i64 p2] 62); have x3 := cf3 hb (Obj.cells #[Value.int IntKind.i64 p1, Value.int IntKind.i64 p2] 62); have x4 := cz hb (Obj.cells #[Value.int IntKind.i64 p1, Value.int IntKind.i64 p2] 62) 0; have y0 : (w1.alloc (Obj.cells #[Value.int IntKind.i64 p1, Value.int IntKind.i64 p2] 62)).cell? ⟨w1.heap.size, 0, none⟩ = some (.int .i64 p1) := (blk_cell (blk_new w1 (Obj.cells #[Value.int IntKind.i64 p1, Value.int IntKind.i64 p2] 62)) 0).trans rfl; have y1 : (w1.alloc (Obj.cells #[Value.int IntKind.i64 p1, Value.int IntKind.i64 p2] 62)).cell? ⟨w1.heap.size, 1, none⟩ = some (.int .i64 p2) := (blk_cell (blk_new w1 (Obj.cells #[Value.int IntKind.i64 p1, Value.int IntKind.i64 p2] 62)) 1).trans rfl; obtain ⟨fn, tmps, assign, body, hy, hR⟩ := hY pre ⟨p1, g1, g2, g3⟩ (w1.alloc (Obj.cells #[Value.int IntKind.i64 p1, Value.int IntKind.i64 p2] 62)) (AbR.laid hJ _ (AbR.below hJ hJs hb)) hlen (by have := hb.size; simp; omega); simp only [cells51] at hy)
            refine hR.mono ?_
            rintro e W3 (⟨rfl, hJ3, hk3⟩ | ⟨rfl, hJx3⟩)
            · have z0 := hk3.2.1 W.heap.size (.inr ⟨Nat.le_refl _, by omega⟩)
              have z1 := hk3.2.1 B2 (.inl s2)
              have z2 := hk3.2.1 B3 (.inl s3)
              have z3 := hk3.2.2 w1.heap.size _ 62 rfl (blk_new w1 (Obj.cells #[Value.int IntKind.i64 p1, Value.int IntKind.i64 p2] 62))
              replace z0 := z0.trans (blk_alloc ((hb.block _ hz).trans hf) _)
              replace z1 := z1.trans (blk_alloc ((hb.block _ (blk_lt k2)).trans k2) _)
              replace z2 := z2.trans (blk_alloc ((hb.block _ (blk_lt k3)).trans k3) _)
              replace z3 := z3.trans (blk_new w1 (Obj.cells #[Value.int IntKind.i64 p1, Value.int IntKind.i64 p2] 62))
              have q0 : W3.cell? ⟨w1.heap.size, 0, none⟩ = some (.int .i64 p1) := (blk_cell z3 0).trans rfl
              have q1 : W3.cell? ⟨w1.heap.size, 1, none⟩ = some (.int .i64 p2) := (blk_cell z3 1).trans rfl
              have q2 := blkC4 W3 W.heap.size _ _ _ _ z0
              have q3 := blkF4 z0
              obtain ⟨q20, q21, q22, q23⟩ := q2
              obtain ⟨q30, q31, q32, q33⟩ := q3
              gi_wp2
              go_roundw
              case rel =>
                obtain ⟨n1, n2, n3, n4⟩ := fin W3 _ p1 p2 hJ3 _ _ _ _ z0 z1 z2
                exact ⟨i + 1, ⟨p1, p2, 1, (i : Int)⟩, _, by simp, by omega, hpre', n1, n2, n3, n4⟩
              case measure => simp [intOf]; omega
            · gi_wp2
              refine bodyPost_ret (results_none rfl _ _ _) rfl ?_
              exact ⟨⟨_, rfl⟩, .inr ⟨_, ⟨_, by simp, hpre'⟩, hJx3⟩⟩
          · have h1b : (p1 == g0) = false := beq_eq_false_iff_ne.2 h1
            have h1d : decide (p1 = g0) = false := decide_eq_false h1
            have hpre' : (pre ++ [⟨g0, g1, g2, g3⟩]) ++ pcs fd (m - (i + 1)) (i + 1) ⟨p1, p2, 1, (i : Int)⟩ = T := by
              rw [← hpre, show m - i = (m - (i + 1)) + 1 by omega, pcs, ← hp, if_neg (fun h => he h.2), if_pos hg, List.append_assoc]
            have hlen : pre.length < T.length := by rw [← hpre']; simp only [List.length_append, List.length_cons, List.length_nil]; omega
            gi_wp2_with (gi_at_call 36; refine (callsIn_wide.2 (stripe_find.calls u c o _ p1 p2 _ hfi)).mono ?_; rintro e w1 ⟨rfl, hb⟩; have x0 := cf0 hb (Obj.cells #[Value.int IntKind.i64 p1, Value.int IntKind.i64 p2] 62); have x1 := cf1 hb (Obj.cells #[Value.int IntKind.i64 p1, Value.int IntKind.i64 p2] 62); have x2 := cf2 hb (Obj.cells #[Value.int IntKind.i64 p1, Value.int IntKind.i64 p2] 62); have x3 := cf3 hb (Obj.cells #[Value.int IntKind.i64 p1, Value.int IntKind.i64 p2] 62); have x4 := cz hb (Obj.cells #[Value.int IntKind.i64 p1, Value.int IntKind.i64 p2] 62) 0; have y0 : (w1.alloc (Obj.cells #[Value.int IntKind.i64 p1, Value.int IntKind.i64 p2] 62)).cell? ⟨w1.heap.size, 0, none⟩ = some (.int .i64 p1) := (blk_cell (blk_new w1 (Obj.cells #[Value.int IntKind.i64 p1, Value.int IntKind.i64 p2] 62)) 0).trans rfl; have y1 : (w1.alloc (Obj.cells #[Value.int IntKind.i64 p1, Value.int IntKind.i64 p2] 62)).cell? ⟨w1.heap.size, 1, none⟩ = some (.int .i64 p2) := (blk_cell (blk_new w1 (Obj.cells #[Value.int IntKind.i64 p1, Value.int IntKind.i64 p2] 62)) 1).trans rfl; obtain ⟨fn, tmps, assign, body, hy, hR⟩ := hY pre ⟨g0, g1, g2, g3⟩ (w1.alloc (Obj.cells #[Value.int IntKind.i64 p1, Value.int IntKind.i64 p2] 62)) (AbR.laid hJ _ (AbR.below hJ hJs hb)) hlen (by have := hb.size; simp; omega); simp only [cells51] at hy)
            refine hR.mono ?_
            rintro e W3 (⟨rfl, hJ3, hk3⟩ | ⟨rfl, hJx3⟩)
            · have z0 := hk3.2.1 W.heap.size (.inr ⟨Nat.le_refl _, by omega⟩)
              have z1 := hk3.2.1 B2 (.inl s2)
              have z2 := hk3.2.1 B3 (.inl s3)
              have z3 := hk3.2.2 w1.heap.size _ 62 rfl (blk_new w1 (Obj.cells #[Value.int IntKind.i64 p1, Value.int IntKind.i64 p2] 62))
              replace z0 := z0.trans (blk_alloc ((hb.block _ hz).trans hf) _)
              replace z1 := z1.trans (blk_alloc ((hb.block _ (blk_lt k2)).trans k2) _)
              replace z2 := z2.trans (blk_alloc ((hb.block _ (blk_lt k3)).trans k3) _)
              replace z3 := z3.trans (blk_new w1 (Obj.cells #[Value.int IntKind.i64 p1, Value.int IntKind.i64 p2] 62))
              have q0 : W3.cell? ⟨w1.heap.size, 0, none⟩ = some (.int .i64 p1) := (blk_cell z3 0).trans rfl
              have q1 : W3.cell? ⟨w1.heap.size, 1, none⟩ = some (.int .i64 p2) := (blk_cell z3 1).trans rfl
              have q2 := blkC4 W3 W.heap.size _ _ _ _ z0
              have q3 := blkF4 z0
              obtain ⟨q20, q21, q22, q23⟩ := q2
              obtain ⟨q30, q31, q32, q33⟩ := q3
              gi_wp2
              go_roundw
              case rel =>
                obtain ⟨n1, n2, n3, n4⟩ := fin W3 _ p1 p2 hJ3 _ _ _ _ z0 z1 z2
                exact ⟨i + 1, ⟨p1, p2, 1, (i : Int)⟩, _, by simp, by omega, hpre', n1, n2, n3, n4⟩
              case measure => simp [intOf]; omega
            · gi_wp2
              refine bodyPost_ret (results_none rfl _ _ _) rfl ?_
              exact ⟨⟨_, rfl⟩, .inr ⟨_, ⟨_, by simp, hpre'⟩, hJx3⟩⟩
      · have hgb : decide (0 < g2) = false := decide_eq_false hg
        have hpre' : pre ++ pcs fd (m - (i + 1)) (i + 1) ⟨p1, p2, 1, (i : Int)⟩ = T := by
          rw [← hpre, show m - i = (m - (i + 1)) + 1 by omega, pcs, ← hp, if_neg (fun h => hg h.1), if_neg hg, List.nil_append]
        gi_wp2_with (gi_at_call 36; refine (callsIn_wide.2 (stripe_find.calls u c o _ p1 p2 _ hfi)).mono ?_; rintro e w1 ⟨rfl, hb⟩; have x0 := cf0 hb (Obj.cells #[Value.int IntKind.i64 p1, Value.int IntKind.i64 p2] 62); have x1 := cf1 hb (Obj.cells #[Value.int IntKind.i64 p1, Value.int IntKind.i64 p2] 62); have x2 := cf2 hb (Obj.cells #[Value.int IntKind.i64 p1, Value.int IntKind.i64 p2] 62); have x3 := cf3 hb (Obj.cells #[Value.int IntKind.i64 p1, Value.int IntKind.i64 p2] 62); have x40 := cz hb (Obj.cells #[Value.int IntKind.i64 p1, Value.int IntKind.i64 p2] 62) 0; have x41 := cz hb (Obj.cells #[Value.int IntKind.i64 p1, Value.int IntKind.i64 p2] 62) 1; have x42 := cz hb (Obj.cells #[Value.int IntKind.i64 p1, Value.int IntKind.i64 p2] 62) 2; have x43 := cz hb (Obj.cells #[Value.int IntKind.i64 p1, Value.int IntKind.i64 p2] 62) 3; have y0 : (w1.alloc (Obj.cells #[Value.int IntKind.i64 p1, Value.int IntKind.i64 p2] 62)).cell? ⟨w1.heap.size, 0, none⟩ = some (.int .i64 p1) := (blk_cell (blk_new w1 (Obj.cells #[Value.int IntKind.i64 p1, Value.int IntKind.i64 p2] 62)) 0).trans rfl; have y1 : (w1.alloc (Obj.cells #[Value.int IntKind.i64 p1, Value.int IntKind.i64 p2] 62)).cell? ⟨w1.heap.size, 1, none⟩ = some (.int .i64 p2) := (blk_cell (blk_new w1 (Obj.cells #[Value.int IntKind.i64 p1, Value.int IntKind.i64 p2] 62)) 1).trans rfl)
        refine ⟨fun f' hf' => (by cases hf'), ?_⟩
        gi_wp2
        go_roundw
        case rel =>
          obtain ⟨n1, n2, n3, n4⟩ := fin (w1.alloc (Obj.cells #[Value.int IntKind.i64 p1, Value.int IntKind.i64 p2] 62)) pre p1 p2 (AbR.laid hJ _ (AbR.below hJ hJs hb)) _ _ _ _ (blk_alloc ((hb.block _ hz).trans hf) _) (blk_alloc ((hb.block _ (blk_lt k2)).trans k2) _) (blk_alloc ((hb.block _ (blk_lt k3)).trans k3) _)
          exact ⟨i + 1, ⟨p1, p2, 1, (i : Int)⟩, _, by simp, by omega, hpre', n1, n2, n3, n4⟩
        case measure => simp [intOf]; omega
    · obtain rfl : i = m := by omega
      have hltb : decide ((i : Int) < (i : Int)) = false := decide_eq_false (by omega)
      obtain ⟨g0, g1, g2, g3⟩ := f
      rw [Nat.sub_self, pcs] at hpre
      obtain ⟨q20, q21, q22, q23⟩ := blkC4 wr W.heap.size _ _ _ _ hf
      by_cases hg : 0 < g2
      · have hgb : decide (0 < g2) = true := decide_eq_true hg
        rw [if_pos hg] at hpre
        obtain ⟨fn, tmps, assign, body, hy, hR⟩ := hY pre ⟨g0, g1, g2, g3⟩ wr hJs (by rw [← hpre]; simp only [List.length_append, List.length_cons, List.length_nil]; omega) (by omega)
        simp only [cells51] at hy
        gi_wp2
        refine hR.mono ?_
        rintro e W3 (⟨rfl, hJ3, hk3⟩ | ⟨rfl, hJx3⟩)
        · gi_wp2
          go_end0
          exact ⟨⟨_, rfl⟩, .inl ⟨_, hpre, hJ3⟩⟩
        · gi_wp2
          go_end0
          exact ⟨⟨_, rfl⟩, .inr ⟨_, ⟨[], by simp, by rw [List.append_nil]; exact hpre⟩, hJx3⟩⟩
      · have hgb : decide (0 < g2) = false := decide_eq_false hg
        rw [if_neg hg, List.append_nil] at hpre
        gi_wp2
        go_end0
        exact ⟨⟨_, rfl⟩, .inl (hpre ▸ hJs)⟩
end Go.Proofs.YteajaofcgcgodaaDoor.P
