/- code.cursor.field at a number's kind. -/
import Derived.Test.YtcheinjlgojepaaDoorP19
namespace Go.Proofs.YtcheinjlgojepaaDoor.P
open Go.RowKit Go.Proofs.YtcheinjlgojepaaDoorW.PrintWords Go.Proofs.YtcheinjlgojepaaDoorW.PrintLast Go.Proofs.YtcheinjlgojepaaDoorW.PrintMore
set_option linter.unusedVariables false
set_option linter.unusedSimpArgs false
def code_cursor_field.f (k : Nat) (b : List Int) (at_ : Int) (kind : Int) : Option (S29 × Int × Int) :=
  if kind = 1 then (code_cursor_number.f k b at_ 9223372036854775807).bind fun t => some ((⟨1, wrap64 t.1, ⟨#[]⟩, false⟩ : S29), t.2.1, t.2.2) else none
set_option maxHeartbeats 4000000 in
set_option maxRecDepth 100000 in
theorem code_cursor_field.calls (k g : Nat) (b : List Int) (at_ kind : Int) (f : S29) (e0 at1 : Int) (w0 w : World) (hI : IsS60 w0 w g b at_) (hB : Below w0.heap.size w0 w) (h : code_cursor_field.f k b at_ kind = some (f, e0, at1)) :
    Calls Tryd.prog 48 #[.pointer (some ⟨g, 0, none⟩), .int .i64 kind] w fun e w' => e = .returned (.tuple #[.agg #[.int .i64 f.f0, .int .i64 f.f1, .string f.f2, .bool f.f3], .int .i64 e0]) ∧ IsS60 w0 w' g b at1 ∧ Below w0.heap.size w0 w' ∧ KeepBut w w' g none := by
  unfold code_cursor_field.f at h
  by_cases hk : kind = 1
  · rw [if_pos hk] at h
    subst hk
    obtain ⟨⟨x, e1, a1⟩, hn, h⟩ := Option.bind_eq_some_iff.mp h
    simp only [Option.some.injEq, Prod.mk.injEq] at h
    obtain ⟨rfl, rfl, rfl⟩ := h
    have HN := Aside0.mk hn
    have HI := Aside0.mk hI
    have HB := Aside0.mk hB
    clear hn hI hB
    have hu29 := Tryd.underlying29
    go_enter Tryd.func48, Tryd.ntmps48
    go_upto_region 5 with (fail)
    have hgl : g < w.heap.size := HI.out.lt
    obtain ⟨gr, hgr⟩ : ∃ gr, w.heap.size = gr := ⟨_, rfl⟩
    obtain ⟨gf, hgf⟩ : ∃ gf, w.heap.size + 1 = gf := ⟨_, rfl⟩
    obtain ⟨V, hV⟩ : ∃ V, ((w.alloc (Obj.cells #[.int .i64 0, .int .i64 0, .string ⟨#[]⟩, .bool false] 29)).alloc (Obj.cells #[.int .i64 1, .int .i64 0, .string ⟨#[]⟩, .bool false] 29)) = V := ⟨_, rfl⟩
    have VB : Below w.heap.size w V := by rw [← hV]; repeat (first | exact Below.refl _ _ | apply below_alloc)
    have bR : V.heap[gr]? = some (.cells #[.int .i64 0, .int .i64 0, .string ⟨#[]⟩, .bool false] 29 (0, 0)) := by rw [← hV, ← hgr]; exact blk_alloc (blk_new w _) _
    have bF : V.heap[gf]? = some (.cells #[.int .i64 1, .int .i64 0, .string ⟨#[]⟩, .bool false] 29 (0, 0)) := by
      have := blk_new (w.alloc (Obj.cells #[.int .i64 0, .int .i64 0, .string ⟨#[]⟩, .bool false] 29)) (Obj.cells #[.int .i64 1, .int .i64 0, .string ⟨#[]⟩, .bool false] 29)
      rw [World.size_alloc] at this
      rw [← hV, ← hgf]; exact this
    have HV : Aside0 (IsS60 w0 V g b at_) := ⟨HI.out.below VB⟩
    have HBV : Aside0 (Below w0.heap.size w0 V) := ⟨below_step HB.out VB⟩
    rw [hV, hgf, hgr]
    have ng1 : gr ≠ g := by omega
    have ng2 : gf ≠ g := by omega
    have ng3 : gr ≠ gf := by omega
    have BR := Aside0.mk bR
    have BF := Aside0.mk bF
    have VB := Aside0.mk VB
    clear hV bR bF
    go_upto_region 6 with (go_at_call 57; refine (code_cursor_number.calls k g b at_ 9223372036854775807 x e1 a1 w0 V HV.out HBV.out HN.out).mono ?_; rintro e w1 ⟨rfl, hi1, hb1, hk1⟩; have HI1 := Aside0.mk hi1; have HB1 := Aside0.mk hb1; have BR1 := Aside0.mk ((hk1.2 gr (blk_lt BR.out) ng1 (by simp)).trans BR.out); have BF1 := Aside0.mk ((hk1.2 gf (blk_lt BF.out) ng2 (by simp)).trans BF.out); have HK1 := Aside0.mk hk1; clear hi1 hb1 hk1)
    obtain ⟨c0, c1, c2, c3⟩ := blkC4 w1 gf _ _ _ _ BF1.out
    obtain ⟨d0, d1, d2, d3⟩ := blkF4 BF1.out
    obtain ⟨p0, p1, p2, p3⟩ := blkC4 w1 gr _ _ _ _ BR1.out
    obtain ⟨q0, q1, q2, q3⟩ := blkF4 BR1.out
    have ng4 : gf ≠ gr := fun e => ng3 e.symm
    go_wp2
    refine bodyPost_ret (results_ct rfl _ _ gr 29 #[.int .i64 1, .int .i64 (wrap64 x), .string ⟨#[]⟩, .bool false] (0, 0) _ rfl (by
      refine blk_put (cs := #[.int .i64 1, .int .i64 (wrap64 x), .string ⟨#[]⟩, .bool false]) ?_ 3 _ rfl
      refine blk_put (cs := #[.int .i64 1, .int .i64 (wrap64 x), .string ⟨#[]⟩, .bool false]) ?_ 2 _ rfl
      refine blk_put (cs := #[.int .i64 1, .int .i64 0, .string ⟨#[]⟩, .bool false]) ?_ 1 _ rfl
      refine blk_put (cs := #[.int .i64 0, .int .i64 0, .string ⟨#[]⟩, .bool false]) ?_ 0 _ rfl
      exact blk_far BR1.out ng3 _) Tryd.underlying29 rfl (by kernel_rfl)) rfl ?_
    have kk : KeepBut w w1 g none := ⟨Nat.le_trans VB.out.size HK1.out.1, fun i hi hne _ => (HK1.out.2 i (Nat.lt_of_lt_of_le hi VB.out.size) hne (by simp)).trans (VB.out.block i hi)⟩
    have sz : w0.heap.size ≤ w.heap.size := HB.out.size
    exact ⟨rfl, IsS60.far (IsS60.far (IsS60.far (IsS60.far (IsS60.far HI1.out (fun e => ng2 e.symm) _) (fun e => ng1 e.symm) _) (fun e => ng1 e.symm) _) (fun e => ng1 e.symm) _) (fun e => ng1 e.symm) _,
      below_set (below_set (below_set (below_set (below_set HB1.out (by omega)) (by omega)) (by omega)) (by omega)) (by omega),
      keep_far (keep_far (keep_far (keep_far (keep_far kk (by show w.heap.size ≤ gf; omega) _) (by show w.heap.size ≤ gr; omega) _) (by show w.heap.size ≤ gr; omega) _) (by show w.heap.size ≤ gr; omega) _) (by show w.heap.size ≤ gr; omega) _⟩
  · rw [if_neg hk] at h
    cases h
theorem code_cursor_field.mono (b : List Int) (at_ kind : Int) (k : Nat) : LeO (code_cursor_field.f k b at_ kind) (code_cursor_field.f (k + 1) b at_ kind) := by
  unfold code_cursor_field.f
  refine LeO.ite (LeO.bind (code_cursor_number.mono _ _ _ _) (fun _ => LeO.refl _)) (LeO.refl _)
end Go.Proofs.YtcheinjlgojepaaDoor.P
