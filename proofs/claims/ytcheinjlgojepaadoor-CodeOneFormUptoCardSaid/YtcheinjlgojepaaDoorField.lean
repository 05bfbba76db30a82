-- left of the seat's texts by prune.py, a program of this session
import Derived.BigRegion
import Derived.Test.YtcheinjlgojepaaDoorP19
import Derived.Test.YtcheinjlgojepaaDoorP20
import Derived.TacticsInMore
import Derived.LoopNIn
import Derived.LoopIn
import Derived.Maps.AppendAt
import Derived.Lib.Hide
import Derived.Test.YtcheinjlgojepaaDoorRangeD
namespace Go.Proofs.YtcheinjlgojepaaDoor.P
open Go.RowKit Go.Proofs.YtcheinjlgojepaaDoorW.PrintWords Go.Proofs.YtcheinjlgojepaaDoorW.PrintLast Go.Proofs.YtcheinjlgojepaaDoorW.PrintMore
set_option linter.unusedVariables false
set_option linter.unusedSimpArgs false
def wordAt (b : List Int) (at_ : Int) : Nat → Int
  | 0 => 0
  | n + 1 => Go.bits .or .i64 (wordAt b at_ n) (wrap64 (wrap64 (rd b (at_ + (n : Int))) * 2 ^ (8 * n)))
def unzag (x : Int) : Int := Go.bits .xor .i64 (wrap64 (x / 2)) (wrap64 (-(wrap64 (Go.bits .and .u64 x 1))))
def code_cursor_field.f (k : Nat) (b : List Int) (at_ : Int) (kind : Int) : Option (S29 × Int × Int) :=
  if 0 ≤ at_ ∧ at_ ≤ (b.length : Int) then
    if kind = 1 then (code_cursor_number.f k b at_ 9223372036854775807).bind fun t => some ((⟨1, wrap64 t.1, ⟨#[]⟩, false⟩ : S29), t.2.1, t.2.2)
    else if kind = 2 then (code_cursor_number.f k b at_ 18446744073709551615).bind fun t => some ((⟨2, unzag t.1, ⟨#[]⟩, false⟩ : S29), t.2.1, t.2.2)
    else if kind = 3 then (if at_ + 4 ≤ (b.length : Int) then some ((⟨3, wordAt b at_ 4, ⟨#[]⟩, false⟩ : S29), 0, at_ + 4) else some ((⟨3, 0, ⟨#[]⟩, false⟩ : S29), 11, at_))
    else if kind = 4 then (code_cursor_number.f k b at_ 9223372036854775807).bind fun t =>
      (if t.2.1 = 0 then (if 0 ≤ t.2.2 ∧ t.2.2 ≤ (b.length : Int) ∧ 0 ≤ t.1 ∧ t.1 ≤ 9223372036854775807 then
          (if t.2.2 + t.1 > (b.length : Int) then some ((⟨4, 0, ⟨#[]⟩, false⟩ : S29), 11, t.2.2) else some ((⟨4, 0, strOfNums ((b.take (t.2.2 + t.1).toNat).drop t.2.2.toNat), false⟩ : S29), 0, t.2.2 + t.1)) else none)
        else some ((⟨4, 0, ⟨#[]⟩, false⟩ : S29), t.2.1, t.2.2))
    else if kind = 5 then (if at_ < (b.length : Int) then (if rd b at_ > 1 then some ((⟨5, 0, ⟨#[]⟩, false⟩ : S29), 10, at_) else some ((⟨5, 0, ⟨#[]⟩, rd b at_ == 1⟩ : S29), 0, at_ + 1)) else some ((⟨5, 0, ⟨#[]⟩, false⟩ : S29), 11, at_))
    else some ((⟨kind, 0, ⟨#[]⟩, false⟩ : S29), 27, at_)
  else none
def FieldPost (w0 w : World) (g : Nat) (b : List Int) (f : S29) (e0 at1 : Int) (e : Ending) (w' : World) : Prop := e = .returned (.tuple #[.agg #[.int .i64 f.f0, .int .i64 f.f1, .string f.f2, .bool f.f3], .int .i64 e0]) ∧ IsS60 w0 w' g b at1 ∧ Below w0.heap.size w0 w' ∧ KeepBut w w' g none
theorem blk_drewn {W : World} {g : Nat} {x : Option Obj} (h : W.heap[g]? = x) : W.drew.heap[g]? = x := h
theorem cell29 {W : World} {g : Nat} {a b c d : Value} (h : W.heap[g]? = some (.cells #[a, b, c, d] 29 (0, 0))) : W.cell? ⟨g, 0, none⟩ = some a ∧ W.cell? ⟨g, 1, none⟩ = some b ∧ W.cell? ⟨g, 2, none⟩ = some c ∧ W.cell? ⟨g, 3, none⟩ = some d :=
  ⟨(blk_cell h 0).trans rfl, (blk_cell h 1).trans rfl, (blk_cell h 2).trans rfl, (blk_cell h 3).trans rfl⟩
set_option maxHeartbeats 4000000 in
set_option maxRecDepth 100000 in
theorem field_num1 (k g : Nat) (b : List Int) (at_ : Int) (x e1 a1 : Int) (w0 w : World) (hI : IsS60 w0 w g b at_) (hB : Below w0.heap.size w0 w) (hn : code_cursor_number.f k b at_ 9223372036854775807 = some (x, e1, a1)) :
    Calls Tryd.prog 48 #[.pointer (some ⟨g, 0, none⟩), .int .i64 1] w (FieldPost w0 w g b ⟨1, wrap64 x, ⟨#[]⟩, false⟩ e1 a1) := by
  have HN := Aside0.mk hn
  clear hn
  have HI := Aside0.mk hI
  have HB := Aside0.mk hB
  clear hI hB
  have hu29 := Tryd.underlying29
  go_enter Tryd.func48, Tryd.ntmps48
  go_upto_region 2 with (fail)
  have hgl : g < w.heap.size := HI.out.lt
  obtain ⟨gr, hgr⟩ : ∃ gr, w.heap.size = gr := ⟨_, rfl⟩
  obtain ⟨gf, hgf⟩ : ∃ gf, w.heap.size + 1 = gf := ⟨_, rfl⟩
  obtain ⟨V, hV⟩ : ∃ V, ((w.alloc (Obj.cells #[.int .i64 0, .int .i64 0, .string ⟨#[]⟩, .bool false] 29)).alloc (Obj.cells #[.int .i64 1, .int .i64 0, .string ⟨#[]⟩, .bool false] 29)) = V := ⟨_, rfl⟩
  have VB : Below w.heap.size w V := by rw [← hV]; repeat (first | exact Below.refl _ _ | apply below_alloc)
  have bR : V.heap[gr]? = some (.cells #[.int .i64 0, .int .i64 0, .string ⟨#[]⟩, .bool false] 29 (0, 0)) := by rw [← hV, ← hgr]; exact blk_alloc (blk_new w _) _
  have bF : V.heap[gf]? = some (.cells #[.int .i64 1, .int .i64 0, .string ⟨#[]⟩, .bool false] 29 (0, 0)) := by
    have := blk_new (w.alloc (Obj.cells #[.int .i64 0, .int .i64 0, .string ⟨#[]⟩, .bool false] 29)) (Obj.cells #[.int .i64 1, .int .i64 0, .string ⟨#[]⟩, .bool false] 29)
    rw [World.size_alloc] at this
    rw [← hV, ← hgf]; exact this
  have HV : Aside0 (IsS60 w0 V g b at_) := ⟨HI.out.below VB⟩
  have HBV : Aside0 (Below w0.heap.size w0 V) := ⟨below_step HB.out VB⟩
  have hsz : w0.heap.size ≤ w.heap.size := HB.out.size
  have HKV : Aside0 (KeepBut w V g none) := ⟨⟨VB.size, fun i hi hne _ => VB.block i hi⟩⟩
  have hgs : gr + 2 = V.heap.size := by rw [← hV, ← hgr]; simp
  rw [hV, hgf, hgr]
  have ng1 : gr ≠ g := by omega
  have ng2 : gf ≠ g := by omega
  have ng3 : gr ≠ gf := by omega
  have ng4 : gf ≠ gr := fun e => ng3 e.symm
  have ng5 : g ≠ gr := fun e => ng1 e.symm
  have ng6 : g ≠ gf := fun e => ng2 e.symm
  have BR := Aside0.mk bR
  have BF := Aside0.mk bF
  clear hV bR bF VB HI HB
  go_upto_region 6 with (go_at_call 57; refine (code_cursor_number.calls k g b at_ 9223372036854775807 x e1 a1 w0 V HV.out HBV.out HN.out).mono ?_; rintro e w1 ⟨rfl, hi, hb, hk⟩; have HI1 := Aside0.mk hi; have HB1 := Aside0.mk hb; have HK1 : Aside0 (KeepBut w w1 g none) := ⟨KeepBut.trans HKV.out hk (.inl rfl)⟩; have BR1 := Aside0.mk ((hk.2 gr (blk_lt BR.out) ng1 (by simp)).trans BR.out); have BF1 := Aside0.mk ((hk.2 gf (blk_lt BF.out) ng2 (by simp)).trans BF.out); clear hi hb hk HV HBV HKV BR BF)
  obtain ⟨c0, c1, c2, c3⟩ := cell29 BF1.out
  obtain ⟨d0, d1, d2, d3⟩ := blkF4 BF1.out
  obtain ⟨p0, p1, p2, p3⟩ := cell29 BR1.out
  obtain ⟨q0, q1, q2, q3⟩ := blkF4 BR1.out
  go_wp2
  refine bodyPost_ret (results_ct rfl _ _ gr 29 #[.int .i64 1, .int .i64 (wrap64 x), .string ⟨#[]⟩, .bool false] (0, 0) _ rfl (by
    refine blk_put (cs := #[.int .i64 1, .int .i64 (wrap64 x), .string ⟨#[]⟩, .bool false]) ?_ 3 _ rfl
    refine blk_put (cs := #[.int .i64 1, .int .i64 (wrap64 x), .string ⟨#[]⟩, .bool false]) ?_ 2 _ rfl
    refine blk_put (cs := #[.int .i64 1, .int .i64 0, .string ⟨#[]⟩, .bool false]) ?_ 1 _ rfl
    refine blk_put (cs := #[.int .i64 0, .int .i64 0, .string ⟨#[]⟩, .bool false]) ?_ 0 _ rfl
    repeat (first | (with_reducible refine blk_far ?_ ng3 _) | (with_reducible refine blk_far ?_ ng1 _) | exact BR1.out)) Tryd.underlying29 rfl (by kernel_rfl)) rfl ?_
  refine ⟨rfl, ?_, ?_, ?_⟩
  · repeat (first | (with_reducible refine IsS60.far ?_ ng6 _) | (with_reducible refine IsS60.far ?_ ng5 _) | (with_reducible refine IsS60.set_1 (f1 := at_) ?_ _) | (with_reducible apply IsS60.drewN) | (with_reducible apply IsS60.drew) | (with_reducible exact HI1.out))
  · repeat (first | (with_reducible refine below_set ?_ (by omega)) | (with_reducible apply pw_below_drewN) | (with_reducible apply below_drew1) | (with_reducible exact HB1.out))
  · repeat (first | (with_reducible refine keep_far ?_ (show w.heap.size ≤ gr by omega) _) | (with_reducible refine keep_far ?_ (show w.heap.size ≤ gf by omega) _) | (with_reducible apply KeepBut.set_) | (with_reducible apply keep_drewN) | (with_reducible apply keep_drew) | (with_reducible exact HK1.out))
set_option maxHeartbeats 4000000 in
set_option maxRecDepth 100000 in
theorem field_num2 (k g : Nat) (b : List Int) (at_ : Int) (x e1 a1 : Int) (w0 w : World) (hI : IsS60 w0 w g b at_) (hB : Below w0.heap.size w0 w) (hn : code_cursor_number.f k b at_ 18446744073709551615 = some (x, e1, a1)) :
    Calls Tryd.prog 48 #[.pointer (some ⟨g, 0, none⟩), .int .i64 2] w (FieldPost w0 w g b ⟨2, unzag x, ⟨#[]⟩, false⟩ e1 a1) := by
  have HN := Aside0.mk hn
  clear hn
  have HI := Aside0.mk hI
  have HB := Aside0.mk hB
  clear hI hB
  have hu29 := Tryd.underlying29
  go_enter Tryd.func48, Tryd.ntmps48
  go_upto_region 2 with (fail)
  have hgl : g < w.heap.size := HI.out.lt
  obtain ⟨gr, hgr⟩ : ∃ gr, w.heap.size = gr := ⟨_, rfl⟩
  obtain ⟨gf, hgf⟩ : ∃ gf, w.heap.size + 1 = gf := ⟨_, rfl⟩
  obtain ⟨V, hV⟩ : ∃ V, ((w.alloc (Obj.cells #[.int .i64 0, .int .i64 0, .string ⟨#[]⟩, .bool false] 29)).alloc (Obj.cells #[.int .i64 2, .int .i64 0, .string ⟨#[]⟩, .bool false] 29)) = V := ⟨_, rfl⟩
  have VB : Below w.heap.size w V := by rw [← hV]; repeat (first | exact Below.refl _ _ | apply below_alloc)
  have bR : V.heap[gr]? = some (.cells #[.int .i64 0, .int .i64 0, .string ⟨#[]⟩, .bool false] 29 (0, 0)) := by rw [← hV, ← hgr]; exact blk_alloc (blk_new w _) _
  have bF : V.heap[gf]? = some (.cells #[.int .i64 2, .int .i64 0, .string ⟨#[]⟩, .bool false] 29 (0, 0)) := by
    have := blk_new (w.alloc (Obj.cells #[.int .i64 0, .int .i64 0, .string ⟨#[]⟩, .bool false] 29)) (Obj.cells #[.int .i64 2, .int .i64 0, .string ⟨#[]⟩, .bool false] 29)
    rw [World.size_alloc] at this
    rw [← hV, ← hgf]; exact this
  have HV : Aside0 (IsS60 w0 V g b at_) := ⟨HI.out.below VB⟩
  have HBV : Aside0 (Below w0.heap.size w0 V) := ⟨below_step HB.out VB⟩
  have hsz : w0.heap.size ≤ w.heap.size := HB.out.size
  have HKV : Aside0 (KeepBut w V g none) := ⟨⟨VB.size, fun i hi hne _ => VB.block i hi⟩⟩
  have hgs : gr + 2 = V.heap.size := by rw [← hV, ← hgr]; simp
  rw [hV, hgf, hgr]
  have ng1 : gr ≠ g := by omega
  have ng2 : gf ≠ g := by omega
  have ng3 : gr ≠ gf := by omega
  have ng4 : gf ≠ gr := fun e => ng3 e.symm
  have ng5 : g ≠ gr := fun e => ng1 e.symm
  have ng6 : g ≠ gf := fun e => ng2 e.symm
  have BR := Aside0.mk bR
  have BF := Aside0.mk bF
  clear hV bR bF VB HI HB
  go_upto_region 10 with (go_at_call 57; refine (code_cursor_number.calls k g b at_ 18446744073709551615 x e1 a1 w0 V HV.out HBV.out HN.out).mono ?_; rintro e w1 ⟨rfl, hi, hb, hk⟩; have HI1 := Aside0.mk hi; have HB1 := Aside0.mk hb; have HK1 : Aside0 (KeepBut w w1 g none) := ⟨KeepBut.trans HKV.out hk (.inl rfl)⟩; have BR1 := Aside0.mk ((hk.2 gr (blk_lt BR.out) ng1 (by simp)).trans BR.out); have BF1 := Aside0.mk ((hk.2 gf (blk_lt BF.out) ng2 (by simp)).trans BF.out); clear hi hb hk HV HBV HKV BR BF)
  simp only [unzag]
  obtain ⟨c0, c1, c2, c3⟩ := cell29 BF1.out
  obtain ⟨d0, d1, d2, d3⟩ := blkF4 BF1.out
  obtain ⟨p0, p1, p2, p3⟩ := cell29 BR1.out
  obtain ⟨q0, q1, q2, q3⟩ := blkF4 BR1.out
  go_wp2
  refine bodyPost_ret (results_ct rfl _ _ gr 29 #[.int .i64 2, .int .i64 (Go.bits .xor .i64 (wrap64 (x / 2)) (wrap64 (-(wrap64 (Go.bits .and .u64 x 1))))), .string ⟨#[]⟩, .bool false] (0, 0) _ rfl (by
    refine blk_put (cs := #[.int .i64 2, .int .i64 (Go.bits .xor .i64 (wrap64 (x / 2)) (wrap64 (-(wrap64 (Go.bits .and .u64 x 1))))), .string ⟨#[]⟩, .bool false]) ?_ 3 _ rfl
    refine blk_put (cs := #[.int .i64 2, .int .i64 (Go.bits .xor .i64 (wrap64 (x / 2)) (wrap64 (-(wrap64 (Go.bits .and .u64 x 1))))), .string ⟨#[]⟩, .bool false]) ?_ 2 _ rfl
    refine blk_put (cs := #[.int .i64 2, .int .i64 0, .string ⟨#[]⟩, .bool false]) ?_ 1 _ rfl
    refine blk_put (cs := #[.int .i64 0, .int .i64 0, .string ⟨#[]⟩, .bool false]) ?_ 0 _ rfl
    repeat (first | (with_reducible refine blk_far ?_ ng3 _) | (with_reducible refine blk_far ?_ ng1 _) | exact BR1.out)) Tryd.underlying29 rfl (by kernel_rfl)) rfl ?_
  refine ⟨rfl, ?_, ?_, ?_⟩
  · repeat (first | (with_reducible refine IsS60.far ?_ ng6 _) | (with_reducible refine IsS60.far ?_ ng5 _) | (with_reducible refine IsS60.set_1 (f1 := at_) ?_ _) | (with_reducible apply IsS60.drewN) | (with_reducible apply IsS60.drew) | (with_reducible exact HI1.out))
  · repeat (first | (with_reducible refine below_set ?_ (by omega)) | (with_reducible apply pw_below_drewN) | (with_reducible apply below_drew1) | (with_reducible exact HB1.out))
  · repeat (first | (with_reducible refine keep_far ?_ (show w.heap.size ≤ gr by omega) _) | (with_reducible refine keep_far ?_ (show w.heap.size ≤ gf by omega) _) | (with_reducible apply KeepBut.set_) | (with_reducible apply keep_drewN) | (with_reducible apply keep_drew) | (with_reducible exact HK1.out))
set_option maxHeartbeats 4000000 in
set_option maxRecDepth 100000 in
theorem field_left3 (k g : Nat) (b : List Int) (at_ : Int) (w0 w : World) (hI : IsS60 w0 w g b at_) (hB : Below w0.heap.size w0 w) (hn : code_cursor_left.f b at_ 4 = some (false, at_)) :
    Calls Tryd.prog 48 #[.pointer (some ⟨g, 0, none⟩), .int .i64 3] w (FieldPost w0 w g b ⟨3, 0, ⟨#[]⟩, false⟩ 11 at_) := by
  have HN := Aside0.mk hn
  clear hn
  have HI := Aside0.mk hI
  have HB := Aside0.mk hB
  clear hI hB
  have hu29 := Tryd.underlying29
  go_enter Tryd.func48, Tryd.ntmps48
  go_upto_region 2 with (fail)
  have hgl : g < w.heap.size := HI.out.lt
  obtain ⟨gr, hgr⟩ : ∃ gr, w.heap.size = gr := ⟨_, rfl⟩
  obtain ⟨gf, hgf⟩ : ∃ gf, w.heap.size + 1 = gf := ⟨_, rfl⟩
  obtain ⟨V, hV⟩ : ∃ V, ((w.alloc (Obj.cells #[.int .i64 0, .int .i64 0, .string ⟨#[]⟩, .bool false] 29)).alloc (Obj.cells #[.int .i64 3, .int .i64 0, .string ⟨#[]⟩, .bool false] 29)) = V := ⟨_, rfl⟩
  have VB : Below w.heap.size w V := by rw [← hV]; repeat (first | exact Below.refl _ _ | apply below_alloc)
  have bR : V.heap[gr]? = some (.cells #[.int .i64 0, .int .i64 0, .string ⟨#[]⟩, .bool false] 29 (0, 0)) := by rw [← hV, ← hgr]; exact blk_alloc (blk_new w _) _
  have bF : V.heap[gf]? = some (.cells #[.int .i64 3, .int .i64 0, .string ⟨#[]⟩, .bool false] 29 (0, 0)) := by
    have := blk_new (w.alloc (Obj.cells #[.int .i64 0, .int .i64 0, .string ⟨#[]⟩, .bool false] 29)) (Obj.cells #[.int .i64 3, .int .i64 0, .string ⟨#[]⟩, .bool false] 29)
    rw [World.size_alloc] at this
    rw [← hV, ← hgf]; exact this
  have HV : Aside0 (IsS60 w0 V g b at_) := ⟨HI.out.below VB⟩
  have HBV : Aside0 (Below w0.heap.size w0 V) := ⟨below_step HB.out VB⟩
  have hsz : w0.heap.size ≤ w.heap.size := HB.out.size
  have HKV : Aside0 (KeepBut w V g none) := ⟨⟨VB.size, fun i hi hne _ => VB.block i hi⟩⟩
  have hgs : gr + 2 = V.heap.size := by rw [← hV, ← hgr]; simp
  rw [hV, hgf, hgr]
  have ng1 : gr ≠ g := by omega
  have ng2 : gf ≠ g := by omega
  have ng3 : gr ≠ gf := by omega
  have ng4 : gf ≠ gr := fun e => ng3 e.symm
  have ng5 : g ≠ gr := fun e => ng1 e.symm
  have ng6 : g ≠ gf := fun e => ng2 e.symm
  have BR := Aside0.mk bR
  have BF := Aside0.mk bF
  clear hV bR bF VB HI HB
  go_upto_region 14 with (go_at_call 58; refine (code_cursor_left.calls g b at_ 4 false at_ w0 V HV.out HBV.out HN.out).mono ?_; rintro e w1 ⟨rfl, hi, hb, hk⟩; have HI1 := Aside0.mk hi; have HB1 := Aside0.mk hb; have HK1 : Aside0 (KeepBut w w1 g none) := ⟨KeepBut.trans HKV.out hk (.inl rfl)⟩; have BR1 := Aside0.mk ((hk.2 gr (blk_lt BR.out) ng1 (by simp)).trans BR.out); have BF1 := Aside0.mk ((hk.2 gf (blk_lt BF.out) ng2 (by simp)).trans BF.out); clear hi hb hk HV HBV HKV BR BF)
  obtain ⟨c0, c1, c2, c3⟩ := cell29 BF1.out
  obtain ⟨d0, d1, d2, d3⟩ := blkF4 BF1.out
  obtain ⟨p0, p1, p2, p3⟩ := cell29 BR1.out
  obtain ⟨q0, q1, q2, q3⟩ := blkF4 BR1.out
  go_wp2
  refine bodyPost_ret (results_ct rfl _ _ gr 29 #[.int .i64 3, .int .i64 0, .string ⟨#[]⟩, .bool false] (0, 0) _ rfl (by
    refine blk_put (cs := #[.int .i64 3, .int .i64 0, .string ⟨#[]⟩, .bool false]) ?_ 3 _ rfl
    refine blk_put (cs := #[.int .i64 3, .int .i64 0, .string ⟨#[]⟩, .bool false]) ?_ 2 _ rfl
    refine blk_put (cs := #[.int .i64 3, .int .i64 0, .string ⟨#[]⟩, .bool false]) ?_ 1 _ rfl
    refine blk_put (cs := #[.int .i64 0, .int .i64 0, .string ⟨#[]⟩, .bool false]) ?_ 0 _ rfl
    repeat (first | (with_reducible refine blk_far ?_ ng3 _) | (with_reducible refine blk_far ?_ ng1 _) | exact BR1.out)) Tryd.underlying29 rfl (by kernel_rfl)) rfl ?_
  refine ⟨rfl, ?_, ?_, ?_⟩
  · repeat (first | (with_reducible refine IsS60.far ?_ ng6 _) | (with_reducible refine IsS60.far ?_ ng5 _) | (with_reducible refine IsS60.set_1 (f1 := at_) ?_ _) | (with_reducible apply IsS60.drewN) | (with_reducible apply IsS60.drew) | (with_reducible exact HI1.out))
  · repeat (first | (with_reducible refine below_set ?_ (by omega)) | (with_reducible apply pw_below_drewN) | (with_reducible apply below_drew1) | (with_reducible exact HB1.out))
  · repeat (first | (with_reducible refine keep_far ?_ (show w.heap.size ≤ gr by omega) _) | (with_reducible refine keep_far ?_ (show w.heap.size ≤ gf by omega) _) | (with_reducible apply KeepBut.set_) | (with_reducible apply keep_drewN) | (with_reducible apply keep_drew) | (with_reducible exact HK1.out))
set_option maxHeartbeats 4000000 in
set_option maxRecDepth 100000 in
theorem field_left5 (k g : Nat) (b : List Int) (at_ : Int) (w0 w : World) (hI : IsS60 w0 w g b at_) (hB : Below w0.heap.size w0 w) (hn : code_cursor_left.f b at_ 1 = some (false, at_)) :
    Calls Tryd.prog 48 #[.pointer (some ⟨g, 0, none⟩), .int .i64 5] w (FieldPost w0 w g b ⟨5, 0, ⟨#[]⟩, false⟩ 11 at_) := by
  have HN := Aside0.mk hn
  clear hn
  have HI := Aside0.mk hI
  have HB := Aside0.mk hB
  clear hI hB
  have hu29 := Tryd.underlying29
  go_enter Tryd.func48, Tryd.ntmps48
  go_upto_region 2 with (fail)
  have hgl : g < w.heap.size := HI.out.lt
  obtain ⟨gr, hgr⟩ : ∃ gr, w.heap.size = gr := ⟨_, rfl⟩
  obtain ⟨gf, hgf⟩ : ∃ gf, w.heap.size + 1 = gf := ⟨_, rfl⟩
  obtain ⟨V, hV⟩ : ∃ V, ((w.alloc (Obj.cells #[.int .i64 0, .int .i64 0, .string ⟨#[]⟩, .bool false] 29)).alloc (Obj.cells #[.int .i64 5, .int .i64 0, .string ⟨#[]⟩, .bool false] 29)) = V := ⟨_, rfl⟩
  have VB : Below w.heap.size w V := by rw [← hV]; repeat (first | exact Below.refl _ _ | apply below_alloc)
  have bR : V.heap[gr]? = some (.cells #[.int .i64 0, .int .i64 0, .string ⟨#[]⟩, .bool false] 29 (0, 0)) := by rw [← hV, ← hgr]; exact blk_alloc (blk_new w _) _
  have bF : V.heap[gf]? = some (.cells #[.int .i64 5, .int .i64 0, .string ⟨#[]⟩, .bool false] 29 (0, 0)) := by
    have := blk_new (w.alloc (Obj.cells #[.int .i64 0, .int .i64 0, .string ⟨#[]⟩, .bool false] 29)) (Obj.cells #[.int .i64 5, .int .i64 0, .string ⟨#[]⟩, .bool false] 29)
    rw [World.size_alloc] at this
    rw [← hV, ← hgf]; exact this
  have HV : Aside0 (IsS60 w0 V g b at_) := ⟨HI.out.below VB⟩
  have HBV : Aside0 (Below w0.heap.size w0 V) := ⟨below_step HB.out VB⟩
  have hsz : w0.heap.size ≤ w.heap.size := HB.out.size
  have HKV : Aside0 (KeepBut w V g none) := ⟨⟨VB.size, fun i hi hne _ => VB.block i hi⟩⟩
  have hgs : gr + 2 = V.heap.size := by rw [← hV, ← hgr]; simp
  rw [hV, hgf, hgr]
  have ng1 : gr ≠ g := by omega
  have ng2 : gf ≠ g := by omega
  have ng3 : gr ≠ gf := by omega
  have ng4 : gf ≠ gr := fun e => ng3 e.symm
  have ng5 : g ≠ gr := fun e => ng1 e.symm
  have ng6 : g ≠ gf := fun e => ng2 e.symm
  have BR := Aside0.mk bR
  have BF := Aside0.mk bF
  clear hV bR bF VB HI HB
  go_upto_region 31 with (go_at_call 58; refine (code_cursor_left.calls g b at_ 1 false at_ w0 V HV.out HBV.out HN.out).mono ?_; rintro e w1 ⟨rfl, hi, hb, hk⟩; have HI1 := Aside0.mk hi; have HB1 := Aside0.mk hb; have HK1 : Aside0 (KeepBut w w1 g none) := ⟨KeepBut.trans HKV.out hk (.inl rfl)⟩; have BR1 := Aside0.mk ((hk.2 gr (blk_lt BR.out) ng1 (by simp)).trans BR.out); have BF1 := Aside0.mk ((hk.2 gf (blk_lt BF.out) ng2 (by simp)).trans BF.out); clear hi hb hk HV HBV HKV BR BF)
  obtain ⟨c0, c1, c2, c3⟩ := cell29 BF1.out
  obtain ⟨d0, d1, d2, d3⟩ := blkF4 BF1.out
  obtain ⟨p0, p1, p2, p3⟩ := cell29 BR1.out
  obtain ⟨q0, q1, q2, q3⟩ := blkF4 BR1.out
  go_wp2
  refine bodyPost_ret (results_ct rfl _ _ gr 29 #[.int .i64 5, .int .i64 0, .string ⟨#[]⟩, .bool false] (0, 0) _ rfl (by
    refine blk_put (cs := #[.int .i64 5, .int .i64 0, .string ⟨#[]⟩, .bool false]) ?_ 3 _ rfl
    refine blk_put (cs := #[.int .i64 5, .int .i64 0, .string ⟨#[]⟩, .bool false]) ?_ 2 _ rfl
    refine blk_put (cs := #[.int .i64 5, .int .i64 0, .string ⟨#[]⟩, .bool false]) ?_ 1 _ rfl
    refine blk_put (cs := #[.int .i64 0, .int .i64 0, .string ⟨#[]⟩, .bool false]) ?_ 0 _ rfl
    repeat (first | (with_reducible refine blk_far ?_ ng3 _) | (with_reducible refine blk_far ?_ ng1 _) | exact BR1.out)) Tryd.underlying29 rfl (by kernel_rfl)) rfl ?_
  refine ⟨rfl, ?_, ?_, ?_⟩
  · repeat (first | (with_reducible refine IsS60.far ?_ ng6 _) | (with_reducible refine IsS60.far ?_ ng5 _) | (with_reducible refine IsS60.set_1 (f1 := at_) ?_ _) | (with_reducible apply IsS60.drewN) | (with_reducible apply IsS60.drew) | (with_reducible exact HI1.out))
  · repeat (first | (with_reducible refine below_set ?_ (by omega)) | (with_reducible apply pw_below_drewN) | (with_reducible apply below_drew1) | (with_reducible exact HB1.out))
  · repeat (first | (with_reducible refine keep_far ?_ (show w.heap.size ≤ gr by omega) _) | (with_reducible refine keep_far ?_ (show w.heap.size ≤ gf by omega) _) | (with_reducible apply KeepBut.set_) | (with_reducible apply keep_drewN) | (with_reducible apply keep_drew) | (with_reducible exact HK1.out))
set_option maxHeartbeats 4000000 in
set_option maxRecDepth 100000 in
theorem field_none (k g : Nat) (b : List Int) (at_ : Int) (kd : Int) (w0 w : World) (hI : IsS60 w0 w g b at_) (hB : Below w0.heap.size w0 w) (b1 : (kd == 1) = false) (b2 : (kd == 2) = false) (b3 : (kd == 3) = false) (b4 : (kd == 4) = false) (b5 : (kd == 5) = false) :
    Calls Tryd.prog 48 #[.pointer (some ⟨g, 0, none⟩), .int .i64 kd] w (FieldPost w0 w g b ⟨kd, 0, ⟨#[]⟩, false⟩ 27 at_) := by
  have HI := Aside0.mk hI
  have HB := Aside0.mk hB
  clear hI hB
  have hu29 := Tryd.underlying29
  go_enter Tryd.func48, Tryd.ntmps48
  go_upto_region 2 with (fail)
  have hgl : g < w.heap.size := HI.out.lt
  obtain ⟨gr, hgr⟩ : ∃ gr, w.heap.size = gr := ⟨_, rfl⟩
  obtain ⟨gf, hgf⟩ : ∃ gf, w.heap.size + 1 = gf := ⟨_, rfl⟩
  obtain ⟨V, hV⟩ : ∃ V, ((w.alloc (Obj.cells #[.int .i64 0, .int .i64 0, .string ⟨#[]⟩, .bool false] 29)).alloc (Obj.cells #[.int .i64 kd, .int .i64 0, .string ⟨#[]⟩, .bool false] 29)) = V := ⟨_, rfl⟩
  have VB : Below w.heap.size w V := by rw [← hV]; repeat (first | exact Below.refl _ _ | apply below_alloc)
  have bR : V.heap[gr]? = some (.cells #[.int .i64 0, .int .i64 0, .string ⟨#[]⟩, .bool false] 29 (0, 0)) := by rw [← hV, ← hgr]; exact blk_alloc (blk_new w _) _
  have bF : V.heap[gf]? = some (.cells #[.int .i64 kd, .int .i64 0, .string ⟨#[]⟩, .bool false] 29 (0, 0)) := by
    have := blk_new (w.alloc (Obj.cells #[.int .i64 0, .int .i64 0, .string ⟨#[]⟩, .bool false] 29)) (Obj.cells #[.int .i64 kd, .int .i64 0, .string ⟨#[]⟩, .bool false] 29)
    rw [World.size_alloc] at this
    rw [← hV, ← hgf]; exact this
  have HV : Aside0 (IsS60 w0 V g b at_) := ⟨HI.out.below VB⟩
  have HBV : Aside0 (Below w0.heap.size w0 V) := ⟨below_step HB.out VB⟩
  have hsz : w0.heap.size ≤ w.heap.size := HB.out.size
  have HKV : Aside0 (KeepBut w V g none) := ⟨⟨VB.size, fun i hi hne _ => VB.block i hi⟩⟩
  have hgs : gr + 2 = V.heap.size := by rw [← hV, ← hgr]; simp
  rw [hV, hgf, hgr]
  have ng1 : gr ≠ g := by omega
  have ng2 : gf ≠ g := by omega
  have ng3 : gr ≠ gf := by omega
  have ng4 : gf ≠ gr := fun e => ng3 e.symm
  have ng5 : g ≠ gr := fun e => ng1 e.symm
  have ng6 : g ≠ gf := fun e => ng2 e.symm
  have BR := Aside0.mk bR
  have BF := Aside0.mk bF
  clear hV bR bF VB HI HB
  obtain ⟨c0, c1, c2, c3⟩ := cell29 BF.out
  obtain ⟨d0, d1, d2, d3⟩ := blkF4 BF.out
  obtain ⟨p0, p1, p2, p3⟩ := cell29 BR.out
  obtain ⟨q0, q1, q2, q3⟩ := blkF4 BR.out
  go_wp2
  refine bodyPost_ret (results_ct rfl _ _ gr 29 #[.int .i64 kd, .int .i64 0, .string ⟨#[]⟩, .bool false] (0, 0) _ rfl (by
    refine blk_put (cs := #[.int .i64 kd, .int .i64 0, .string ⟨#[]⟩, .bool false]) ?_ 3 _ rfl
    refine blk_put (cs := #[.int .i64 kd, .int .i64 0, .string ⟨#[]⟩, .bool false]) ?_ 2 _ rfl
    refine blk_put (cs := #[.int .i64 kd, .int .i64 0, .string ⟨#[]⟩, .bool false]) ?_ 1 _ rfl
    refine blk_put (cs := #[.int .i64 0, .int .i64 0, .string ⟨#[]⟩, .bool false]) ?_ 0 _ rfl
    repeat (first | (with_reducible refine blk_far ?_ ng3 _) | (with_reducible refine blk_far ?_ ng1 _) | exact BR.out)) Tryd.underlying29 rfl (by kernel_rfl)) rfl ?_
  refine ⟨rfl, ?_, ?_, ?_⟩
  · repeat (first | (with_reducible refine IsS60.far ?_ ng6 _) | (with_reducible refine IsS60.far ?_ ng5 _) | (with_reducible refine IsS60.set_1 (f1 := at_) ?_ _) | (with_reducible apply IsS60.drewN) | (with_reducible apply IsS60.drew) | (with_reducible exact HV.out))
  · repeat (first | (with_reducible refine below_set ?_ (by omega)) | (with_reducible apply pw_below_drewN) | (with_reducible apply below_drew1) | (with_reducible exact HBV.out))
  · repeat (first | (with_reducible refine keep_far ?_ (show w.heap.size ≤ gr by omega) _) | (with_reducible refine keep_far ?_ (show w.heap.size ≤ gf by omega) _) | (with_reducible apply KeepBut.set_) | (with_reducible apply keep_drewN) | (with_reducible apply keep_drew) | (with_reducible exact HKV.out))
set_option maxHeartbeats 4000000 in
set_option maxRecDepth 100000 in
theorem field_flagbad (k g : Nat) (b : List Int) (at_ : Int) (w0 w : World) (hI : IsS60 w0 w g b at_) (hB : Below w0.heap.size w0 w) (h0 : 0 ≤ at_) (h1 : at_ < (b.length : Int)) (hn : code_cursor_left.f b at_ 1 = some (true, at_)) (hd : decide (1 < rd b at_) = true) :
    Calls Tryd.prog 48 #[.pointer (some ⟨g, 0, none⟩), .int .i64 5] w (FieldPost w0 w g b ⟨5, 0, ⟨#[]⟩, false⟩ 10 at_) := by
  have HN := Aside0.mk hn
  clear hn
  have HI := Aside0.mk hI
  have HB := Aside0.mk hB
  clear hI hB
  have hu29 := Tryd.underlying29
  go_enter Tryd.func48, Tryd.ntmps48
  go_upto_region 2 with (fail)
  have hgl : g < w.heap.size := HI.out.lt
  obtain ⟨gr, hgr⟩ : ∃ gr, w.heap.size = gr := ⟨_, rfl⟩
  obtain ⟨gf, hgf⟩ : ∃ gf, w.heap.size + 1 = gf := ⟨_, rfl⟩
  obtain ⟨V, hV⟩ : ∃ V, ((w.alloc (Obj.cells #[.int .i64 0, .int .i64 0, .string ⟨#[]⟩, .bool false] 29)).alloc (Obj.cells #[.int .i64 5, .int .i64 0, .string ⟨#[]⟩, .bool false] 29)) = V := ⟨_, rfl⟩
  have VB : Below w.heap.size w V := by rw [← hV]; repeat (first | exact Below.refl _ _ | apply below_alloc)
  have bR : V.heap[gr]? = some (.cells #[.int .i64 0, .int .i64 0, .string ⟨#[]⟩, .bool false] 29 (0, 0)) := by rw [← hV, ← hgr]; exact blk_alloc (blk_new w _) _
  have bF : V.heap[gf]? = some (.cells #[.int .i64 5, .int .i64 0, .string ⟨#[]⟩, .bool false] 29 (0, 0)) := by
    have := blk_new (w.alloc (Obj.cells #[.int .i64 0, .int .i64 0, .string ⟨#[]⟩, .bool false] 29)) (Obj.cells #[.int .i64 5, .int .i64 0, .string ⟨#[]⟩, .bool false] 29)
    rw [World.size_alloc] at this
    rw [← hV, ← hgf]; exact this
  have HV : Aside0 (IsS60 w0 V g b at_) := ⟨HI.out.below VB⟩
  have HBV : Aside0 (Below w0.heap.size w0 V) := ⟨below_step HB.out VB⟩
  have hsz : w0.heap.size ≤ w.heap.size := HB.out.size
  have HKV : Aside0 (KeepBut w V g none) := ⟨⟨VB.size, fun i hi hne _ => VB.block i hi⟩⟩
  have hgs : gr + 2 = V.heap.size := by rw [← hV, ← hgr]; simp
  rw [hV, hgf, hgr]
  have ng1 : gr ≠ g := by omega
  have ng2 : gf ≠ g := by omega
  have ng3 : gr ≠ gf := by omega
  have ng4 : gf ≠ gr := fun e => ng3 e.symm
  have ng5 : g ≠ gr := fun e => ng1 e.symm
  have ng6 : g ≠ gf := fun e => ng2 e.symm
  have BR := Aside0.mk bR
  have BF := Aside0.mk bF
  clear hV bR bF VB HI HB
  go_upto_region 32 with (go_at_call 58; refine (code_cursor_left.calls g b at_ 1 true at_ w0 V HV.out HBV.out HN.out).mono ?_; rintro e w1 ⟨rfl, hi, hb, hk⟩; have HI1 := Aside0.mk hi; have HB1 := Aside0.mk hb; have HK1 : Aside0 (KeepBut w w1 g none) := ⟨KeepBut.trans HKV.out hk (.inl rfl)⟩; have BR1 := Aside0.mk ((hk.2 gr (blk_lt BR.out) ng1 (by simp)).trans BR.out); have BF1 := Aside0.mk ((hk.2 gf (blk_lt BF.out) ng2 (by simp)).trans BF.out); clear hi hb hk HV HBV HKV BR BF)
  obtain ⟨c0, c1, c2, c3⟩ := cell29 BF1.out
  obtain ⟨d0, d1, d2, d3⟩ := blkF4 BF1.out
  obtain ⟨p0, p1, p2, p3⟩ := cell29 BR1.out
  obtain ⟨q0, q1, q2, q3⟩ := blkF4 BR1.out
  obtain ⟨AS, cS, HG, hgz, HS, HC⟩ := HI1.out
  have hcz0 := cellS60_0 HG
  have hcz1 := cellS60_1 HG
  have hfz1 := blk_frozen HG 1
  obtain ⟨ad, e0, hx⟩ := Kd.at_int (Kd.C_below HS HB1.out) at_ h0 h1
  cases e0
  have hmx : b.length ≤ 9223372036854775807 := Kd.C_max HS
  have h0t := eq_true h0
  have h1t := eq_true h1
  go_wp2
  repeat (go_quiet (fail); try go_wp2)
  refine bodyPost_ret (results_ct rfl _ _ gr 29 #[.int .i64 5, .int .i64 0, .string ⟨#[]⟩, .bool false] (0, 0) _ rfl (by
    refine blk_put (cs := #[.int .i64 5, .int .i64 0, .string ⟨#[]⟩, .bool false]) ?_ 3 _ rfl
    refine blk_put (cs := #[.int .i64 5, .int .i64 0, .string ⟨#[]⟩, .bool false]) ?_ 2 _ rfl
    refine blk_put (cs := #[.int .i64 5, .int .i64 0, .string ⟨#[]⟩, .bool false]) ?_ 1 _ rfl
    refine blk_put (cs := #[.int .i64 0, .int .i64 0, .string ⟨#[]⟩, .bool false]) ?_ 0 _ rfl
    repeat (first | (with_reducible refine blk_far ?_ ng3 _) | (with_reducible refine blk_far ?_ ng1 _) | exact BR1.out)) Tryd.underlying29 rfl (by kernel_rfl)) rfl ?_
  refine ⟨rfl, ?_, ?_, ?_⟩
  · repeat (first | (with_reducible refine IsS60.far ?_ ng6 _) | (with_reducible refine IsS60.far ?_ ng5 _) | (with_reducible refine IsS60.set_1 (f1 := at_) ?_ _) | (with_reducible apply IsS60.drewN) | (with_reducible apply IsS60.drew) | (with_reducible exact HI1.out))
  · repeat (first | (with_reducible refine below_set ?_ (by omega)) | (with_reducible apply pw_below_drewN) | (with_reducible apply below_drew1) | (with_reducible exact HB1.out))
  · repeat (first | (with_reducible refine keep_far ?_ (show w.heap.size ≤ gr by omega) _) | (with_reducible refine keep_far ?_ (show w.heap.size ≤ gf by omega) _) | (with_reducible apply KeepBut.set_) | (with_reducible apply keep_drewN) | (with_reducible apply keep_drew) | (with_reducible exact HK1.out))
set_option maxHeartbeats 4000000 in
set_option maxRecDepth 100000 in
theorem field_flag (k g : Nat) (b : List Int) (at_ : Int) (w0 w : World) (hI : IsS60 w0 w g b at_) (hB : Below w0.heap.size w0 w) (h0 : 0 ≤ at_) (h1 : at_ < (b.length : Int)) (hn : code_cursor_left.f b at_ 1 = some (true, at_)) (hd : decide (1 < rd b at_) = false) :
    Calls Tryd.prog 48 #[.pointer (some ⟨g, 0, none⟩), .int .i64 5] w (FieldPost w0 w g b ⟨5, 0, ⟨#[]⟩, rd b at_ == 1⟩ 0 (at_ + 1)) := by
  have HN := Aside0.mk hn
  clear hn
  have HI := Aside0.mk hI
  have HB := Aside0.mk hB
  clear hI hB
  have hu29 := Tryd.underlying29
  go_enter Tryd.func48, Tryd.ntmps48
  go_upto_region 2 with (fail)
  have hgl : g < w.heap.size := HI.out.lt
  obtain ⟨gr, hgr⟩ : ∃ gr, w.heap.size = gr := ⟨_, rfl⟩
  obtain ⟨gf, hgf⟩ : ∃ gf, w.heap.size + 1 = gf := ⟨_, rfl⟩
  obtain ⟨V, hV⟩ : ∃ V, ((w.alloc (Obj.cells #[.int .i64 0, .int .i64 0, .string ⟨#[]⟩, .bool false] 29)).alloc (Obj.cells #[.int .i64 5, .int .i64 0, .string ⟨#[]⟩, .bool false] 29)) = V := ⟨_, rfl⟩
  have VB : Below w.heap.size w V := by rw [← hV]; repeat (first | exact Below.refl _ _ | apply below_alloc)
  have bR : V.heap[gr]? = some (.cells #[.int .i64 0, .int .i64 0, .string ⟨#[]⟩, .bool false] 29 (0, 0)) := by rw [← hV, ← hgr]; exact blk_alloc (blk_new w _) _
  have bF : V.heap[gf]? = some (.cells #[.int .i64 5, .int .i64 0, .string ⟨#[]⟩, .bool false] 29 (0, 0)) := by
    have := blk_new (w.alloc (Obj.cells #[.int .i64 0, .int .i64 0, .string ⟨#[]⟩, .bool false] 29)) (Obj.cells #[.int .i64 5, .int .i64 0, .string ⟨#[]⟩, .bool false] 29)
    rw [World.size_alloc] at this
    rw [← hV, ← hgf]; exact this
  have HV : Aside0 (IsS60 w0 V g b at_) := ⟨HI.out.below VB⟩
  have HBV : Aside0 (Below w0.heap.size w0 V) := ⟨below_step HB.out VB⟩
  have hsz : w0.heap.size ≤ w.heap.size := HB.out.size
  have HKV : Aside0 (KeepBut w V g none) := ⟨⟨VB.size, fun i hi hne _ => VB.block i hi⟩⟩
  have hgs : gr + 2 = V.heap.size := by rw [← hV, ← hgr]; simp
  rw [hV, hgf, hgr]
  have ng1 : gr ≠ g := by omega
  have ng2 : gf ≠ g := by omega
  have ng3 : gr ≠ gf := by omega
  have ng4 : gf ≠ gr := fun e => ng3 e.symm
  have ng5 : g ≠ gr := fun e => ng1 e.symm
  have ng6 : g ≠ gf := fun e => ng2 e.symm
  have BR := Aside0.mk bR
  have BF := Aside0.mk bF
  clear hV bR bF VB HI HB
  go_upto_region 32 with (go_at_call 58; refine (code_cursor_left.calls g b at_ 1 true at_ w0 V HV.out HBV.out HN.out).mono ?_; rintro e w1 ⟨rfl, hi, hb, hk⟩; have HI1 := Aside0.mk hi; have HB1 := Aside0.mk hb; have HK1 : Aside0 (KeepBut w w1 g none) := ⟨KeepBut.trans HKV.out hk (.inl rfl)⟩; have BR1 := Aside0.mk ((hk.2 gr (blk_lt BR.out) ng1 (by simp)).trans BR.out); have BF1 := Aside0.mk ((hk.2 gf (blk_lt BF.out) ng2 (by simp)).trans BF.out); clear hi hb hk HV HBV HKV BR BF)
  obtain ⟨c0, c1, c2, c3⟩ := cell29 BF1.out
  obtain ⟨d0, d1, d2, d3⟩ := blkF4 BF1.out
  obtain ⟨p0, p1, p2, p3⟩ := cell29 BR1.out
  obtain ⟨q0, q1, q2, q3⟩ := blkF4 BR1.out
  obtain ⟨AS, cS, HG, hgz, HS, HC⟩ := HI1.out
  have hcz0 := cellS60_0 HG
  have hcz1 := cellS60_1 HG
  have hfz1 := blk_frozen HG 1
  obtain ⟨ad, e0, hx⟩ := Kd.at_int (Kd.C_below HS HB1.out) at_ h0 h1
  cases e0
  have hmx : b.length ≤ 9223372036854775807 := Kd.C_max HS
  have h0t := eq_true h0
  have h1t := eq_true h1
  go_upto_region 32 with (fail)
  go_quiet (fail)
  go_upto_region 34 with (fail)
  clear hx hcz0 hcz1 hfz1 c0 c1 c2 c3 d0 d1 d2 d3 p0 p1 p2 p3 q0 q1 q2 q3 HG hgz HS HC h0t h1t
  generalize hwq : w1.drewN _ = wq
  have HIq : Aside0 (IsS60 w0 wq g b at_) := ⟨by rw [← hwq]; exact IsS60.drewN HI1.out _⟩
  have HBq : Aside0 (Below w0.heap.size w0 wq) := ⟨by rw [← hwq]; exact pw_below_drewN HB1.out _⟩
  have HKq : Aside0 (KeepBut w wq g none) := ⟨by rw [← hwq]; exact keep_drewN HK1.out _⟩
  have BRq : Aside0 (wq.heap[gr]? = some (.cells #[.int .i64 0, .int .i64 0, .string ⟨#[]⟩, .bool false] 29 (0, 0))) := ⟨by rw [← hwq]; exact BR1.out⟩
  have BFq : Aside0 (wq.heap[gf]? = some (.cells #[.int .i64 5, .int .i64 0, .string ⟨#[]⟩, .bool false] 29 (0, 0))) := ⟨by rw [← hwq]; exact BF1.out⟩
  clear hwq HI1 HB1 HK1 BR1 BF1
  obtain ⟨c0, c1, c2, c3⟩ := cell29 BFq.out
  obtain ⟨d0, d1, d2, d3⟩ := blkF4 BFq.out
  obtain ⟨p0, p1, p2, p3⟩ := cell29 BRq.out
  obtain ⟨q0, q1, q2, q3⟩ := blkF4 BRq.out
  obtain ⟨AS, cS, HG, hgz, HS, HC⟩ := HIq.out
  have hcz0 := cellS60_0 HG
  have hcz1 := cellS60_1 HG
  have hfz1 := blk_frozen HG 1
  obtain ⟨ad, e0, hx⟩ := Kd.at_int (Kd.C_below HS HBq.out) at_ h0 h1
  cases e0
  have h0t := eq_true h0
  have h1t := eq_true h1
  go_region
  go_wp2
  refine bodyPost_ret (results_ct rfl _ _ gr 29 #[.int .i64 5, .int .i64 0, .string ⟨#[]⟩, .bool (rd b at_ == 1)] (0, 0) _ rfl (by
    refine blk_drewn ?_
    refine blk_put (cs := #[.int .i64 5, .int .i64 0, .string ⟨#[]⟩, .bool false]) ?_ 3 _ rfl
    refine blk_put (cs := #[.int .i64 5, .int .i64 0, .string ⟨#[]⟩, .bool false]) ?_ 2 _ rfl
    refine blk_put (cs := #[.int .i64 5, .int .i64 0, .string ⟨#[]⟩, .bool false]) ?_ 1 _ rfl
    refine blk_put (cs := #[.int .i64 0, .int .i64 0, .string ⟨#[]⟩, .bool false]) ?_ 0 _ rfl
    repeat (first | (with_reducible refine blk_far ?_ ng3 _) | (with_reducible refine blk_far ?_ ng1 _) | exact BRq.out)) Tryd.underlying29 rfl (by kernel_rfl)) rfl ?_
  refine ⟨rfl, ?_, ?_, ?_⟩
  · repeat (first | (with_reducible refine IsS60.far ?_ ng6 _) | (with_reducible refine IsS60.far ?_ ng5 _) | (with_reducible refine IsS60.set_1 (f1 := at_) ?_ _) | (with_reducible apply IsS60.drewN) | (with_reducible apply IsS60.drew) | (with_reducible exact HIq.out))
  · repeat (first | (with_reducible refine below_set ?_ (by omega)) | (with_reducible apply pw_below_drewN) | (with_reducible apply below_drew1) | (with_reducible exact HBq.out))
  · repeat (first | (with_reducible refine keep_far ?_ (show w.heap.size ≤ gr by omega) _) | (with_reducible refine keep_far ?_ (show w.heap.size ≤ gf by omega) _) | (with_reducible apply KeepBut.set_) | (with_reducible apply keep_drewN) | (with_reducible apply keep_drew) | (with_reducible exact HKq.out))
set_option maxHeartbeats 4000000 in
set_option maxRecDepth 100000 in
theorem field_word (k g : Nat) (b : List Int) (at_ : Int) (w0 w : World) (hI : IsS60 w0 w g b at_) (hB : Below w0.heap.size w0 w) (h0 : 0 ≤ at_) (h1 : at_ + 4 ≤ (b.length : Int)) (hn : code_cursor_left.f b at_ 4 = some (true, at_)) :
    Calls Tryd.prog 48 #[.pointer (some ⟨g, 0, none⟩), .int .i64 3] w (FieldPost w0 w g b ⟨3, wordAt b at_ 4, ⟨#[]⟩, false⟩ 0 (at_ + 4)) := by
  have HN := Aside0.mk hn
  clear hn
  have HI := Aside0.mk hI
  have HB := Aside0.mk hB
  clear hI hB
  have hu29 := Tryd.underlying29
  go_enter Tryd.func48, Tryd.ntmps48
  go_upto_region 2 with (fail)
  have hgl : g < w.heap.size := HI.out.lt
  obtain ⟨gr, hgr⟩ : ∃ gr, w.heap.size = gr := ⟨_, rfl⟩
  obtain ⟨gf, hgf⟩ : ∃ gf, w.heap.size + 1 = gf := ⟨_, rfl⟩
  obtain ⟨V, hV⟩ : ∃ V, ((w.alloc (Obj.cells #[.int .i64 0, .int .i64 0, .string ⟨#[]⟩, .bool false] 29)).alloc (Obj.cells #[.int .i64 3, .int .i64 0, .string ⟨#[]⟩, .bool false] 29)) = V := ⟨_, rfl⟩
  have VB : Below w.heap.size w V := by rw [← hV]; repeat (first | exact Below.refl _ _ | apply below_alloc)
  have bR : V.heap[gr]? = some (.cells #[.int .i64 0, .int .i64 0, .string ⟨#[]⟩, .bool false] 29 (0, 0)) := by rw [← hV, ← hgr]; exact blk_alloc (blk_new w _) _
  have bF : V.heap[gf]? = some (.cells #[.int .i64 3, .int .i64 0, .string ⟨#[]⟩, .bool false] 29 (0, 0)) := by
    have := blk_new (w.alloc (Obj.cells #[.int .i64 0, .int .i64 0, .string ⟨#[]⟩, .bool false] 29)) (Obj.cells #[.int .i64 3, .int .i64 0, .string ⟨#[]⟩, .bool false] 29)
    rw [World.size_alloc] at this
    rw [← hV, ← hgf]; exact this
  have HV : Aside0 (IsS60 w0 V g b at_) := ⟨HI.out.below VB⟩
  have HBV : Aside0 (Below w0.heap.size w0 V) := ⟨below_step HB.out VB⟩
  have hsz : w0.heap.size ≤ w.heap.size := HB.out.size
  have HKV : Aside0 (KeepBut w V g none) := ⟨⟨VB.size, fun i hi hne _ => VB.block i hi⟩⟩
  have hgs : gr + 2 = V.heap.size := by rw [← hV, ← hgr]; simp
  rw [hV, hgf, hgr]
  have ng1 : gr ≠ g := by omega
  have ng2 : gf ≠ g := by omega
  have ng3 : gr ≠ gf := by omega
  have ng4 : gf ≠ gr := fun e => ng3 e.symm
  have ng5 : g ≠ gr := fun e => ng1 e.symm
  have ng6 : g ≠ gf := fun e => ng2 e.symm
  have BR := Aside0.mk bR
  have BF := Aside0.mk bF
  clear hV bR bF VB HI HB
  go_upto_region 15 with (go_at_call 58; refine (code_cursor_left.calls g b at_ 4 true at_ w0 V HV.out HBV.out HN.out).mono ?_; rintro e w1 ⟨rfl, hi, hb, hk⟩; have HI1 := Aside0.mk hi; have HB1 := Aside0.mk hb; have HK1 : Aside0 (KeepBut w w1 g none) := ⟨KeepBut.trans HKV.out hk (.inl rfl)⟩; have BR1 := Aside0.mk ((hk.2 gr (blk_lt BR.out) ng1 (by simp)).trans BR.out); have BF1 := Aside0.mk ((hk.2 gf (blk_lt BF.out) ng2 (by simp)).trans BF.out); clear hi hb hk HV HBV HKV BR BF)
  have hmx : b.length ≤ 9223372036854775807 := by obtain ⟨AS, cS, HG, hgz, HS, HC⟩ := HI1.out; exact Kd.C_max HS
  go_wp2
  go_loopw [54] (fun v54 wr => ∃ i : Nat, v54 = .int .i64 (i : Int) ∧ i ≤ 4 ∧ Aside0 (IsS60 w0 wr g b at_) ∧ Aside0 (Below w0.heap.size w0 wr) ∧ Aside0 (KeepBut w wr g none) ∧ Aside0 (wr.heap[gf]? = some (.cells #[.int .i64 3, .int .i64 (wordAt b at_ i), .string ⟨#[]⟩, .bool false] 29 (0, 0))) ∧ Aside0 (wr.heap[gr]? = some (.cells #[.int .i64 0, .int .i64 0, .string ⟨#[]⟩, .bool false] 29 (0, 0))))
    (fun i _ => 4 - (intOf i).toNat)
  case atStart => exact ⟨0, rfl, by omega, HI1, HB1, HK1, BF1, BR1⟩
  case round =>
    clear HI1 HB1 HK1 BF1 BR1
    obtain ⟨i, rfl, hi4, HI1, HB1, HK1, BF1, BR1⟩ := hrel
    obtain ⟨c0, c1, c2, c3⟩ := cell29 BF1.out
    obtain ⟨d0, d1, d2, d3⟩ := blkF4 BF1.out
    obtain ⟨p0, p1, p2, p3⟩ := cell29 BR1.out
    obtain ⟨q0, q1, q2, q3⟩ := blkF4 BR1.out
    obtain ⟨AS, cS, HG, hgz, HS, HC⟩ := HI1.out
    have hcz0 := cellS60_0 HG
    have hcz1 := cellS60_1 HG
    have hfz1 := blk_frozen HG 1
    by_cases hlt : i < 4
    · have hltb : decide ((i : Int) < 4) = true := decide_eq_true (by omega)
      have ha : wrap64 (at_ + (i : Int)) = at_ + (i : Int) := by unfold wrap64; omega
      obtain ⟨ad, e0, hx⟩ := Kd.at_int (Kd.C_below HS HB1.out) (at_ + (i : Int)) (by omega) (by omega)
      cases e0
      have h0t := eq_true (show 0 ≤ at_ + (i : Int) by omega)
      have h1t := eq_true (show at_ + (i : Int) < (b.length : Int) by omega)
      have h8 : wrap64 (8 * (i : Int)) = 8 * (i : Int) := by unfold wrap64; omega
      have hct : wr.cell? (ad.add (at_ + (i : Int)).toNat) = some (.int .u8 (rd b (at_ + (i : Int)))) := by simpa using hx
      have ng3' : gr ≠ gf := ng3
      go_upto_region 18 with (fail)
      go_region
      go_wp2
      go_roundw
      case rel => exact ⟨i + 1, by simp, by omega, ⟨IsS60.far HI1.out ng6 _⟩, ⟨below_drew1 (below_set HB1.out (by omega))⟩, ⟨keep_far HK1.out (show w.heap.size ≤ gf by omega) _⟩, ⟨blk_put BF1.out 1 _ rfl⟩, ⟨blk_far BR1.out ng3' _⟩⟩
      case measure => simp [intOf]; omega
    · obtain rfl : i = 4 := by omega
      go_wp2
      refine bodyPost_ret (results_ct rfl _ _ gr 29 #[.int .i64 3, .int .i64 (wordAt b at_ 4), .string ⟨#[]⟩, .bool false] (0, 0) _ rfl (by
        refine blk_put (cs := #[.int .i64 3, .int .i64 (wordAt b at_ 4), .string ⟨#[]⟩, .bool false]) ?_ 3 _ rfl
        refine blk_put (cs := #[.int .i64 3, .int .i64 (wordAt b at_ 4), .string ⟨#[]⟩, .bool false]) ?_ 2 _ rfl
        refine blk_put (cs := #[.int .i64 3, .int .i64 0, .string ⟨#[]⟩, .bool false]) ?_ 1 _ rfl
        refine blk_put (cs := #[.int .i64 0, .int .i64 0, .string ⟨#[]⟩, .bool false]) ?_ 0 _ rfl
        repeat (first | (with_reducible refine blk_far ?_ ng3 _) | (with_reducible refine blk_far ?_ ng1 _) | exact BR1.out)) Tryd.underlying29 rfl (by kernel_rfl)) rfl ?_
      refine ⟨rfl, ?_, ?_, ?_⟩
      · repeat (first | (with_reducible refine IsS60.far ?_ ng6 _) | (with_reducible refine IsS60.far ?_ ng5 _) | (with_reducible refine IsS60.set_1 (f1 := at_) ?_ _) | (with_reducible apply IsS60.drewN) | (with_reducible apply IsS60.drew) | (with_reducible exact HI1.out))
      · repeat (first | (with_reducible refine below_set ?_ (by omega)) | (with_reducible apply pw_below_drewN) | (with_reducible apply below_drew1) | (with_reducible exact HB1.out))
      · repeat (first | (with_reducible refine keep_far ?_ (show w.heap.size ≤ gr by omega) _) | (with_reducible refine keep_far ?_ (show w.heap.size ≤ gf by omega) _) | (with_reducible apply KeepBut.set_) | (with_reducible apply keep_drewN) | (with_reducible apply keep_drew) | (with_reducible exact HK1.out))
set_option maxHeartbeats 4000000 in
set_option maxRecDepth 100000 in
theorem field_texterr (k g : Nat) (b : List Int) (at_ : Int) (x e1 a1 : Int) (w0 w : World) (hI : IsS60 w0 w g b at_) (hB : Below w0.heap.size w0 w) (hn : code_cursor_number.f k b at_ 9223372036854775807 = some (x, e1, a1)) (he : (e1 != 0) = true) :
    Calls Tryd.prog 48 #[.pointer (some ⟨g, 0, none⟩), .int .i64 4] w (FieldPost w0 w g b ⟨4, 0, ⟨#[]⟩, false⟩ e1 a1) := by
  have HN := Aside0.mk hn
  clear hn
  have HI := Aside0.mk hI
  have HB := Aside0.mk hB
  clear hI hB
  have hu29 := Tryd.underlying29
  go_enter Tryd.func48, Tryd.ntmps48
  go_upto_region 2 with (fail)
  have hgl : g < w.heap.size := HI.out.lt
  obtain ⟨gr, hgr⟩ : ∃ gr, w.heap.size = gr := ⟨_, rfl⟩
  obtain ⟨gf, hgf⟩ : ∃ gf, w.heap.size + 1 = gf := ⟨_, rfl⟩
  obtain ⟨V, hV⟩ : ∃ V, ((w.alloc (Obj.cells #[.int .i64 0, .int .i64 0, .string ⟨#[]⟩, .bool false] 29)).alloc (Obj.cells #[.int .i64 4, .int .i64 0, .string ⟨#[]⟩, .bool false] 29)) = V := ⟨_, rfl⟩
  have VB : Below w.heap.size w V := by rw [← hV]; repeat (first | exact Below.refl _ _ | apply below_alloc)
  have bR : V.heap[gr]? = some (.cells #[.int .i64 0, .int .i64 0, .string ⟨#[]⟩, .bool false] 29 (0, 0)) := by rw [← hV, ← hgr]; exact blk_alloc (blk_new w _) _
  have bF : V.heap[gf]? = some (.cells #[.int .i64 4, .int .i64 0, .string ⟨#[]⟩, .bool false] 29 (0, 0)) := by
    have := blk_new (w.alloc (Obj.cells #[.int .i64 0, .int .i64 0, .string ⟨#[]⟩, .bool false] 29)) (Obj.cells #[.int .i64 4, .int .i64 0, .string ⟨#[]⟩, .bool false] 29)
    rw [World.size_alloc] at this
    rw [← hV, ← hgf]; exact this
  have HV : Aside0 (IsS60 w0 V g b at_) := ⟨HI.out.below VB⟩
  have HBV : Aside0 (Below w0.heap.size w0 V) := ⟨below_step HB.out VB⟩
  have hsz : w0.heap.size ≤ w.heap.size := HB.out.size
  have HKV : Aside0 (KeepBut w V g none) := ⟨⟨VB.size, fun i hi hne _ => VB.block i hi⟩⟩
  have hgs : gr + 2 = V.heap.size := by rw [← hV, ← hgr]; simp
  rw [hV, hgf, hgr]
  have ng1 : gr ≠ g := by omega
  have ng2 : gf ≠ g := by omega
  have ng3 : gr ≠ gf := by omega
  have ng4 : gf ≠ gr := fun e => ng3 e.symm
  have ng5 : g ≠ gr := fun e => ng1 e.symm
  have ng6 : g ≠ gf := fun e => ng2 e.symm
  have BR := Aside0.mk bR
  have BF := Aside0.mk bF
  clear hV bR bF VB HI HB
  go_upto_region 24 with (go_at_call 57; refine (code_cursor_number.calls k g b at_ 9223372036854775807 x e1 a1 w0 V HV.out HBV.out HN.out).mono ?_; rintro e w1 ⟨rfl, hi, hb, hk⟩; have HI1 := Aside0.mk hi; have HB1 := Aside0.mk hb; have HK1 : Aside0 (KeepBut w w1 g none) := ⟨KeepBut.trans HKV.out hk (.inl rfl)⟩; have BR1 := Aside0.mk ((hk.2 gr (blk_lt BR.out) ng1 (by simp)).trans BR.out); have BF1 := Aside0.mk ((hk.2 gf (blk_lt BF.out) ng2 (by simp)).trans BF.out); clear hi hb hk HV HBV HKV BR BF)
  obtain ⟨c0, c1, c2, c3⟩ := cell29 BF1.out
  obtain ⟨d0, d1, d2, d3⟩ := blkF4 BF1.out
  obtain ⟨p0, p1, p2, p3⟩ := cell29 BR1.out
  obtain ⟨q0, q1, q2, q3⟩ := blkF4 BR1.out
  go_wp2
  refine bodyPost_ret (results_ct rfl _ _ gr 29 #[.int .i64 4, .int .i64 0, .string ⟨#[]⟩, .bool false] (0, 0) _ rfl (by
    refine blk_put (cs := #[.int .i64 4, .int .i64 0, .string ⟨#[]⟩, .bool false]) ?_ 3 _ rfl
    refine blk_put (cs := #[.int .i64 4, .int .i64 0, .string ⟨#[]⟩, .bool false]) ?_ 2 _ rfl
    refine blk_put (cs := #[.int .i64 4, .int .i64 0, .string ⟨#[]⟩, .bool false]) ?_ 1 _ rfl
    refine blk_put (cs := #[.int .i64 0, .int .i64 0, .string ⟨#[]⟩, .bool false]) ?_ 0 _ rfl
    repeat (first | (with_reducible refine blk_far ?_ ng3 _) | (with_reducible refine blk_far ?_ ng1 _) | exact BR1.out)) Tryd.underlying29 rfl (by kernel_rfl)) rfl ?_
  refine ⟨rfl, ?_, ?_, ?_⟩
  · repeat (first | (with_reducible refine IsS60.far ?_ ng6 _) | (with_reducible refine IsS60.far ?_ ng5 _) | (with_reducible refine IsS60.set_1 (f1 := at_) ?_ _) | (with_reducible apply IsS60.drewN) | (with_reducible apply IsS60.drew) | (with_reducible exact HI1.out))
  · repeat (first | (with_reducible refine below_set ?_ (by omega)) | (with_reducible apply pw_below_drewN) | (with_reducible apply below_drew1) | (with_reducible exact HB1.out))
  · repeat (first | (with_reducible refine keep_far ?_ (show w.heap.size ≤ gr by omega) _) | (with_reducible refine keep_far ?_ (show w.heap.size ≤ gf by omega) _) | (with_reducible apply KeepBut.set_) | (with_reducible apply keep_drewN) | (with_reducible apply keep_drew) | (with_reducible exact HK1.out))
set_option maxHeartbeats 4000000 in
set_option maxRecDepth 100000 in
theorem field_textshort (k g : Nat) (b : List Int) (at_ : Int) (x a1 : Int) (w0 w : World) (hI : IsS60 w0 w g b at_) (hB : Below w0.heap.size w0 w) (hn : code_cursor_number.f k b at_ 9223372036854775807 = some (x, 0, a1)) (ha0 : 0 ≤ a1) (ha1 : a1 ≤ (b.length : Int)) (hx0 : 0 ≤ x) (hx1 : x ≤ 9223372036854775807) (hl : (b.length : Int) < a1 + x) :
    Calls Tryd.prog 48 #[.pointer (some ⟨g, 0, none⟩), .int .i64 4] w (FieldPost w0 w g b ⟨4, 0, ⟨#[]⟩, false⟩ 11 a1) := by
  have HN := Aside0.mk hn
  clear hn
  have HI := Aside0.mk hI
  have HB := Aside0.mk hB
  clear hI hB
  have hu29 := Tryd.underlying29
  go_enter Tryd.func48, Tryd.ntmps48
  go_upto_region 2 with (fail)
  have hgl : g < w.heap.size := HI.out.lt
  obtain ⟨gr, hgr⟩ : ∃ gr, w.heap.size = gr := ⟨_, rfl⟩
  obtain ⟨gf, hgf⟩ : ∃ gf, w.heap.size + 1 = gf := ⟨_, rfl⟩
  obtain ⟨V, hV⟩ : ∃ V, ((w.alloc (Obj.cells #[.int .i64 0, .int .i64 0, .string ⟨#[]⟩, .bool false] 29)).alloc (Obj.cells #[.int .i64 4, .int .i64 0, .string ⟨#[]⟩, .bool false] 29)) = V := ⟨_, rfl⟩
  have VB : Below w.heap.size w V := by rw [← hV]; repeat (first | exact Below.refl _ _ | apply below_alloc)
  have bR : V.heap[gr]? = some (.cells #[.int .i64 0, .int .i64 0, .string ⟨#[]⟩, .bool false] 29 (0, 0)) := by rw [← hV, ← hgr]; exact blk_alloc (blk_new w _) _
  have bF : V.heap[gf]? = some (.cells #[.int .i64 4, .int .i64 0, .string ⟨#[]⟩, .bool false] 29 (0, 0)) := by
    have := blk_new (w.alloc (Obj.cells #[.int .i64 0, .int .i64 0, .string ⟨#[]⟩, .bool false] 29)) (Obj.cells #[.int .i64 4, .int .i64 0, .string ⟨#[]⟩, .bool false] 29)
    rw [World.size_alloc] at this
    rw [← hV, ← hgf]; exact this
  have HV : Aside0 (IsS60 w0 V g b at_) := ⟨HI.out.below VB⟩
  have HBV : Aside0 (Below w0.heap.size w0 V) := ⟨below_step HB.out VB⟩
  have hsz : w0.heap.size ≤ w.heap.size := HB.out.size
  have HKV : Aside0 (KeepBut w V g none) := ⟨⟨VB.size, fun i hi hne _ => VB.block i hi⟩⟩
  have hgs : gr + 2 = V.heap.size := by rw [← hV, ← hgr]; simp
  rw [hV, hgf, hgr]
  have ng1 : gr ≠ g := by omega
  have ng2 : gf ≠ g := by omega
  have ng3 : gr ≠ gf := by omega
  have ng4 : gf ≠ gr := fun e => ng3 e.symm
  have ng5 : g ≠ gr := fun e => ng1 e.symm
  have ng6 : g ≠ gf := fun e => ng2 e.symm
  have BR := Aside0.mk bR
  have BF := Aside0.mk bF
  clear hV bR bF VB HI HB
  go_upto_region 25 with (go_at_call 57; refine (code_cursor_number.calls k g b at_ 9223372036854775807 x 0 a1 w0 V HV.out HBV.out HN.out).mono ?_; rintro e w1 ⟨rfl, hi, hb, hk⟩; have HI1 := Aside0.mk hi; have HB1 := Aside0.mk hb; have HK1 : Aside0 (KeepBut w w1 g none) := ⟨KeepBut.trans HKV.out hk (.inl rfl)⟩; have BR1 := Aside0.mk ((hk.2 gr (blk_lt BR.out) ng1 (by simp)).trans BR.out); have BF1 := Aside0.mk ((hk.2 gf (blk_lt BF.out) ng2 (by simp)).trans BF.out); clear hi hb hk HV HBV HKV BR BF)
  obtain ⟨c0, c1, c2, c3⟩ := cell29 BF1.out
  obtain ⟨d0, d1, d2, d3⟩ := blkF4 BF1.out
  obtain ⟨p0, p1, p2, p3⟩ := cell29 BR1.out
  obtain ⟨q0, q1, q2, q3⟩ := blkF4 BR1.out
  obtain ⟨AS, cS, HG, hgz, HS, HC⟩ := HI1.out
  have hcz0 := cellS60_0 HG
  have hcz1 := cellS60_1 HG
  have hfz1 := blk_frozen HG 1
  have hmx : b.length ≤ 9223372036854775807 := Kd.C_max HS
  have hd1 : decide ((b.length : Int) - a1 < x) = true := decide_eq_true (by omega)
  have hd2 : wrap64 ((b.length : Int) - a1) = (b.length : Int) - a1 := by unfold wrap64; omega
  have hd3 : IntKind.u64.wrap ((b.length : Int) - a1) = (b.length : Int) - a1 := by rw [IntKind.wrap_u64]; omega
  go_quiet (fail)
  go_wp2
  refine bodyPost_ret (results_ct rfl _ _ gr 29 #[.int .i64 4, .int .i64 0, .string ⟨#[]⟩, .bool false] (0, 0) _ rfl (by
    refine blk_put (cs := #[.int .i64 4, .int .i64 0, .string ⟨#[]⟩, .bool false]) ?_ 3 _ rfl
    refine blk_put (cs := #[.int .i64 4, .int .i64 0, .string ⟨#[]⟩, .bool false]) ?_ 2 _ rfl
    refine blk_put (cs := #[.int .i64 4, .int .i64 0, .string ⟨#[]⟩, .bool false]) ?_ 1 _ rfl
    refine blk_put (cs := #[.int .i64 0, .int .i64 0, .string ⟨#[]⟩, .bool false]) ?_ 0 _ rfl
    repeat (first | (with_reducible refine blk_far ?_ ng3 _) | (with_reducible refine blk_far ?_ ng1 _) | exact BR1.out)) Tryd.underlying29 rfl (by kernel_rfl)) rfl ?_
  refine ⟨rfl, ?_, ?_, ?_⟩
  · repeat (first | (with_reducible refine IsS60.far ?_ ng6 _) | (with_reducible refine IsS60.far ?_ ng5 _) | (with_reducible refine IsS60.set_1 (f1 := at_) ?_ _) | (with_reducible apply IsS60.drewN) | (with_reducible apply IsS60.drew) | (with_reducible exact HI1.out))
  · repeat (first | (with_reducible refine below_set ?_ (by omega)) | (with_reducible apply pw_below_drewN) | (with_reducible apply below_drew1) | (with_reducible exact HB1.out))
  · repeat (first | (with_reducible refine keep_far ?_ (show w.heap.size ≤ gr by omega) _) | (with_reducible refine keep_far ?_ (show w.heap.size ≤ gf by omega) _) | (with_reducible apply KeepBut.set_) | (with_reducible apply keep_drewN) | (with_reducible apply keep_drew) | (with_reducible exact HK1.out))
set_option maxHeartbeats 4000000 in
set_option maxRecDepth 100000 in
theorem field_text (k g : Nat) (b : List Int) (at_ : Int) (x a1 : Int) (w0 w : World) (hI : IsS60 w0 w g b at_) (hB : Below w0.heap.size w0 w) (hn : code_cursor_number.f k b at_ 9223372036854775807 = some (x, 0, a1)) (ha0 : 0 ≤ a1) (ha1 : a1 ≤ (b.length : Int)) (hx0 : 0 ≤ x) (hx1 : x ≤ 9223372036854775807) (hl : a1 + x ≤ (b.length : Int)) :
    Calls Tryd.prog 48 #[.pointer (some ⟨g, 0, none⟩), .int .i64 4] w (FieldPost w0 w g b ⟨4, 0, strOfNums ((b.take (a1 + x).toNat).drop a1.toNat), false⟩ 0 (a1 + x)) := by
  have HN := Aside0.mk hn
  clear hn
  have HI := Aside0.mk hI
  have HB := Aside0.mk hB
  clear hI hB
  have hu29 := Tryd.underlying29
  go_enter Tryd.func48, Tryd.ntmps48
  go_upto_region 2 with (fail)
  have hgl : g < w.heap.size := HI.out.lt
  obtain ⟨gr, hgr⟩ : ∃ gr, w.heap.size = gr := ⟨_, rfl⟩
  obtain ⟨gf, hgf⟩ : ∃ gf, w.heap.size + 1 = gf := ⟨_, rfl⟩
  obtain ⟨V, hV⟩ : ∃ V, ((w.alloc (Obj.cells #[.int .i64 0, .int .i64 0, .string ⟨#[]⟩, .bool false] 29)).alloc (Obj.cells #[.int .i64 4, .int .i64 0, .string ⟨#[]⟩, .bool false] 29)) = V := ⟨_, rfl⟩
  have VB : Below w.heap.size w V := by rw [← hV]; repeat (first | exact Below.refl _ _ | apply below_alloc)
  have bR : V.heap[gr]? = some (.cells #[.int .i64 0, .int .i64 0, .string ⟨#[]⟩, .bool false] 29 (0, 0)) := by rw [← hV, ← hgr]; exact blk_alloc (blk_new w _) _
  have bF : V.heap[gf]? = some (.cells #[.int .i64 4, .int .i64 0, .string ⟨#[]⟩, .bool false] 29 (0, 0)) := by
    have := blk_new (w.alloc (Obj.cells #[.int .i64 0, .int .i64 0, .string ⟨#[]⟩, .bool false] 29)) (Obj.cells #[.int .i64 4, .int .i64 0, .string ⟨#[]⟩, .bool false] 29)
    rw [World.size_alloc] at this
    rw [← hV, ← hgf]; exact this
  have HV : Aside0 (IsS60 w0 V g b at_) := ⟨HI.out.below VB⟩
  have HBV : Aside0 (Below w0.heap.size w0 V) := ⟨below_step HB.out VB⟩
  have hsz : w0.heap.size ≤ w.heap.size := HB.out.size
  have HKV : Aside0 (KeepBut w V g none) := ⟨⟨VB.size, fun i hi hne _ => VB.block i hi⟩⟩
  have hgs : gr + 2 = V.heap.size := by rw [← hV, ← hgr]; simp
  rw [hV, hgf, hgr]
  have ng1 : gr ≠ g := by omega
  have ng2 : gf ≠ g := by omega
  have ng3 : gr ≠ gf := by omega
  have ng4 : gf ≠ gr := fun e => ng3 e.symm
  have ng5 : g ≠ gr := fun e => ng1 e.symm
  have ng6 : g ≠ gf := fun e => ng2 e.symm
  have BR := Aside0.mk bR
  have BF := Aside0.mk bF
  clear hV bR bF VB HI HB
  go_upto_region 25 with (go_at_call 57; refine (code_cursor_number.calls k g b at_ 9223372036854775807 x 0 a1 w0 V HV.out HBV.out HN.out).mono ?_; rintro e w1 ⟨rfl, hi, hb, hk⟩; have HI1 := Aside0.mk hi; have HB1 := Aside0.mk hb; have HK1 : Aside0 (KeepBut w w1 g none) := ⟨KeepBut.trans HKV.out hk (.inl rfl)⟩; have BR1 := Aside0.mk ((hk.2 gr (blk_lt BR.out) ng1 (by simp)).trans BR.out); have BF1 := Aside0.mk ((hk.2 gf (blk_lt BF.out) ng2 (by simp)).trans BF.out); clear hi hb hk HV HBV HKV BR BF)
  obtain ⟨c0, c1, c2, c3⟩ := cell29 BF1.out
  obtain ⟨d0, d1, d2, d3⟩ := blkF4 BF1.out
  obtain ⟨p0, p1, p2, p3⟩ := cell29 BR1.out
  obtain ⟨q0, q1, q2, q3⟩ := blkF4 BR1.out
  obtain ⟨AS, cS, HG, hgz, HS, HC⟩ := HI1.out
  have hcz0 := cellS60_0 HG
  have hcz1 := cellS60_1 HG
  have hfz1 := blk_frozen HG 1
  have hmx : b.length ≤ 9223372036854775807 := Kd.C_max HS
  have hd1 : decide ((b.length : Int) - a1 < x) = false := decide_eq_false (by omega)
  have hd2 : wrap64 ((b.length : Int) - a1) = (b.length : Int) - a1 := by unfold wrap64; omega
  have hd3 : IntKind.u64.wrap ((b.length : Int) - a1) = (b.length : Int) - a1 := by rw [IntKind.wrap_u64]; omega
  go_quiet (fail)
  go_upto_region 27 with (fail)
  clear hcz0 hcz1 hfz1 c0 c1 c2 c3 d0 d1 d2 d3 p0 p1 p2 p3 q0 q1 q2 q3 HG hgz HS HC
  generalize hwq : w1.drewN _ = wq
  have HIq : Aside0 (IsS60 w0 wq g b a1) := ⟨by rw [← hwq]; exact IsS60.drewN HI1.out _⟩
  have HBq : Aside0 (Below w0.heap.size w0 wq) := ⟨by rw [← hwq]; exact pw_below_drewN HB1.out _⟩
  have HKq : Aside0 (KeepBut w wq g none) := ⟨by rw [← hwq]; exact keep_drewN HK1.out _⟩
  have BRq : Aside0 (wq.heap[gr]? = some (.cells #[.int .i64 0, .int .i64 0, .string ⟨#[]⟩, .bool false] 29 (0, 0))) := ⟨by rw [← hwq]; exact BR1.out⟩
  have BFq : Aside0 (wq.heap[gf]? = some (.cells #[.int .i64 4, .int .i64 0, .string ⟨#[]⟩, .bool false] 29 (0, 0))) := ⟨by rw [← hwq]; exact BF1.out⟩
  clear hwq HI1 HB1 HK1 BR1 BF1
  obtain ⟨c0, c1, c2, c3⟩ := cell29 BFq.out
  obtain ⟨d0, d1, d2, d3⟩ := blkF4 BFq.out
  obtain ⟨p0, p1, p2, p3⟩ := cell29 BRq.out
  obtain ⟨q0, q1, q2, q3⟩ := blkF4 BRq.out
  obtain ⟨AS, cS, HG, hgz, HS, HC⟩ := HIq.out
  have hcz0 := cellS60_0 HG
  have hcz1 := cellS60_1 HG
  have hfz1 := blk_frozen HG 1
  obtain ⟨l1, hl1⟩ : ∃ l1, l1 = ((b.take (a1 + x).toNat).drop a1.toNat) := ⟨_, rfl⟩
  obtain ⟨A1, hA1⟩ : ∃ A1 : Option Addr, A1 = (if cS = a1.toNat then AS else (AS : Option Addr).map (·.add (a1.toNat * 1))) := ⟨_, rfl⟩
  obtain ⟨cc1, hc1⟩ : ∃ cc1, cc1 = cS - a1.toNat := ⟨_, rfl⟩
  obtain ⟨i0, hi0, _, hsz0, _⟩ := info_parts info5
  have hcut := cut_mid (P := Tryd.prog) 31 5 .i64 .i64 Tryd.underlying31 hi0 1 hsz0 AS b.length cS a1 (a1 + x) ha0 (by omega) hl HC
  have hr1 : Kd.C (Kd.int .u8) w0 A1 l1.length l1 := by
    have := Kd.C_mid (lo := a1.toNat) (hi := (a1 + x).toNat) HS (by omega) (by omega) HC
    rw [← hl1] at this
    rw [hA1]; exact this
  have hy8 : (a1 + x).toNat - a1.toNat = l1.length := by rw [hl1, List.length_drop, List.length_take]; omega
  rw [hy8, ← hA1, ← hc1] at hcut
  have hcv : (convert 31 9 (.slice A1 l1.length cc1)).run Tryd.prog wq.drew = .ok (.string (strOfNums l1)) wq.drew := Kd.C_string Tryd.underlying31 Tryd.underlying5 Tryd.underlying9 (Kd.C_drew (Kd.C_below hr1 HBq.out))
  rw [← hl1]
  have HL1 := Aside0.mk hl1
  clear hi0 hsz0 hA1 hc1 hl1 hr1 hy8 hd1 hd2 hd3 HS HC
  go_region
  go_wp2
  rw [← HL1.out]
  refine bodyPost_ret (results_ct rfl _ _ gr 29 #[.int .i64 4, .int .i64 0, .string (strOfNums l1), .bool false] (0, 0) _ rfl (by
    refine blk_drewn ?_
    refine blk_put (cs := #[.int .i64 4, .int .i64 0, .string (strOfNums l1), .bool false]) ?_ 3 _ rfl
    refine blk_put (cs := #[.int .i64 4, .int .i64 0, .string ⟨#[]⟩, .bool false]) ?_ 2 _ rfl
    refine blk_put (cs := #[.int .i64 4, .int .i64 0, .string ⟨#[]⟩, .bool false]) ?_ 1 _ rfl
    refine blk_put (cs := #[.int .i64 0, .int .i64 0, .string ⟨#[]⟩, .bool false]) ?_ 0 _ rfl
    repeat (first | (with_reducible refine blk_far ?_ ng3 _) | (with_reducible refine blk_far ?_ ng1 _) | exact BRq.out)) Tryd.underlying29 rfl (by kernel_rfl)) rfl ?_
  refine ⟨rfl, ?_, ?_, ?_⟩
  · repeat (first | (with_reducible refine IsS60.far ?_ ng6 _) | (with_reducible refine IsS60.far ?_ ng5 _) | (with_reducible refine IsS60.set_1 (f1 := a1) ?_ _) | (with_reducible apply IsS60.drewN) | (with_reducible apply IsS60.drew) | (with_reducible exact HIq.out))
  · repeat (first | (with_reducible refine below_set ?_ (by omega)) | (with_reducible apply pw_below_drewN) | (with_reducible apply below_drew1) | (with_reducible exact HBq.out))
  · repeat (first | (with_reducible refine keep_far ?_ (show w.heap.size ≤ gr by omega) _) | (with_reducible refine keep_far ?_ (show w.heap.size ≤ gf by omega) _) | (with_reducible apply KeepBut.set_) | (with_reducible apply keep_drewN) | (with_reducible apply keep_drew) | (with_reducible exact HKq.out))
theorem left_eq (b : List Int) (at_ lim : Int) (h0 : 0 ≤ at_) (hm : b.length ≤ 9223372036854775807) (h1 : at_ ≤ (b.length : Int)) : code_cursor_left.f b at_ lim = some (decide (lim ≤ (b.length : Int) - at_), at_) := by
  unfold code_cursor_left.f
  have e : wrap64 ((b.length : Int) - at_) = (b.length : Int) - at_ := by unfold wrap64; omega
  rw [e]
theorem field_post (w0 w : World) (g : Nat) (b : List Int) {f f' : S29} {e0 e0' at1 at1' : Int} (h : some (f', e0', at1') = some (f, e0, at1)) {args : Array Value} (c : Calls Tryd.prog 48 args w (FieldPost w0 w g b f' e0' at1')) : Calls Tryd.prog 48 args w (FieldPost w0 w g b f e0 at1) := by
  simp only [Option.some.injEq, Prod.mk.injEq] at h
  obtain ⟨rfl, rfl, rfl⟩ := h
  exact c
theorem code_cursor_field.calls (k g : Nat) (b : List Int) (at_ kind : Int) (f : S29) (e0 at1 : Int) (w0 w : World) (hI : IsS60 w0 w g b at_) (hB : Below w0.heap.size w0 w) (h : code_cursor_field.f k b at_ kind = some (f, e0, at1)) :
    Calls Tryd.prog 48 #[.pointer (some ⟨g, 0, none⟩), .int .i64 kind] w fun e w' => e = .returned (.tuple #[.agg #[.int .i64 f.f0, .int .i64 f.f1, .string f.f2, .bool f.f3], .int .i64 e0]) ∧ IsS60 w0 w' g b at1 ∧ Below w0.heap.size w0 w' ∧ KeepBut w w' g none := by
  show Calls Tryd.prog 48 #[.pointer (some ⟨g, 0, none⟩), .int .i64 kind] w (FieldPost w0 w g b f e0 at1)
  unfold code_cursor_field.f at h
  by_cases hg : 0 ≤ at_ ∧ at_ ≤ (b.length : Int)
  case neg => rw [if_neg hg] at h; cases h
  rw [if_pos hg] at h
  obtain ⟨h0, h1⟩ := hg
  have hm : b.length ≤ 9223372036854775807 := by obtain ⟨AS, cS, HG, hgz, HS, HC⟩ := hI; exact Kd.C_max HS
  by_cases h1k : kind = 1
  · rw [if_pos h1k] at h
    subst h1k
    obtain ⟨⟨x, e1, a1⟩, hn, h⟩ := Option.bind_eq_some_iff.mp h
    exact field_post w0 w g b h (field_num1 k g b at_ x e1 a1 w0 w hI hB hn)
  rw [if_neg h1k] at h
  by_cases h2k : kind = 2
  · rw [if_pos h2k] at h
    subst h2k
    obtain ⟨⟨x, e1, a1⟩, hn, h⟩ := Option.bind_eq_some_iff.mp h
    exact field_post w0 w g b h (field_num2 k g b at_ x e1 a1 w0 w hI hB hn)
  rw [if_neg h2k] at h
  by_cases h3k : kind = 3
  · rw [if_pos h3k] at h
    subst h3k
    have hl := left_eq b at_ 4 h0 hm h1
    by_cases hc : at_ + 4 ≤ (b.length : Int)
    · rw [if_pos hc] at h
      rw [decide_eq_true (show 4 ≤ (b.length : Int) - at_ by omega)] at hl
      exact field_post w0 w g b h (field_word k g b at_ w0 w hI hB h0 hc hl)
    · rw [if_neg hc] at h
      rw [decide_eq_false (show ¬ 4 ≤ (b.length : Int) - at_ by omega)] at hl
      exact field_post w0 w g b h (field_left3 k g b at_ w0 w hI hB hl)
  rw [if_neg h3k] at h
  by_cases h4k : kind = 4
  · rw [if_pos h4k] at h
    subst h4k
    obtain ⟨⟨x, e1, a1⟩, hn, h⟩ := Option.bind_eq_some_iff.mp h
    simp only at h
    by_cases he : e1 = 0
    · subst he
      rw [if_pos rfl] at h
      by_cases hb : 0 ≤ a1 ∧ a1 ≤ (b.length : Int) ∧ 0 ≤ x ∧ x ≤ 9223372036854775807
      case neg => rw [if_neg hb] at h; cases h
      rw [if_pos hb] at h
      obtain ⟨b0, b1, b2, b3⟩ := hb
      by_cases hl : a1 + x > (b.length : Int)
      · rw [if_pos hl] at h
        exact field_post w0 w g b h (field_textshort k g b at_ x a1 w0 w hI hB hn b0 b1 b2 b3 hl)
      · rw [if_neg hl] at h
        exact field_post w0 w g b h (field_text k g b at_ x a1 w0 w hI hB hn b0 b1 b2 b3 (Int.not_lt.1 hl))
    · rw [if_neg he] at h
      exact field_post w0 w g b h (field_texterr k g b at_ x e1 a1 w0 w hI hB hn (bne_iff_ne.mpr he))
  rw [if_neg h4k] at h
  by_cases h5k : kind = 5
  · rw [if_pos h5k] at h
    subst h5k
    have hl := left_eq b at_ 1 h0 hm h1
    by_cases hc : at_ < (b.length : Int)
    · rw [if_pos hc] at h
      rw [decide_eq_true (show 1 ≤ (b.length : Int) - at_ by omega)] at hl
      by_cases hd : rd b at_ > 1
      · rw [if_pos hd] at h
        exact field_post w0 w g b h (field_flagbad k g b at_ w0 w hI hB h0 hc hl (decide_eq_true hd))
      · rw [if_neg hd] at h
        exact field_post w0 w g b h (field_flag k g b at_ w0 w hI hB h0 hc hl (decide_eq_false hd))
    · rw [if_neg hc] at h
      rw [decide_eq_false (show ¬ 1 ≤ (b.length : Int) - at_ by omega)] at hl
      exact field_post w0 w g b h (field_left5 k g b at_ w0 w hI hB hl)
  rw [if_neg h5k] at h
  exact field_post w0 w g b h (field_none k g b at_ kind w0 w hI hB (beq_eq_false_iff_ne.mpr h1k) (beq_eq_false_iff_ne.mpr h2k) (beq_eq_false_iff_ne.mpr h3k) (beq_eq_false_iff_ne.mpr h4k) (beq_eq_false_iff_ne.mpr h5k))
theorem code_cursor_field.mono (b : List Int) (at_ kind : Int) (k : Nat) : LeO (code_cursor_field.f k b at_ kind) (code_cursor_field.f (k + 1) b at_ kind) := by
  unfold code_cursor_field.f
  refine LeO.ite ?_ (LeO.refl _)
  refine LeO.ite (LeO.bind (code_cursor_number.mono _ _ _ _) (fun _ => LeO.refl _)) ?_
  refine LeO.ite (LeO.bind (code_cursor_number.mono _ _ _ _) (fun _ => LeO.refl _)) ?_
  refine LeO.ite (LeO.refl _) ?_
  exact LeO.ite (LeO.bind (code_cursor_number.mono _ _ _ _) (fun _ => LeO.refl _)) (LeO.refl _)
end Go.Proofs.YtcheinjlgojepaaDoor.P
namespace Go.Proofs.YtcheinjlgojepaaDoor.P
open Go.RowKit Go.Shelf Go.Proofs Go.Proofs.YtcheinjlgojepaaDoorW.PrintWords Go.Proofs.YtcheinjlgojepaaDoorW.PrintLast Go.Proofs.YtcheinjlgojepaaDoorW.PrintMore
open Go.Proofs.YtcheinjlgojepaaDoor.R
attribute [local go_sem] Oper.semAt_some
set_option linter.unusedVariables false
set_option linter.unusedSimpArgs false
def emits (k : Nat) (b : List Int) : List Int → Int → Option (List (S29 × Int) × Int)
  | [], at_ => some ([], at_)
  | kd :: ks, at_ => (code_cursor_field.f k b at_ kd).bind fun t => if t.2.1 = 0 then (emits k b ks t.2.2).map fun r => ((t.1, 0) :: r.1, r.2) else some ([(t.1, t.2.1)], t.2.2)
theorem emits.mono (b : List Int) (k : Nat) : ∀ (ks : List Int) (a : Int), LeO (emits k b ks a) (emits (k + 1) b ks a)
  | [], a => fun r h => h
  | kd :: ks, a => by
    rw [emits, emits]
    refine LeO.bind (code_cursor_field.mono b a kd k) (fun t => ?_)
    refine LeO.ite ?_ (LeO.refl _)
    intro r h
    obtain ⟨q, hq, rfl⟩ := Option.map_eq_some_iff.1 h
    exact Option.map_eq_some_iff.2 ⟨q, emits.mono b k ks _ _ hq, rfl⟩
set_option maxHeartbeats 1000000 in
theorem fields_in (F : Fence) (n : Nat) (h38 : F.fn 38) (hro : F.round = none) (g : Nat) (A : Option Addr) (m c : Nat) (w : World) :
    CallsIn F n Tryd.prog 38 #[.pointer (some ⟨g, 0, none⟩), .slice A m c] w fun e w' => e = .returned (.func (.func 47) #[] #[.pointer (some ⟨w.heap.size + 1, 0, none⟩), .pointer (some ⟨w.heap.size, 0, none⟩)]) ∧ w' = (w.alloc (.cells #[.pointer (some ⟨g, 0, none⟩)] 58)).alloc (.cells #[.slice A m c] 37) := by
  refine callsIn_of_wp Tryd.func38 rfl h38 ?_ hro
  simp only [Tryd.ntmps38, List.size_toArray, List.length_cons, List.length_nil, Nat.reduceAdd, Nat.reduceSub, Array.replicate_succ, Array.replicate_zero, List.push_toArray, List.append_toArray, List.nil_append, List.cons_append]
  gi_wp2
  go_ret
  exact ⟨rfl, rfl⟩
theorem AbD.laid {β : Type} {D : Nat → Prop} {J : β → World → Prop} (h : AbD D J) {s : β} {W : World} (o : Obj) (hJ : J s W) : J s (W.alloc o) :=
  h s W _ none hJ (World.grownBy_alloc W o none) (fun r e => by cases e)
theorem grown_of_but {N : Nat} {w0 W W' : World} {g : Nat} (h0 : Below N w0 W) (h1 : Below N w0 W') (hk : KeepBut W W' g none) : W.grownBy W' (some g) :=
  ⟨h1.os.trans h0.os.symm, h1.tape.trans h0.tape.symm, h1.output.trans h0.output.symm, hk.1, fun i hi hne => hk.2 i hi (fun e => hne (by rw [e])) (by simp)⟩
set_option maxRecDepth 100000 in
set_option maxHeartbeats 4000000 in
theorem fields_seq (n : Nat) (hn : 1 ≤ n) (B1 B2 gc : Nat) (k : Nat) (b ks : List Int) (A : Option Addr) (c : Nat) (at0 atF : Int) (T : List (S29 × Int)) (w0 w : World) (hb : Below w0.heap.size w0 w) (hks : Kd.C (Kd.int .i64) w0 A ks.length ks)
    (b1 : w.heap[B1]? = some (.cells #[.slice A ks.length c] 37 (0, 0))) (b2 : w.heap[B2]? = some (.cells #[.pointer (some ⟨gc, 0, none⟩)] 58 (0, 0))) (hI : IsS60 w0 w gc b at0) (hT : emits k b ks at0 = some (T, atF)) (n1 : gc ≠ B1) (n2 : gc ≠ B2) :
    SeqD Fence.wide n Tryd.prog 47 #[.pointer (some ⟨B1, 0, none⟩), .pointer (some ⟨B2, 0, none⟩)] (fun x : S29 × Int => #[.agg #[.int .i64 x.1.f0, .int .i64 x.1.f1, .string x.1.f2, .bool x.1.f3], .int .i64 x.2]) (fun j => j < w0.heap.size ∨ j = B1 ∨ j = B2 ∨ j = gc) (fun j => j = gc) (fun xs W => xs = T ∧ IsS60 w0 W gc b atF) (fun pre => ∃ r, pre ≠ [] ∧ pre ++ r = T) T.length w := by
  have hmx : ks.length ≤ 9223372036854775807 := Kd.C_max hks
  intro lp J Jx W hW hJ hJx hY h0
  have l1 := blk_lt b1; have l2 := blk_lt b2
  have b1' := (hW.block B1 l1).trans b1
  have b2' := (hW.block B2 l2).trans b2
  have B1f := Aside0.mk b1'
  have B2f := Aside0.mk b2'
  have HI := Aside0.mk (hI.below hW)
  have HB := Aside0.mk (below_step hb hW)
  have HT := Aside0.mk hT
  have HKS := Aside0.mk hks
  have HJ := Aside0.mk hJ
  have HJX := Aside0.mk hJx
  have HY := Aside0.mk hY
  have c1 : W.cell? ⟨B1, 0, none⟩ = some (.slice A ks.length c) := (blk_cell b1' 0).trans rfl
  clear hb hW hI hT hks b1 b2 b1' b2' l1 l2 hJ hJx hY
  refine callsIn_of_wp Tryd.func47 rfl trivial ?_ rfl
  have h48 : Fence.wide.fn 48 := trivial
  have hu29 := Tryd.underlying29
  simp only [Tryd.ntmps47, List.size_toArray, List.length_cons, List.length_nil, Nat.reduceAdd, Nat.reduceSub, Array.replicate_succ, Array.replicate_zero, List.push_toArray, List.append_toArray, List.nil_append, List.cons_append]
  gi_wp2
  clear c1
  gi_loopw [10] (fun v10 wr => ∃ (i : Nat) (at_ : Int) (pre rest : List (S29 × Int)), v10 = .int .i64 (i : Int) ∧ i ≤ ks.length ∧ Aside0 (emits k b (ks.drop i) at_ = some (rest, atF)) ∧ Aside0 (pre ++ rest = T) ∧ Aside0 (J pre wr) ∧ Aside0 (IsS60 w0 wr gc b at_) ∧ Aside0 (Below w0.heap.size w0 wr) ∧ Aside0 (wr.heap[B1]? = some (.cells #[.slice A ks.length c] 37 (0, 0))) ∧ Aside0 (wr.heap[B2]? = some (.cells #[.pointer (some ⟨gc, 0, none⟩)] 58 (0, 0))) ∧ W.heap.size ≤ wr.heap.size)
    (fun i _ => ks.length - (intOf i).toNat)
  case atStart => exact ⟨0, at0, [], T, rfl, Nat.zero_le _, ⟨by rw [List.drop_zero]; exact HT.out⟩, ⟨rfl⟩, ⟨h0⟩, HI, HB, B1f, B2f, Nat.le_refl _⟩
  case round =>
    clear h0 HI HB B1f B2f HT
    obtain ⟨i, at_, pre, rest, rfl, hik, HE, HP, HJs, HI, HB, B1f, B2f, hsz⟩ := hrel
    by_cases hlt : i < ks.length
    · have hltb : decide ((i : Int) < (ks.length : Int)) = true := decide_eq_true (by omega)
      obtain ⟨ad, e0, hx⟩ := Kd.at_int HKS.out (i : Int) (by omega) (by omega)
      cases e0
      replace hx := (HB.out.cell (World.block_lt_of_cell? w0 _ hx)).trans hx
      have hrd : rd ks (i : Int) = ks[i] := by simp [rd, hlt]
      rw [hrd, Int.toNat_natCast] at hx
      have he := HE.out
      rw [List.drop_eq_getElem_cons hlt, emits] at he
      obtain ⟨⟨f, e1, at1⟩, hf, he⟩ := Option.bind_eq_some_iff.mp he
      have HF := Aside0.mk hf
      have c2 : wr.cell? ⟨B2, 0, none⟩ = some (.pointer (some ⟨gc, 0, none⟩)) := (blk_cell B2f.out 0).trans rfl
      have hlen : pre.length < T.length := by
        rw [← HP.out, List.length_append]
        simp only at he
        split at he
        · obtain ⟨r, _, hr⟩ := Option.map_eq_some_iff.1 he
          have := congrArg Prod.fst hr
          simp only at this
          rw [← this]; simp
        · have := congrArg Prod.fst (Option.some.inj he)
          simp only at this
          rw [← this]; simp
      have HEE := Aside0.mk he
      clear hf he HE hrd
      gi_wp2_with (gi_at_call 48; refine (callsIn_wide.2 (code_cursor_field.calls k gc b at_ ks[i] f e1 at1 w0 wr HI.out HB.out HF.out)).mono ?_; rintro e w1 ⟨rfl, hi1, hb1, hk1⟩; obtain ⟨y0, y1, y2, y3⟩ := blkC4 (w1.alloc (Obj.cells #[Value.int IntKind.i64 f.f0, Value.int IntKind.i64 f.f1, Value.string f.f2, Value.bool f.f3] 29)) w1.heap.size _ _ _ _ (blk_new w1 _); have hg := grown_of_but HB.out hb1 hk1; have HJ1 := Aside0.mk (HJ.out pre wr w1 (some gc) HJs.out hg (fun r e => by cases e; rfl)); have HI1 := Aside0.mk hi1; have HB1 := Aside0.mk hb1; have B11 := Aside0.mk ((hk1.2 B1 (blk_lt B1f.out) (fun e => n1 e.symm) (by simp)).trans B1f.out); have B21 := Aside0.mk ((hk1.2 B2 (blk_lt B2f.out) (fun e => n2 e.symm) (by simp)).trans B2f.out); have hs1 : W.heap.size ≤ w1.heap.size := Nat.le_trans hsz hk1.1; clear hi1 hb1 hk1 hg; obtain ⟨fn, tmps, assign, body, hy, hR⟩ := HY.out pre (f, e1) (w1.alloc (Obj.cells #[Value.int IntKind.i64 f.f0, Value.int IntKind.i64 f.f1, Value.string f.f2, Value.bool f.f3] 29)) (AbD.laid HJ.out _ HJ1.out) hlen (by simp; omega); have HR := Aside0.mk hR; clear hR; simp only at hy)
      refine HR.out.mono ?_
      rintro e W3 (⟨rfl, hJ3, hk3⟩ | ⟨rfl, hJx3⟩)
      · have hB3 : Below w0.heap.size w0 W3 := hk3.below (below_alloc HB1.out _) (fun j hj => .inl hj)
        have z1 := (hk3.2 B1 (.inr (.inl rfl))).trans (blk_alloc B11.out _)
        have z2 := (hk3.2 B2 (.inr (.inr (.inl rfl)))).trans (blk_alloc B21.out _)
        have z3 : IsS60 w0 W3 gc b at1 := by
          obtain ⟨A0, c0, q1, q2, q3⟩ := HI1.out
          exact ⟨A0, c0, (hk3.2 gc (.inr (.inr (.inr rfl)))).trans (blk_alloc q1 _), q2, q3⟩
        have hs3 : W.heap.size ≤ W3.heap.size := Nat.le_trans (by simp; omega) hk3.1.size
        have H3 := Aside0.mk (And.intro hJ3 (And.intro z3 (And.intro hB3 (And.intro z1 z2))))
        clear hJ3 hk3 hB3 z1 z2 z3
        by_cases he1 : e1 = 0
        · have he1b : (e1 != 0) = false := bne_eq_false_iff_eq.mpr he1
          gi_wp2
          go_roundw
          case rel =>
            have hh := HEE.out
            simp only [if_pos he1] at hh
            obtain ⟨r, hr1, hr2⟩ := Option.map_eq_some_iff.1 hh
            obtain ⟨r1, r2⟩ := r
            simp only [Prod.mk.injEq] at hr2
            obtain ⟨hr2, hr3⟩ := hr2
            exact ⟨i + 1, at1, pre ++ [(f, e1)], r1, by simp, by omega, ⟨by rw [← hr3]; exact hr1⟩, ⟨by rw [← HP.out, ← hr2, he1, List.append_assoc]; rfl⟩, ⟨H3.out.1⟩, ⟨H3.out.2.1⟩, ⟨H3.out.2.2.1⟩, ⟨H3.out.2.2.2.1⟩, ⟨H3.out.2.2.2.2⟩, hs3⟩
          case measure => simp [intOf]; omega
        · have he1b : (e1 != 0) = true := bne_iff_ne.mpr he1
          gi_wp2
          refine bodyPost_ret (results_none rfl _ _ _) rfl ?_
          have hh := HEE.out
          simp only [if_neg he1] at hh
          have hh := Option.some.inj hh
          simp only [Prod.mk.injEq] at hh
          obtain ⟨hr2, hr3⟩ := hh
          refine ⟨⟨_, rfl⟩, .inl ⟨T, ⟨rfl, ?_⟩, ?_⟩⟩
          · rw [← hr3]; exact H3.out.2.1
          · rw [← HP.out, ← hr2]; exact H3.out.1
      · have HX := Aside0.mk hJx3
        clear hJx3
        gi_wp2
        refine bodyPost_ret (results_none rfl _ _ _) rfl ?_
        refine ⟨⟨_, rfl⟩, .inr ⟨pre ++ [(f, e1)], ?_, HX.out⟩⟩
        have hh := HEE.out
        by_cases he1 : e1 = 0
        · simp only [if_pos he1] at hh
          obtain ⟨r, hr1, hr2⟩ := Option.map_eq_some_iff.1 hh
          simp only [Prod.mk.injEq] at hr2
          exact ⟨r.1, by simp, by rw [← HP.out, ← hr2.1, he1, List.append_assoc]; rfl⟩
        · simp only [if_neg he1] at hh
          have hh := Option.some.inj hh
          simp only [Prod.mk.injEq] at hh
          exact ⟨[], by simp, by rw [← HP.out, ← hh.1, List.append_nil]⟩
    · obtain rfl : i = ks.length := by omega
      have hltb : decide ((ks.length : Int) < (ks.length : Int)) = false := decide_eq_false (by omega)
      gi_wp2
      go_end0
      have hh := HE.out
      rw [List.drop_length, emits] at hh
      have hh := Option.some.inj hh
      simp only [Prod.mk.injEq] at hh
      refine ⟨⟨_, rfl⟩, .inl ⟨T, ⟨rfl, ?_⟩, ?_⟩⟩
      · rw [← hh.2]; exact HI.out
      · rw [← HP.out, ← hh.1, List.append_nil]; exact HJs.out
end Go.Proofs.YtcheinjlgojepaaDoor.P
