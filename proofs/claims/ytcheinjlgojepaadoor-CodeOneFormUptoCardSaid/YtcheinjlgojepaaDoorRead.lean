-- left of the seat's texts by prune.py, a program of this session
import Derived.Test.YtcheinjlgojepaaDoorField
namespace Go.Proofs.YtcheinjlgojepaaDoor.P
open Go.RowKit Go.Shelf Go.Proofs Go.Proofs.YtcheinjlgojepaaDoorW.PrintWords Go.Proofs.YtcheinjlgojepaaDoorW.PrintLast Go.Proofs.YtcheinjlgojepaaDoorW.PrintMore
open Go.Proofs.YtcheinjlgojepaaDoor.R
attribute [local go_sem] Oper.semAt_some
set_option linter.unusedVariables false
set_option linter.unusedSimpArgs false
def cells29 (x : S29 × Int) : List Value := [.int .i64 x.1.f0, .int .i64 x.1.f1, .string x.1.f2, .bool x.1.f3]
def flat29 (l : List (S29 × Int)) : List Value := l.flatMap cells29
theorem flat29_len (l : List (S29 × Int)) : (flat29 l).length = l.length * 4 := by
  induction l with
  | nil => rfl
  | cons x l ih => show (cells29 x ++ flat29 l).length = _; rw [List.length_append, ih]; simp [cells29]; omega
theorem flat29_at (l : List (S29 × Int)) (j : Nat) (p : S29) (h : (l.map Prod.fst)[j]? = some p) : ((flat29 l).drop (j * 4)).take 4 = [.int .i64 p.f0, .int .i64 p.f1, .string p.f2, .bool p.f3] := by
  induction l generalizing j with
  | nil => simp at h
  | cons x l ih =>
    cases j with
    | zero => simp at h; subst h; rfl
    | succ j =>
      have : (flat29 (x :: l)).drop ((j + 1) * 4) = (flat29 l).drop (j * 4) := by
        rw [show (j + 1) * 4 = 4 + j * 4 by omega, ← List.drop_drop]; rfl
      rw [this]
      exact ih j (by simpa using h)
theorem R_own29 {w : World} {base base' : Nat} (hb : base' ≤ base) {v : Value} {xs : List (S29 × Int)} (h : w.ownsRow base 29 4 v xs.length (flat29 xs)) : Kd.R k29 29 w base' (fun _ => True) v (xs.map Prod.fst) :=
  Kd.R_lower ⟨fun _ _ => trivial, flat29 xs, by rw [List.length_map]; exact h, by rw [List.length_map]; exact flat29_len xs, fun j p hj => by
    rw [show k29.sz = 4 from rfl, flat29_at xs j p hj]
    exact k29_mkM _ _ _ p⟩ hb
theorem ownD_row {β : Type} {lo base bx : Nat} {D : Nat → Prop} (hb : ∀ r, D r → r < base) (hbx : bx < lo) (hbD : ¬ D bx) (tb e size : Nat) (n : β → Nat) (f : β → List Value) : OwnD lo D (fun s W => ∃ v, Boxed W bx tb v ∧ W.ownsRow base e size v (n s) (f s)) := by
  rintro s X Y row ⟨v, hv, hr⟩ hg hrow
  refine ⟨v, hv.kept hg (fun e' => by rcases hrow bx e'.symm with ⟨h1, _⟩ | h1; omega; exact hbD h1), hr.kept hg ?_⟩
  rcases hr.2 with ⟨rfl, _⟩ | ⟨g, cap, cur, rfl, hbg, hgb, _⟩
  · exact .inl rfl
  · refine .inr fun e' => ?_
    rcases hrow g (by simpa [Value.ownBlock] using e'.symm) with ⟨_, o, ho, hc⟩ | h2
    · rw [hgb] at ho; cases ho; cases hc
    · have := hb g h2; omega
theorem ownD_box {β : Type} {lo bx : Nat} {D : Nat → Prop} (hbx : bx < lo) (hbD : ¬ D bx) (tb : Nat) (f : β → Value) : OwnD lo D (fun s W => Boxed W bx tb (f s)) :=
  fun s X Y row hv hg hrow => hv.kept hg (fun e' => by rcases hrow bx e'.symm with ⟨h1, _⟩ | h1; omega; exact hbD h1)
theorem cell_four_new (w : World) (a b c d : Value) (t : TypeId) : ∀ j u, [a, b, c, d][j]? = some u → (w.alloc (.cells #[a, b, c, d] t)).cell? ((⟨w.heap.size, 0, none⟩ : Addr).add j) = some u := by
  intro j u hj
  have := blk_cell (blk_new w (Obj.cells #[a, b, c, d] t)) j
  rw [show (⟨w.heap.size, 0, none⟩ : Addr).add j = ⟨w.heap.size, j, none⟩ from by unfold Addr.add; split <;> simp_all, this, ← hj]
  simp
theorem boxed_app {W w1 : World} {n₀ B : Nat} {t e : TypeId} {size : Nat} {v v' : Value} {k m : Nat} {xs ys : List Value} {tmp : Obj}
    (hv : Boxed W B t v) (hte : t ≠ e) (hrow : W.ownsRow n₀ e size v k xs)
    (hown' : w1.ownsRow n₀ e size v' m ys) (hgrow : (W.alloc tmp).grownBy w1 v.ownBlock) :
    Boxed w1 B t v ∧ Boxed (w1.setCell ⟨B, 0, none⟩ v') B t v' ∧ (w1.setCell ⟨B, 0, none⟩ v').ownsRow n₀ e size v' m ys ∧ KeepsOthers W (w1.setCell ⟨B, 0, none⟩ v') := by
  have hv1 : Boxed w1 B t v := (hv.alloc tmp).kept hgrow (hv.not_row hte hrow)
  refine ⟨hv1, hv1.set v', hown'.kept (grownBy_setCell' w1 B v') (.inr (hv1.not_row hte hown').symm), ?_⟩
  refine ((KeepsOthers.alloc W tmp).trans (KeepsOthers.of_grownBy hgrow fun j o ej hj => ?_)).trans (KeepsOthers.setCell _ _ _)
  rcases (hrow.alloc tmp).2 with ⟨rfl, _⟩ | ⟨g, cap, cur, rfl, _, hgb, _⟩
  · simp [Value.ownBlock] at ej
  · obtain rfl : g = j := by simpa [Value.ownBlock] using ej
    rw [hgb] at hj; cases hj; rfl
theorem info29' : ∃ i0, Tryd.prog.info? 29 = some i0 ∧ i0.zero = some (.agg #[(.int .i64 0), (.int .i64 0), (.string ⟨#[]⟩), (.bool false)]) ∧ i0.size = 4 ∧ i0.bytes = 40 := info_parts info29
theorem run_loadVar_box {P : Program} {W : World} {g t ty : Nat} {v : Value} {d : TypeDesc} (h : Boxed W g t v) (hu : P.underlying ty = some d) (hd : (match d with | .struct _ | .array _ _ => true | _ => false) = false) : (loadVar ty ⟨g, 0, none⟩).run P W = .ok v W := by
  have hc := h.cell
  have hia : (isAgg ty).run P W = .ok false W := by
    unfold isAgg
    rw [Sem.run_bind, run_underlying hu]
    simp only [Result.andThen_ok]
    cases d <;> first | rfl | cases hd
  unfold loadVar
  rw [Sem.run_bind, hia]
  simp [go_sem, hc]
theorem results_ccc {P : Program} {fn : Func} {p q r : Tmp} {tp tq tr : TypeId} (h : fn.results = #[.cell p tp, .cell q tq, .cell r tr]) (tmps : Array Value) (W : World) {g1 g2 g3 t1 t2 t3 : Nat} {v1 v2 v3 : Value} {d1 d2 d3 : TypeDesc}
    (hp : tmps.getD p undef = .pointer (some ⟨g1, 0, none⟩)) (hq : tmps.getD q undef = .pointer (some ⟨g2, 0, none⟩)) (hr : tmps.getD r undef = .pointer (some ⟨g3, 0, none⟩))
    (b1 : Boxed W g1 t1 v1) (b2 : Boxed W g2 t2 v2) (b3 : Boxed W g3 t3 v3) (u1 : P.underlying tp = some d1) (u2 : P.underlying tq = some d2) (u3 : P.underlying tr = some d3)
    (e1 : (match d1 with | .struct _ | .array _ _ => true | _ => false) = false) (e2 : (match d2 with | .struct _ | .array _ _ => true | _ => false) = false) (e3 : (match d3 with | .struct _ | .array _ _ => true | _ => false) = false) :
    (results fn tmps).run P W = .ok (.tuple #[v1, v2, v3]) W := by
  have h1 : tmps[p]?.getD undef = .pointer (some ⟨g1, 0, none⟩) := by simpa using hp
  have h2 : tmps[q]?.getD undef = .pointer (some ⟨g2, 0, none⟩) := by simpa using hq
  have h3 : tmps[r]?.getD undef = .pointer (some ⟨g3, 0, none⟩) := by simpa using hr
  simp [results, h, h1, h2, h3, asAddr, run_loadVar_box b1 u1 e1, run_loadVar_box b2 u2 e2, run_loadVar_box b3 u3 e3]
def errOf (T : List (S29 × Int)) : Int := match T.getLast? with | some x => x.2 | none => 0
theorem emits_zero (k : Nat) (b : List Int) : ∀ (ks : List Int) (a : Int) (T : List (S29 × Int)) (z : Int), emits k b ks a = some (T, z) → ∀ (p : List (S29 × Int)) x r, T = p ++ x :: r → x.2 ≠ 0 → r = []
  | [], a, T, z, h, p, x, r, e, hx => by
    simp only [emits, Option.some.injEq, Prod.mk.injEq] at h
    rw [← h.1] at e; simp at e
  | kd :: ks, a, T, z, h, p, x, r, e, hx => by
    rw [emits] at h
    obtain ⟨⟨f, e1, a1⟩, hf, h⟩ := Option.bind_eq_some_iff.mp h
    by_cases h0 : e1 = 0
    · simp only [if_pos h0] at h
      obtain ⟨⟨T1, z1⟩, h1, h2⟩ := Option.map_eq_some_iff.1 h
      simp only [Prod.mk.injEq] at h2
      cases p with
      | nil =>
        rw [← h2.1] at e
        simp only [List.nil_append, List.cons.injEq] at e
        exact absurd (by rw [← e.1]) hx
      | cons y p =>
        rw [← h2.1] at e
        simp only [List.cons_append, List.cons.injEq] at e
        exact emits_zero k b ks a1 T1 z1 h1 p x r e.2 hx
    · simp only [if_neg h0, Option.some.injEq, Prod.mk.injEq] at h
      rw [← h.1] at e
      cases p with
      | nil => simp only [List.nil_append, List.cons.injEq] at e; exact e.2.symm
      | cons y p => simp at e
theorem emits_len (k : Nat) (b : List Int) : ∀ (ks : List Int) (a : Int) (T : List (S29 × Int)) (z : Int), emits k b ks a = some (T, z) → T.length ≤ ks.length
  | [], a, T, z, h => by
    simp only [emits, Option.some.injEq, Prod.mk.injEq] at h
    rw [← h.1]; exact Nat.le_refl _
  | kd :: ks, a, T, z, h => by
    rw [emits] at h
    obtain ⟨⟨f, e1, a1⟩, hf, h⟩ := Option.bind_eq_some_iff.mp h
    by_cases h0 : e1 = 0
    · simp only [if_pos h0] at h
      obtain ⟨⟨T1, z1⟩, h1, h2⟩ := Option.map_eq_some_iff.1 h
      simp only [Prod.mk.injEq] at h2
      have := emits_len k b ks a1 T1 z1 h1
      rw [← h2.1, List.length_cons, List.length_cons]; omega
    · simp only [if_neg h0, Option.some.injEq, Prod.mk.injEq] at h
      rw [← h.1]; simp
def code_Read.f (k : Nat) (l0 : List Int) (l1 : List Int) : Option ((List (S29)) × Int × Int) :=
  if l1.length < 3518437208883 then (emits k l0 l1 0).bind fun t => if errOf t.1 = 0 then some (t.1.map Prod.fst, t.2, 0) else some ([], 0, errOf t.1) else none
theorem code_Read.mono : ∀ (a0 a1 : List Int) (k : Nat), LeO (code_Read.f k a0 a1) (code_Read.f (k + 1) a0 a1) := by
  intro a0 a1 k
  unfold code_Read.f
  exact LeO.ite (LeO.bind (emits.mono a0 k a1 0) (fun _ => LeO.refl _)) (LeO.refl _)
theorem errOf_none {T : List (S29 × Int)} (h : ∀ x ∈ T, x.2 = 0) : errOf T = 0 := by
  unfold errOf
  split
  · next x hx => exact h x (List.mem_of_getLast? hx)
  · rfl
theorem errOf_last (p : List (S29 × Int)) (x : S29 × Int) : errOf (p ++ [x]) = x.2 := by
  unfold errOf; rw [List.getLast?_concat]
set_option maxRecDepth 100000 in
set_option maxHeartbeats 4000000 in
theorem read_in (k : Nat) (A0 : Option Addr) (c0 : Nat) (l0 : List Int) (A1 : Option Addr) (c1 : Nat) (l1 : List Int) (T : List (S29 × Int)) (atF : Int) (r1 : List (S29)) (r2 : Int) (r3 : Int) (w : World) (hr0 : Kd.C (Kd.int .u8) w A0 l0.length l0) (hc0 : l0.length ≤ c0) (hr1 : Kd.C (Kd.int .i64) w A1 l1.length l1) (hc1 : l1.length ≤ c1) (hl1 : l1.length < 3518437208883)
    (hT : emits k l0 l1 0 = some (T, atF)) (hr : (if errOf T = 0 then (T.map Prod.fst, atF, 0) else ([], 0, errOf T)) = (r1, r2, r3)) :
    CallsIn Fence.wide 5 Tryd.prog 21 #[.slice A0 l0.length c0, .slice A1 l1.length c1] w fun e w' => ∃ v0_ : Value, e = .returned (.tuple #[v0_, .int .i64 r2, .int .i64 r3]) ∧ Kd.R k29 29 w' w.heap.size (fun _ => True) v0_ r1 ∧ Below w.heap.size w w' := by
  obtain ⟨i0, hi, hz0, hz1, hz2⟩ := info29'
  have hu29 := Tryd.underlying29
  have hu60 := Tryd.underlying60
  have h38 : Fence.wide.fn 38 := trivial
  have hlT := emits_len k l0 l1 0 T atF hT
  have hzero := emits_zero k l0 l1 0 T atF hT
  refine callsIn_of_wp_marks Tryd.func21 rfl trivial ?_ rfl
  simp only [Tryd.ntmps21, List.size_toArray, List.length_cons, List.length_nil, Nat.reduceAdd, Nat.reduceSub, Array.replicate_succ, Array.replicate_zero, List.push_toArray, List.append_toArray, List.nil_append, List.cons_append]
  gi_wp2_with (gi_at_call 38; refine (fields_in Fence.wide _ h38 rfl (w.heap.size + 1 + 1 + 1) A1 l1.length c1 _).mono ?_; rintro e w' ⟨rfl, rfl⟩)
  obtain ⟨W0, hW0⟩ : ∃ W0, (((((((w.alloc (Obj.cells #[Value.slice none 0 0] 26)).alloc (Obj.cells #[Value.int IntKind.i64 0] 3)).alloc (Obj.cells #[Value.int IntKind.i64 0] 38)).alloc (Obj.cells #[Value.slice A0 l0.length c0, Value.int IntKind.i64 0] 60)).alloc (Obj.cells #[Value.slice none 0 0] 26)).alloc (Obj.cells #[Value.pointer (some { block := w.heap.size + 1 + 1 + 1, off := 0 })] 58)).alloc (Obj.cells #[Value.slice A1 l1.length c1] 37)) = W0 := ⟨_, rfl⟩
  have hz : W0.heap.size = w.heap.size + 7 := by rw [← hW0]; simp
  have hb0 : Below w.heap.size w W0 := by rw [← hW0]; repeat (first | exact Below.refl _ _ | apply below_alloc)
  have k1 : Boxed W0 (w.heap.size) 26 (.slice none 0 0) := by rw [← hW0]; have := blk_alloc (blk_alloc (blk_alloc (blk_alloc (blk_alloc (blk_alloc (blk_new w (Obj.cells #[Value.slice none 0 0] 26)) (Obj.cells #[Value.int IntKind.i64 0] 3)) (Obj.cells #[Value.int IntKind.i64 0] 38)) (Obj.cells #[Value.slice A0 l0.length c0, Value.int IntKind.i64 0] 60)) (Obj.cells #[Value.slice none 0 0] 26)) (Obj.cells #[Value.pointer (some { block := w.heap.size + 1 + 1 + 1, off := 0 })] 58)) (Obj.cells #[Value.slice A1 l1.length c1] 37); first | exact this | (simp only [World.size_alloc] at this; exact this)
  have k2 : Boxed W0 (w.heap.size + 1) 3 (.int .i64 0) := by rw [← hW0]; have := blk_alloc (blk_alloc (blk_alloc (blk_alloc (blk_alloc (blk_new (w.alloc (Obj.cells #[Value.slice none 0 0] 26)) (Obj.cells #[Value.int IntKind.i64 0] 3)) (Obj.cells #[Value.int IntKind.i64 0] 38)) (Obj.cells #[Value.slice A0 l0.length c0, Value.int IntKind.i64 0] 60)) (Obj.cells #[Value.slice none 0 0] 26)) (Obj.cells #[Value.pointer (some { block := w.heap.size + 1 + 1 + 1, off := 0 })] 58)) (Obj.cells #[Value.slice A1 l1.length c1] 37); first | exact this | (simp only [World.size_alloc] at this; exact this)
  have k3 : Boxed W0 (w.heap.size + 1 + 1) 38 (.int .i64 0) := by rw [← hW0]; have := blk_alloc (blk_alloc (blk_alloc (blk_alloc (blk_new ((w.alloc (Obj.cells #[Value.slice none 0 0] 26)).alloc (Obj.cells #[Value.int IntKind.i64 0] 3)) (Obj.cells #[Value.int IntKind.i64 0] 38)) (Obj.cells #[Value.slice A0 l0.length c0, Value.int IntKind.i64 0] 60)) (Obj.cells #[Value.slice none 0 0] 26)) (Obj.cells #[Value.pointer (some { block := w.heap.size + 1 + 1 + 1, off := 0 })] 58)) (Obj.cells #[Value.slice A1 l1.length c1] 37); first | exact this | (simp only [World.size_alloc] at this; exact this)
  have k4 : W0.heap[w.heap.size + 1 + 1 + 1]? = some (.cells #[.slice A0 l0.length c0, .int .i64 0] 60 (0, 0)) := by rw [← hW0]; have := blk_alloc (blk_alloc (blk_alloc (blk_new (((w.alloc (Obj.cells #[Value.slice none 0 0] 26)).alloc (Obj.cells #[Value.int IntKind.i64 0] 3)).alloc (Obj.cells #[Value.int IntKind.i64 0] 38)) (Obj.cells #[Value.slice A0 l0.length c0, Value.int IntKind.i64 0] 60)) (Obj.cells #[Value.slice none 0 0] 26)) (Obj.cells #[Value.pointer (some { block := w.heap.size + 1 + 1 + 1, off := 0 })] 58)) (Obj.cells #[Value.slice A1 l1.length c1] 37); first | exact this | (simp only [World.size_alloc] at this; exact this)
  have k5 : Boxed W0 (w.heap.size + 1 + 1 + 1 + 1) 26 (.slice none 0 0) := by rw [← hW0]; have := blk_alloc (blk_alloc (blk_new ((((w.alloc (Obj.cells #[Value.slice none 0 0] 26)).alloc (Obj.cells #[Value.int IntKind.i64 0] 3)).alloc (Obj.cells #[Value.int IntKind.i64 0] 38)).alloc (Obj.cells #[Value.slice A0 l0.length c0, Value.int IntKind.i64 0] 60)) (Obj.cells #[Value.slice none 0 0] 26)) (Obj.cells #[Value.pointer (some { block := w.heap.size + 1 + 1 + 1, off := 0 })] 58)) (Obj.cells #[Value.slice A1 l1.length c1] 37); first | exact this | (simp only [World.size_alloc] at this; exact this)
  have k6 : W0.heap[w.heap.size + 1 + 1 + 1 + 1 + 1]? = some (.cells #[.pointer (some ⟨w.heap.size + 1 + 1 + 1, 0, none⟩)] 58 (0, 0)) := by rw [← hW0]; have := blk_alloc (blk_new (((((w.alloc (Obj.cells #[Value.slice none 0 0] 26)).alloc (Obj.cells #[Value.int IntKind.i64 0] 3)).alloc (Obj.cells #[Value.int IntKind.i64 0] 38)).alloc (Obj.cells #[Value.slice A0 l0.length c0, Value.int IntKind.i64 0] 60)).alloc (Obj.cells #[Value.slice none 0 0] 26)) (Obj.cells #[Value.pointer (some { block := w.heap.size + 1 + 1 + 1, off := 0 })] 58)) (Obj.cells #[Value.slice A1 l1.length c1] 37); first | exact this | (simp only [World.size_alloc] at this; exact this)
  have k7 : W0.heap[w.heap.size + 1 + 1 + 1 + 1 + 1 + 1]? = some (.cells #[.slice A1 l1.length c1] 37 (0, 0)) := by rw [← hW0]; have := blk_new ((((((w.alloc (Obj.cells #[Value.slice none 0 0] 26)).alloc (Obj.cells #[Value.int IntKind.i64 0] 3)).alloc (Obj.cells #[Value.int IntKind.i64 0] 38)).alloc (Obj.cells #[Value.slice A0 l0.length c0, Value.int IntKind.i64 0] 60)).alloc (Obj.cells #[Value.slice none 0 0] 26)).alloc (Obj.cells #[Value.pointer (some { block := w.heap.size + 1 + 1 + 1, off := 0 })] 58)) (Obj.cells #[Value.slice A1 l1.length c1] 37); first | exact this | (simp only [World.size_alloc] at this; exact this)
  have hI0 : IsS60 w W0 (w.heap.size + 1 + 1 + 1) l0 0 := ⟨A0, c0, k4, by omega, hr0, hc0⟩
  have hseq := fields_seq (5 - 1) (by omega) (w.heap.size + 1 + 1 + 1 + 1 + 1 + 1) (w.heap.size + 1 + 1 + 1 + 1 + 1) (w.heap.size + 1 + 1 + 1) k l0 l1 A1 c1 0 atF T w W0 hb0 hr1 k7 k6 hI0 hT (by omega) (by omega)
  have hD1 : ∀ (m : Nat), m ≠ w.heap.size + 1 + 1 + 1 → ¬ (fun j => j = w.heap.size + 1 + 1 + 1) m := fun m h => h
  have hI : OwnD W0.heap.size (fun j => j = w.heap.size + 1 + 1 + 1) (fun (pre : List (S29 × Int)) W => (∀ x ∈ pre, x.2 = 0) ∧ (∃ v, Boxed W (w.heap.size + 1 + 1 + 1 + 1) 26 v ∧ W.ownsRow (w.heap.size + 9) 29 4 v pre.length (flat29 pre)) ∧ Boxed W (w.heap.size) 26 (.slice none 0 0) ∧ Boxed W (w.heap.size + 1) 3 (.int .i64 0) ∧ Boxed W (w.heap.size + 1 + 1) 38 (.int .i64 0) ∧ Below w.heap.size w W) := by
    have a1 := ownD_row (β := List (S29 × Int)) (lo := W0.heap.size) (base := w.heap.size + 9) (bx := w.heap.size + 1 + 1 + 1 + 1) (D := fun j => j = w.heap.size + 1 + 1 + 1) (fun r h => by omega) (by omega) (by show ¬ _ = _; omega) 26 29 4 List.length flat29
    have a2 := ownD_box (β := List (S29 × Int)) (lo := W0.heap.size) (bx := w.heap.size) (D := fun j => j = w.heap.size + 1 + 1 + 1) (by omega) (by show ¬ _ = _; omega) 26 (fun _ => .slice none 0 0)
    have a3 := ownD_box (β := List (S29 × Int)) (lo := W0.heap.size) (bx := w.heap.size + 1) (D := fun j => j = w.heap.size + 1 + 1 + 1) (by omega) (by show ¬ _ = _; omega) 3 (fun _ => .int .i64 0)
    have a4 := ownD_box (β := List (S29 × Int)) (lo := W0.heap.size) (bx := w.heap.size + 1 + 1) (D := fun j => j = w.heap.size + 1 + 1 + 1) (by omega) (by show ¬ _ = _; omega) 38 (fun _ => .int .i64 0)
    have a5 := ownD_below (β := List (S29 × Int)) (lo := W0.heap.size) (m := w.heap.size) (D := fun j => j = w.heap.size + 1 + 1 + 1) (w := w) (by omega) (fun r h => by omega) (Nat.le_refl _)
    exact fun s X Y row hs hg hr => ⟨hs.1, a1 s X Y row hs.2.1 hg hr, a2 s X Y row hs.2.2.1 hg hr, a3 s X Y row hs.2.2.2.1 hg hr, a4 s X Y row hs.2.2.2.2.1 hg hr, a5 s X Y row hs.2.2.2.2.2 hg hr⟩
  have hIx : ∀ c : Code, OwnD W0.heap.size (fun j => j = w.heap.size + 1 + 1 + 1) (fun (pre : List (S29 × Int)) W => c = .ret ∧ (∃ p f e, pre = p ++ [(f, e)] ∧ e ≠ 0 ∧ Boxed W (w.heap.size) 26 (.slice none 0 0) ∧ Boxed W (w.heap.size + 1) 3 (.int .i64 0) ∧ Boxed W (w.heap.size + 1 + 1) 38 (.int .i64 e)) ∧ Below w.heap.size w W) := by
    intro c
    have a2 := ownD_box (β := List (S29 × Int)) (lo := W0.heap.size) (bx := w.heap.size) (D := fun j => j = w.heap.size + 1 + 1 + 1) (by omega) (by show ¬ _ = _; omega) 26 (fun _ => .slice none 0 0)
    have a3 := ownD_box (β := List (S29 × Int)) (lo := W0.heap.size) (bx := w.heap.size + 1) (D := fun j => j = w.heap.size + 1 + 1 + 1) (by omega) (by show ¬ _ = _; omega) 3 (fun _ => .int .i64 0)
    have a4 := fun e : Int => ownD_box (β := List (S29 × Int)) (lo := W0.heap.size) (bx := w.heap.size + 1 + 1) (D := fun j => j = w.heap.size + 1 + 1 + 1) (by omega) (by show ¬ _ = _; omega) 38 (fun _ => .int .i64 e)
    have a5 := ownD_below (β := List (S29 × Int)) (lo := W0.heap.size) (m := w.heap.size) (D := fun j => j = w.heap.size + 1 + 1 + 1) (w := w) (by omega) (fun r h => by omega) (Nat.le_refl _)
    rintro s X Y row ⟨hc, ⟨p, f, e, h1, h2, h3, h4, h5⟩, h6⟩ hg hr
    exact ⟨hc, ⟨p, f, e, h1, h2, a2 s X Y row h3 hg hr, a3 s X Y row h4 hg hr, a4 e s X Y row h5 hg hr⟩, a5 s X Y row h6 hg hr⟩
  have hSS : OwnD W0.heap.size (fun _ => False) (fun (xs : List (S29 × Int)) W => xs = T ∧ IsS60 w W (w.heap.size + 1 + 1 + 1) l0 atF) := by
    rintro s X Y row ⟨h1, h2⟩ hg hr
    exact ⟨h1, h2.grown hg (fun e => by rcases hr _ e.symm with ⟨q, _⟩ | q; omega; exact q)⟩
  rw [hW0]
  clear hW0
  refine wpIn_rangeD rfl (by omega) (gf := 47) rfl trivial (enters_of Tryd.func47 (by kernel_rfl) rfl) hseq (fun j hj => by rcases hj with h | h | h | h <;> omega) (fun j hj => by omega) hSS (fun _ => rfl)
    (fun (pre : List (S29 × Int)) W => (∀ x ∈ pre, x.2 = 0) ∧ (∃ v, Boxed W (w.heap.size + 1 + 1 + 1 + 1) 26 v ∧ W.ownsRow (w.heap.size + 9) 29 4 v pre.length (flat29 pre)) ∧ Boxed W (w.heap.size) 26 (.slice none 0 0) ∧ Boxed W (w.heap.size + 1) 3 (.int .i64 0) ∧ Boxed W (w.heap.size + 1 + 1) 38 (.int .i64 0) ∧ Below w.heap.size w W)
    (fun c (pre : List (S29 × Int)) W => c = .ret ∧ (∃ p f e, pre = p ++ [(f, e)] ∧ e ≠ 0 ∧ Boxed W (w.heap.size) 26 (.slice none 0 0) ∧ Boxed W (w.heap.size + 1) 3 (.int .i64 0) ∧ Boxed W (w.heap.size + 1 + 1) 38 (.int .i64 e)) ∧ Below w.heap.size w W) hI hIx ?h0
    (fun (x : S29 × Int) (a' : Act) (W : World) => ∃ b : Nat, W.heap[b]? = some (Obj.cells #[.int .i64 x.1.f0, .int .i64 x.1.f1, .string x.1.f2, .bool x.1.f3] 29 (0, 0)) ∧ a' = { tmps := #[Value.slice A0 l0.length c0, Value.slice A1 l1.length c1, undef, undef, Value.pointer (some ⟨w.heap.size, 0, none⟩), Value.pointer (some ⟨w.heap.size + 1, 0, none⟩), Value.pointer (some ⟨w.heap.size + 1 + 1, 0, none⟩), Value.pointer (some ⟨w.heap.size + 1 + 1 + 1, 0, none⟩), Value.pointer (some ⟨w.heap.size + 1 + 1 + 1 + 1, 0, none⟩), Value.pointer (some ⟨b, 0, none⟩), Value.int .i64 x.2, Value.slice A0 l0.length c0, Value.agg #[Value.slice A0 l0.length c0, Value.int IntKind.i64 0], Value.pointer (some ⟨w.heap.size + 1 + 1 + 1, 0, none⟩), Value.pointer (some ⟨w.heap.size + 1 + 1 + 1, 0, none⟩), Value.slice A1 l1.length c1, Value.func (Fn.func 47) #[] #[Value.pointer (some ⟨w.heap.size + 1 + 1 + 1 + 1 + 1 + 1, 0, none⟩), Value.pointer (some ⟨w.heap.size + 1 + 1 + 1 + 1 + 1, 0, none⟩)], Value.agg #[.int .i64 x.1.f0, .int .i64 x.1.f1, .string x.1.f2, .bool x.1.f3], Value.int .i64 x.2, undef, undef, undef, undef, undef, undef, undef, undef, undef, undef, undef, undef], defers := [] }) ?hAx ?assign ?body ?done ?stop
  case h0 => exact ⟨fun x hx => by simp at hx, ⟨_, k5, World.ownsRow_nil _ _ _ _⟩, k1, k2, k3, hb0⟩
  case hAx =>
    rintro x a' _ X Y row ⟨b, hb, ha⟩ hg hrow
    refine ⟨b, (hg.block b (blk_lt hb) (fun e => ?_)).trans hb, ha⟩
    obtain ⟨_, o, ho, hc⟩ := hrow b e.symm
    rw [hb] at ho; cases ho; cases hc
  case assign =>
    intro l pre x W K hi hsz hK
    obtain ⟨⟨x0, x1, x2, x3⟩, x4⟩ := x
    gi_wp2
    refine hK _ _ ((KeepsOthers.alloc W _).from _) (KeepD.grown (World.grownBy_alloc W _ none) (fun j hj => ?_) (fun _ e => by cases e)) (hI.lay _ hi) ⟨_, blk_new _ _, rfl⟩
    rcases hj with h | h | h | h <;> omega
  case body =>
    rintro l pre x a' W ⟨hpz, ⟨v, hv, hrow⟩, q1, q2, q3, hB⟩ ⟨b, hb, rfl⟩ hlt hsz
    obtain ⟨⟨x0, x1, x2, x3⟩, x4⟩ := x
    obtain ⟨q0, q4, q5, q6⟩ := blkC4 W b _ _ _ _ hb
    have hc := hv.cell
    have hf := hv.frozen
    have hw9 : w.heap.size + 9 ≤ W.heap.size := by omega
    by_cases hx4 : x4 = 0
    · subst hx4
      obtain ⟨Av, cv, rfl⟩ := own_slice hrow
      gi_wp2_with (gi_at_builtin; refine wpListIn_append_own _ rfl _ _ 26 rfl (w.heap.size + 9) 29 i0 (.agg #[.int .i64 0, .int .i64 0, .string ⟨#[]⟩, .bool false]) 4 40 Tryd.underlying26 hi hz0 hz1 hz2 rfl (by decide) _ _ _ rfl (hrow.alloc _) ⟨W.heap.size, 0, none⟩ 1 1 [.int .i64 x0, .int .i64 x1, .string x2, .bool x3] rfl rfl (cell_four_new _ _ _ _ _ _) (by simp [Value.oneCell']) (by simp only [maxLen]; omega) (by omega) (by simp; omega) ?_; intro v' w1 hown' hgrow _; obtain ⟨g', cap', rfl⟩ := ownsRow_succ hown'; obtain ⟨hv1, hv2, hr2, hk2⟩ := boxed_app hv (by decide) hrow hown' hgrow; have hc1 := hv1.cell; have hf1 := hv1.frozen)
      have hg8 : ∀ r, (Value.slice Av pre.length cv).ownBlock = some r → w.heap.size + 9 ≤ r := fun r e => by
        rcases hrow.2 with ⟨h1, _⟩ | ⟨g, cap, cur, h1, hbg, hgb, _⟩
        · rw [h1] at e; simp [Value.ownBlock] at e
        · rw [h1] at e
          obtain rfl : g = r := by simpa [Value.ownBlock] using e
          omega
      have hsw := hgrow.size
      simp only [World.size_alloc] at hsw
      have hB' := (hB.alloc (by omega) (Obj.cells #[Value.int IntKind.i64 x0, Value.int IntKind.i64 x1, Value.string x2, Value.bool x3] 29)).grown hgrow (by simp; omega) (fun r e => by have := hg8 r e; omega)
      have away : ∀ {B t v}, Boxed W B t v → B < w.heap.size + 5 → B ≠ w.heap.size + 1 + 1 + 1 + 1 → Boxed (w1.setCell ⟨w.heap.size + 1 + 1 + 1 + 1, 0, none⟩ (Value.slice (some ⟨g', 0, none⟩) (pre.length + 1) cap')) B t v := fun {B t v} h hB1 hB2 => ((h.alloc _).kept hgrow (fun e => by have := hg8 B e.symm; omega)).other hB2 _
      refine ⟨hk2.from _, ?_, ?_, ⟨_, hv2, ?_⟩, away q1 (by omega) (by omega), away q2 (by omega) (by omega), away q3 (by omega) (by omega), hB'.grown (grownBy_setCell' w1 _ _) (by omega) (fun r e => by cases e; omega)⟩
      · refine (KeepD.grown (World.grownBy_alloc W _ none) (fun j hj => by rcases hj with h | h | h | h <;> omega) (fun _ e => by cases e)).trans ((KeepD.grown hgrow (fun j hj => by simp; rcases hj with h | h | h | h <;> omega) (fun r e h => ?_)).trans (KeepD.grown (grownBy_setCell' w1 _ _) (fun j hj => by rcases hj with h | h | h | h <;> omega) (fun r e h => ?_)))
        · have := hg8 r e
          rcases h with h | h | h | h <;> omega
        · cases e
          rcases h with h | h | h | h <;> omega
      · intro xa xb hx
        rcases List.mem_append.1 hx with h | h
        · exact hpz (xa, xb) h
        · exact (Prod.mk.inj (List.mem_singleton.1 h)).2
      · have e : flat29 (pre ++ [((⟨x0, x1, x2, x3⟩ : S29), (0 : Int))]) = flat29 pre ++ [Value.int IntKind.i64 x0, Value.int IntKind.i64 x1, Value.string x2, Value.bool x3] := by
          unfold flat29; rw [List.flatMap_append]; rfl
        rw [e, List.length_append]
        exact hr2
    · have hxb : (x4 != 0) = true := bne_iff_ne.mpr hx4
      have d1 := q1.cell
      have d2 := q2.cell
      have d3 := q3.cell
      have e1 := q1.frozen
      have e2 := q2.frozen
      have e3 := q3.frozen
      gi_wp2
      refine ⟨(((KeepsOthers.setCell _ _ _).trans (KeepsOthers.setCell _ _ _)).trans (KeepsOthers.setCell _ _ _)).from _, rfl, ⟨pre, _, x4, rfl, hx4, ?_, ?_, ?_⟩, ?_⟩
      · exact ((q1.set _).other (by omega) _).other (by omega) _
      · exact ((q2.other (by omega) _).set _).other (by omega) _
      · exact ((q3.other (by omega) _).other (by omega) _).set _
      · exact below_set (below_set (below_set hB (by omega)) (by omega)) (by omega)
  case done =>
    rintro D zs W hD ⟨rfl, hIS⟩ ⟨hpz, ⟨v, hv, hrow⟩, q1, q2, q3, hB⟩ hK
    have he0 : errOf zs = 0 := errOf_none hpz
    rw [if_pos he0] at hr
    simp only [Prod.mk.injEq] at hr
    obtain ⟨rfl, rfl, rfl⟩ := hr
    obtain ⟨Ac, cc, g1, g2, g3⟩ := hIS
    gi_wp2
    obtain ⟨Av, cv, rfl⟩ := own_slice hrow
    have hc := hv.cell
    have hc1 : W.cell? ⟨w.heap.size + 1 + 1 + 1, 1, none⟩ = some (.int .i64 atF) := (blk_cell g1 1).trans rfl
    have d1 := q1.cell
    have d2 := q2.cell
    have d3 := q3.cell
    have e1 := q1.frozen
    have e2 := q2.frozen
    have e3 := q3.frozen
    refine wpIn_wide.2 ?_
    go_region
    simp only [Exit.then]
    gi_wp2
    have y1 := ((q1.set (Value.slice Av zs.length cv)).other (B' := w.heap.size + 1) (by omega) (Value.int IntKind.i64 atF)).other (B' := w.heap.size + 1 + 1) (by omega) (Value.int IntKind.i64 0)
    have z2 := q2.other (B' := w.heap.size) (by omega) (Value.slice Av zs.length cv)
    have y2 := (z2.set (Value.int IntKind.i64 atF)).other (B' := w.heap.size + 1 + 1) (by omega) (Value.int IntKind.i64 0)
    have z3 := (q3.other (B' := w.heap.size) (by omega) (Value.slice Av zs.length cv)).other (B' := w.heap.size + 1) (by omega) (Value.int IntKind.i64 atF)
    have y3 := z3.set (Value.int IntKind.i64 0)
    have w1 := hrow.kept (grownBy_setCell' W (w.heap.size) (Value.slice Av zs.length cv)) (.inr (q1.not_row (by decide) hrow).symm)
    have w2 := w1.kept (grownBy_setCell' _ (w.heap.size + 1) (Value.int IntKind.i64 atF)) (.inr (z2.not_row (by decide) w1).symm)
    have w3 := w2.kept (grownBy_setCell' _ (w.heap.size + 1 + 1) (Value.int IntKind.i64 0)) (.inr (z3.not_row (by decide) w2).symm)
    have hK1 := ((Below.heap_setCell _ ⟨w.heap.size + 1 + 1, 0, none⟩ (Value.int IntKind.i64 0) D (by simp; omega)).trans ((Below.heap_setCell _ ⟨w.heap.size + 1, 0, none⟩ (Value.int IntKind.i64 atF) D (by simp; omega)).trans ((Below.heap_setCell W ⟨w.heap.size, 0, none⟩ (Value.slice Av zs.length cv) D (by simp; omega)).trans hK)))
    have b3 := below_set (j := 0) (v := Value.int IntKind.i64 0) (g := w.heap.size + 1 + 1) (below_set (j := 0) (v := Value.int IntKind.i64 atF) (g := w.heap.size + 1) (below_set (j := 0) (v := Value.slice Av zs.length cv) (g := w.heap.size) hB (by omega)) (by omega)) (by omega)
    obtain ⟨X, hX⟩ : ∃ X, (((W.setCell ⟨w.heap.size, 0, none⟩ (Value.slice Av zs.length cv)).setCell ⟨w.heap.size + 1, 0, none⟩ (Value.int IntKind.i64 atF)).setCell ⟨w.heap.size + 1 + 1, 0, none⟩ (Value.int IntKind.i64 0)) = X := ⟨_, rfl⟩
    rw [hX] at y1 y2 y3 w3 hK1 b3 ⊢
    replace y1 : Boxed X.drew _ _ _ := y1
    replace y2 : Boxed X.drew _ _ _ := y2
    replace y3 : Boxed X.drew _ _ _ := y3
    replace hK1 : X.drew.heap[D]? = _ := hK1
    have b4 := below_drew b3
    have w4 := own_drew w3
    refine ⟨by simp, .inl ⟨_, _, rfl, run_takeDeferred hK1, ?_⟩⟩
    exact ⟨_, results_ccc rfl _ _ rfl rfl rfl (y1.kept (grownBy_putObj' _ D _) (by simp; omega)) (y2.kept (grownBy_putObj' _ D _) (by simp; omega)) (y3.kept (grownBy_putObj' _ D _) (by simp; omega)) Tryd.underlying26 Tryd.underlying3 Tryd.underlying38 rfl rfl rfl, _, rfl, R_own29 (by omega) (ownsRow_putObj w4 _ hK1 rfl), b4.grown (grownBy_putObj' _ D _) (by have := b4.size; omega) (fun r e => by cases e; omega)⟩
  case stop =>
    rintro D c pre W hD ⟨r, hr1, hr2⟩ ⟨rfl, ⟨p, f, e, rfl, he, q1, q2, q3⟩, hB⟩ hK
    have hr0 : r = [] := hzero p (f, e) r (by rw [← hr2, List.append_assoc]; rfl) he
    subst hr0
    rw [List.append_nil] at hr2
    subst hr2
    rw [errOf_last, if_neg he] at hr
    simp only [Prod.mk.injEq] at hr
    obtain ⟨rfl, rfl, rfl⟩ := hr
    gi_wp2
    refine ⟨by simp, .inl ⟨_, _, rfl, run_takeDeferred hK, ?_⟩⟩
    have hK1 : Boxed (W.putObj D (.deferred none)) 0 0 .nilIface ∨ True := .inr trivial
    exact ⟨_, results_ccc rfl _ _ rfl rfl rfl (q1.kept (grownBy_putObj' W D _) (by simp; omega)) (q2.kept (grownBy_putObj' W D _) (by simp; omega)) (q3.kept (grownBy_putObj' W D _) (by simp; omega)) Tryd.underlying26 Tryd.underlying3 Tryd.underlying38 rfl rfl rfl, _, rfl, Kd.R_nil _ _ _ _ _, hB.grown (grownBy_putObj' W D _) (by have := hB.size; omega) (fun r e => by cases e; omega)⟩
theorem code_Read.calls (k : Nat) (A0 : Option Addr) (c0 : Nat) (l0 : List Int) (A1 : Option Addr) (c1 : Nat) (l1 : List Int) (r1 : List (S29)) (r2 : Int) (r3 : Int) (w : World) (hr0 : Kd.C (Kd.int .u8) w A0 l0.length l0) (hc0 : l0.length ≤ c0) (hr1 : Kd.C (Kd.int .i64) w A1 l1.length l1) (hc1 : l1.length ≤ c1) (h : code_Read.f k l0 l1 = some (r1, r2, r3)) :
    Calls Tryd.prog 21 #[.slice A0 l0.length c0, .slice A1 l1.length c1] w fun e w' => ∃ v0_ : Value, e = .returned (.tuple #[v0_, .int .i64 r2, .int .i64 r3]) ∧ Kd.R k29 29 w' w.heap.size (fun _ => True) v0_ r1 ∧ Below w.heap.size w w' := by
  unfold code_Read.f at h
  by_cases hl : l1.length < 3518437208883
  · rw [if_pos hl] at h
    obtain ⟨⟨T, atF⟩, hT, h⟩ := Option.bind_eq_some_iff.mp h
    refine (callsIn_wide (n := 5)).1 (read_in k A0 c0 l0 A1 c1 l1 T atF r1 r2 r3 w hr0 hc0 hr1 hc1 hl hT ?_)
    simp only at h
    split at h
    · next q => rw [if_pos q]; exact Option.some.inj h
    · next q => rw [if_neg q]; exact Option.some.inj h
  · rw [if_neg hl] at h
    cases h
end Go.Proofs.YtcheinjlgojepaaDoor.P
