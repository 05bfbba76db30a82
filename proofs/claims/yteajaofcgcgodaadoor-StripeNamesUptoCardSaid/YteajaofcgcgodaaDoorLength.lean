/- stripe.Length: over the pieces. -/
import Derived.Test.YteajaofcgcgodaaDoorSizes
namespace Go.Proofs.YteajaofcgcgodaaDoor.P
open Go.RowKit Go.Shelf Go.Proofs Go.Proofs.YteajaofcgcgodaaDoorW.PrintWords Go.Proofs.YteajaofcgcgodaaDoorW.PrintLast Go.Proofs.YteajaofcgcgodaaDoorW.PrintMore
open Go.Proofs.YteajaofcgcgodaaDoor.R
attribute [local go_sem] Oper.semAt_some max2_int min2_int max_two min_two
set_option linter.unusedVariables false
set_option linter.unusedSimpArgs false

def lenN (ix n : Int) (f : S51) : Int := if f.f0 = ix then (if n < wrap64 (f.f1 + f.f2) then wrap64 (f.f1 + f.f2) else n) else n
def lenS (o ix : Int) : List S51 → Int → Int
  | [], n => n
  | f :: l, n => if lenN ix n f = o then o else lenS o ix l (lenN ix n f)
def lenP (ix : Int) (l : List S51) : Int := l.foldl (lenN ix) 0
theorem lenP_app (ix : Int) (l : List S51) (f : S51) : lenP ix (l ++ [f]) = lenN ix (lenP ix l) f := by unfold lenP; rw [List.foldl_append]; rfl
theorem ownR_blk {β : Type} {lo B k bx : Nat} (hlo : lo ≤ B) (hbx : bx < lo) (o : Obj) : OwnR lo B k (fun (s : β) W => W.heap[bx]? = some o) :=
  fun s X Y row hv hg hrow => (hg.block bx (Array.getElem?_eq_some_iff.1 hv).1 (fun e' => by rcases hrow bx e'.symm with ⟨h1, _⟩ | ⟨h1, _⟩ <;> omega)).trans hv
theorem ownR_pure {β : Type} {lo B k : Nat} (p : β → Prop) : OwnR lo B k (fun s (_ : World) => p s) := fun _ _ _ _ h _ _ => h
def stripe_Length.f (a0_0 : Int) (a0_1 : Int) (a0_2 : Int) (a1 : Int) (a2 : Int) : Option (Int) :=
  if okL a0_0 a0_1 a0_2 then some (lenS a0_2 a2 (pcs (fdOf a0_0 a0_1 a0_2 0) (mn (mx a1 0) 4096).toNat 0 z51) 0) else none
set_option maxRecDepth 100000 in
set_option maxHeartbeats 4000000 in
theorem stripe_Length.calls (a0_0 : Int) (a0_1 : Int) (a0_2 : Int) (a1 : Int) (a2 : Int) (r : Int) (w : World) (h : stripe_Length.f a0_0 a0_1 a0_2 a1 a2 = some r) :
    Calls Tryd.prog 18 #[.agg #[.int .i64 a0_0, .int .i64 a0_1, .int .i64 a0_2], .int .i64 a1, .int .i64 a2] w fun e w' => e = .returned (.int .i64 r) ∧ Below w.heap.size w w' := by
  unfold stripe_Length.f at h
  split at h
  rotate_left
  · cases h
  rename_i hok
  obtain ⟨m, hm, hm4⟩ := bounded_nat a1
  rw [hm, Int.toNat_natCast] at h
  have hbd : stripe_bounded.f a1 = some (m : Int) := by unfold stripe_bounded.f; rw [hm]
  cases h
  have hu23 := Tryd.underlying23
  have hu51 := Tryd.underlying51
  refine (callsIn_wide (n := 5)).1 ?_
  refine callsIn_of_wp_marks Tryd.func18 rfl trivial ?_ rfl
  simp only [Tryd.ntmps18, List.size_toArray, List.length_cons, List.length_nil, Nat.reduceAdd, Nat.reduceSub, Array.replicate_succ, Array.replicate_zero, List.push_toArray, List.append_toArray, List.nil_append, List.cons_append]
  refine wpIn_wide.2 ?_
  go_upto_region 2 with (first | (apply wp_scope_straight) | (apply wp_label))
  have hbY : (((w.alloc (Obj.cells #[Value.int IntKind.i64 a0_0, Value.int IntKind.i64 a0_1, Value.int IntKind.i64 a0_2] 23)).alloc (Obj.cells #[Value.int IntKind.i64 a2] 3)).alloc (Obj.cells #[Value.int IntKind.i64 0] 2)).heap[w.heap.size]? = some (Obj.cells #[Value.int IntKind.i64 a0_0, Value.int IntKind.i64 a0_1, Value.int IntKind.i64 a0_2] 23) := blk_alloc (blk_alloc (blk_new w _) _) _
  have hbX : (((w.alloc (Obj.cells #[Value.int IntKind.i64 a0_0, Value.int IntKind.i64 a0_1, Value.int IntKind.i64 a0_2] 23)).alloc (Obj.cells #[Value.int IntKind.i64 a2] 3)).alloc (Obj.cells #[Value.int IntKind.i64 0] 2)).heap[w.heap.size + 1]? = some (Obj.cells #[Value.int IntKind.i64 a2] 3) := by have := blk_alloc (blk_new (w.alloc (Obj.cells #[Value.int IntKind.i64 a0_0, Value.int IntKind.i64 a0_1, Value.int IntKind.i64 a0_2] 23)) (Obj.cells #[Value.int IntKind.i64 a2] 3)) (Obj.cells #[Value.int IntKind.i64 0] 2); rwa [World.size_alloc] at this
  have hbN : (((w.alloc (Obj.cells #[Value.int IntKind.i64 a0_0, Value.int IntKind.i64 a0_1, Value.int IntKind.i64 a0_2] 23)).alloc (Obj.cells #[Value.int IntKind.i64 a2] 3)).alloc (Obj.cells #[Value.int IntKind.i64 0] 2)).heap[w.heap.size + 1 + 1]? = some (Obj.cells #[Value.int IntKind.i64 0] 2) := by have := blk_new ((w.alloc (Obj.cells #[Value.int IntKind.i64 a0_0, Value.int IntKind.i64 a0_1, Value.int IntKind.i64 a0_2] 23)).alloc (Obj.cells #[Value.int IntKind.i64 a2] 3)) (Obj.cells #[Value.int IntKind.i64 0] 2); rwa [World.size_alloc, World.size_alloc] at this
  have hbB : Below w.heap.size w (((w.alloc (Obj.cells #[Value.int IntKind.i64 a0_0, Value.int IntKind.i64 a0_1, Value.int IntKind.i64 a0_2] 23)).alloc (Obj.cells #[Value.int IntKind.i64 a2] 3)).alloc (Obj.cells #[Value.int IntKind.i64 0] 2)) := by repeat (first | exact Below.refl _ _ | apply below_alloc)
  obtain ⟨V, hV⟩ : ∃ V, (((w.alloc (Obj.cells #[Value.int IntKind.i64 a0_0, Value.int IntKind.i64 a0_1, Value.int IntKind.i64 a0_2] 23)).alloc (Obj.cells #[Value.int IntKind.i64 a2] 3)).alloc (Obj.cells #[Value.int IntKind.i64 0] 2)) = V := ⟨_, rfl⟩
  have hsz : V.heap.size = w.heap.size + 3 := by rw [← hV]; simp
  rw [hV] at hbY hbX hbN hbB ⊢
  clear hV
  have hcy : V.cell? ⟨w.heap.size, 0, none⟩ = some (.int .i64 a0_0) := (blk_cell hbY 0).trans rfl
  have hcy1 : V.cell? ⟨w.heap.size, 1, none⟩ = some (.int .i64 a0_1) := (blk_cell hbY 1).trans rfl
  have hcy2 : V.cell? ⟨w.heap.size, 2, none⟩ = some (.int .i64 a0_2) := (blk_cell hbY 2).trans rfl
  have RC : ∀ W', Below V.heap.size V W' → W'.cell? ⟨w.heap.size, 0, none⟩ = some (.int .i64 a0_0) ∧ W'.cell? ⟨w.heap.size, 1, none⟩ = some (.int .i64 a0_1) ∧ W'.cell? ⟨w.heap.size, 2, none⟩ = some (.int .i64 a0_2) := fun W' hb => by
    have := (hb.block _ (blk_lt hbY)).trans hbY
    exact ⟨(blk_cell this 0).trans rfl, (blk_cell this 1).trans rfl, (blk_cell this 2).trans rfl⟩
  have SC : ∀ W, Below V.heap.size V W → Calls Tryd.prog 35 #[.int .i64 a1] W fun e w' => e = .returned (.int .i64 (m : Int)) ∧ Below V.heap.size V w' ∧ w'.cell? ⟨w.heap.size, 0, none⟩ = some (.int .i64 a0_0) ∧ w'.cell? ⟨w.heap.size, 1, none⟩ = some (.int .i64 a0_1) ∧ w'.cell? ⟨w.heap.size, 2, none⟩ = some (.int .i64 a0_2) := fun W hW =>
    (stripe_bounded.calls a1 (m : Int) W hbd).mono fun e w' ⟨he, hd⟩ => ⟨he, hW.trans (hd.mono hW.size), RC _ (hW.trans (hd.mono hW.size))⟩
  have PC : ∀ W, Below V.heap.size V W → Calls Tryd.prog 34 #[.agg #[.int .i64 a0_0, .int .i64 a0_1, .int .i64 a0_2], .int .i64 0, .int .i64 (m : Int)] W fun e w' => ∃ g : Nat, e = .returned (.func (.func 42) #[] #[.pointer (some ⟨g + 2, 0, none⟩), .pointer (some ⟨g, 0, none⟩), .pointer (some ⟨g + 1, 0, none⟩)]) ∧ V.heap.size ≤ g ∧ w'.heap[g]? = some (Obj.cells #[Value.int IntKind.i64 a0_0, Value.int IntKind.i64 a0_1, Value.int IntKind.i64 a0_2] 23) ∧ w'.heap[g + 1]? = some (Obj.cells #[Value.int IntKind.i64 0] 2) ∧ w'.heap[g + 2]? = some (Obj.cells #[Value.int IntKind.i64 (m : Int)] 2) ∧ Below V.heap.size V w' := fun W hW =>
    ((callsIn_wide (n := 5)).1 (pieces_in Fence.wide 5 trivial rfl a0_0 a0_1 a0_2 0 (m : Int) W)).mono fun e w' ⟨he, hd⟩ => ⟨W.heap.size, he, hW.size, by rw [hd]; exact blk_alloc (blk_alloc (blk_new _ _) _) _, by rw [hd]; have := blk_alloc (blk_new (W.alloc (Obj.cells #[Value.int IntKind.i64 a0_0, Value.int IntKind.i64 a0_1, Value.int IntKind.i64 a0_2] 23)) (Obj.cells #[Value.int IntKind.i64 0] 2)) (Obj.cells #[Value.int IntKind.i64 (m : Int)] 2); rwa [World.size_alloc] at this,
      by rw [hd]; have := blk_new ((W.alloc (Obj.cells #[Value.int IntKind.i64 a0_0, Value.int IntKind.i64 a0_1, Value.int IntKind.i64 a0_2] 23)).alloc (Obj.cells #[Value.int IntKind.i64 0] 2)) (Obj.cells #[Value.int IntKind.i64 (m : Int)] 2); rwa [World.size_alloc, World.size_alloc] at this,
      by rw [hd]; exact ((hW.alloc hW.size _).alloc (by have := hW.size; simp; omega) _).alloc (by have := hW.size; simp; omega) _⟩
  have SC := Aside0.mk SC
  have PC := Aside0.mk PC
  have hbw : Below V.heap.size V V.drew := below_drew1 (Below.refl _ _)
  refine wp_mono (Q := Exit.then (fun (a' : Act) (wx : World) => ∃ g : Nat, a' = { tmps := #[Value.agg #[Value.int IntKind.i64 a0_0, Value.int IntKind.i64 a0_1, Value.int IntKind.i64 a0_2], Value.int IntKind.i64 a1, Value.int IntKind.i64 a2, Value.pointer (some ⟨w.heap.size, 0, none⟩), undef, Value.pointer (some ⟨w.heap.size + 1, 0, none⟩), Value.int IntKind.i64 0, Value.pointer (some ⟨w.heap.size + 1 + 1, 0, none⟩), undef, Value.agg #[Value.int IntKind.i64 a0_0, Value.int IntKind.i64 a0_1, Value.int IntKind.i64 a0_2], Value.int IntKind.i64 a1, Value.int IntKind.i64 (m : Int), Value.func (.func 42) #[] #[Value.pointer (some ⟨g + 2, 0, none⟩), Value.pointer (some ⟨g, 0, none⟩), Value.pointer (some ⟨g + 1, 0, none⟩)], undef, undef, undef, undef, undef, undef, undef, undef, undef, undef, undef, undef, undef, undef, undef, undef, undef], defers := [] } ∧ V.heap.size ≤ g ∧ Aside0 (wx.heap[g]? = some (Obj.cells #[Value.int IntKind.i64 a0_0, Value.int IntKind.i64 a0_1, Value.int IntKind.i64 a0_2] 23)) ∧ Aside0 (wx.heap[g + 1]? = some (Obj.cells #[Value.int IntKind.i64 0] 2)) ∧ Aside0 (wx.heap[g + 2]? = some (Obj.cells #[Value.int IntKind.i64 (m : Int)] 2)) ∧ Aside0 (Below V.heap.size V wx)) (fun _ _ _ => False)) ?first ?rest
  case first =>
    go_region_with (first | (go_at_call 35; (with_reducible refine (SC.out _ (by assumption)).mono ?_); rintro e w' ⟨rfl, hbx, hgx, hgy, hgz⟩) | (go_at_call 34; (with_reducible refine (PC.out _ (by assumption)).mono ?_); rintro e w' ⟨g, rfl, hg1, hg2, hg3, hg4, hg5⟩))
    all_goals exact ⟨g, rfl, hg1, ⟨hg2⟩, ⟨hg3⟩, ⟨hg4⟩, ⟨hg5⟩⟩
  case rest =>
    rintro e a' wx he
    cases e <;> first | exact he.elim | skip
    obtain ⟨g, rfl, hg, G1, G2, G3, HB⟩ := he
    have hG := blk_lt G3.out
    have hB0 : Below w.heap.size w wx := hbB.trans (HB.out.mono (by omega))
    have bN : Boxed wx (w.heap.size + 1 + 1) 2 (.int .i64 0) := (HB.out.block _ (by omega)).trans hbN
    have bX : wx.heap[w.heap.size + 1]? = some (Obj.cells #[Value.int IntKind.i64 a2] 3) := (HB.out.block _ (by omega)).trans hbX
    have bY : wx.heap[w.heap.size]? = some (Obj.cells #[Value.int IntKind.i64 a0_0, Value.int IntKind.i64 a0_1, Value.int IntKind.i64 a0_2] 23) := (HB.out.block _ (by omega)).trans hbY
    have hplen := pcs_len (fdOf a0_0 a0_1 a0_2 0) m 0 z51
    have hseq := pieces_seq (5 - 1) (by omega) _ _ _ (fun j => j = g ∨ j = g + 1 ∨ j = g + 2) a0_0 a0_1 a0_2 0 m (by omega) (fdOf a0_0 a0_1 a0_2 0) wx (fun j hj => by rcases hj with h | h | h <;> omega) (.inr (.inr rfl)) (.inl rfl) (.inr (.inl rfl)) G3.out G1.out G2.out (fun i _ => fd_ok hok 0 i)
    obtain ⟨T, hT⟩ : ∃ T, pcs (fdOf a0_0 a0_1 a0_2 0) m 0 z51 = T := ⟨_, rfl⟩
    rw [hT] at hseq hplen
    have hI : OwnR wx.heap.size (wx.heap.size + 2) 1 (fun (pre : List S51) W => Boxed W (w.heap.size + 1 + 1) 2 (.int .i64 (lenP a2 pre)) ∧ W.heap[w.heap.size + 1]? = some (Obj.cells #[Value.int IntKind.i64 a2] 3) ∧ W.heap[w.heap.size]? = some (Obj.cells #[Value.int IntKind.i64 a0_0, Value.int IntKind.i64 a0_1, Value.int IntKind.i64 a0_2] 23) ∧ (∀ r, lenS a0_2 a2 (pre ++ r) 0 = lenS a0_2 a2 r (lenP a2 pre)) ∧ Below w.heap.size w W) :=
      (ownR_box (by omega) (by omega) 2 _).and ((ownR_blk (by omega) (by omega) _).and ((ownR_blk (by omega) (by omega) _).and ((ownR_pure _).and (ownR_below (by omega) (by omega) (Nat.le_refl _)))))
    have hIx : ∀ c, OwnR wx.heap.size (wx.heap.size + 2) 1 ((fun (c : Code) (pre : List S51) (W : World) => Boxed W (w.heap.size + 1 + 1) 2 (.int .i64 (lenP a2 pre)) ∧ (c = Code.exit 0 ∧ ∀ r, lenS a0_2 a2 (pre ++ r) 0 = lenP a2 pre) ∧ Below w.heap.size w W) c) := fun c =>
      (ownR_box (by omega) (by omega) 2 _).and ((ownR_pure _).and (ownR_below (by omega) (by omega) (Nat.le_refl _)))
    show Exit.then _ _ Exit.normal _ _
    simp only [Exit.then]
    go_wp2_with fail
    refine (wpIn_wide (n := 5)).1 ?_
    refine wpIn_rangeR rfl (by omega) (gf := 42) rfl trivial (enters_of Tryd.func42 (by kernel_rfl) rfl) hseq (fun j hj => by rcases hj with h | h | h <;> omega) (fun _ => rfl)
      (fun (pre : List S51) W => Boxed W (w.heap.size + 1 + 1) 2 (.int .i64 (lenP a2 pre)) ∧ W.heap[w.heap.size + 1]? = some (Obj.cells #[Value.int IntKind.i64 a2] 3) ∧ W.heap[w.heap.size]? = some (Obj.cells #[Value.int IntKind.i64 a0_0, Value.int IntKind.i64 a0_1, Value.int IntKind.i64 a0_2] 23) ∧ (∀ r, lenS a0_2 a2 (pre ++ r) 0 = lenS a0_2 a2 r (lenP a2 pre)) ∧ Below w.heap.size w W)
      (fun (c : Code) (pre : List S51) (W : World) => Boxed W (w.heap.size + 1 + 1) 2 (.int .i64 (lenP a2 pre)) ∧ (c = Code.exit 0 ∧ ∀ r, lenS a0_2 a2 (pre ++ r) 0 = lenP a2 pre) ∧ Below w.heap.size w W) hI hIx ?h0
      (fun (x : S51) (a' : Act) (W : World) => ∃ b : Nat, W.heap[b]? = some (Obj.cells (cells51 x) 51 (0, 0)) ∧ a' = { tmps := #[Value.agg #[Value.int IntKind.i64 a0_0, Value.int IntKind.i64 a0_1, Value.int IntKind.i64 a0_2], Value.int IntKind.i64 a1, Value.int IntKind.i64 a2, Value.pointer (some ⟨w.heap.size, 0, none⟩), undef, Value.pointer (some ⟨w.heap.size + 1, 0, none⟩), Value.int IntKind.i64 0, Value.pointer (some ⟨w.heap.size + 1 + 1, 0, none⟩), Value.pointer (some ⟨b, 0, none⟩), Value.agg #[Value.int IntKind.i64 a0_0, Value.int IntKind.i64 a0_1, Value.int IntKind.i64 a0_2], Value.int IntKind.i64 a1, Value.int IntKind.i64 (m : Int), Value.func (.func 42) #[] #[Value.pointer (some ⟨g + 2, 0, none⟩), Value.pointer (some ⟨g, 0, none⟩), Value.pointer (some ⟨g + 1, 0, none⟩)], Value.agg (cells51 x), undef, undef, undef, undef, undef, undef, undef, undef, undef, undef, undef, undef, undef, undef, undef, undef], defers := [] }) ?hAx ?assign ?body ?done ?stop
    case h0 => exact ⟨bN, bX, bY, fun r => rfl, hB0⟩
    case hAx =>
      rintro x a' _ X Y row ⟨b, hb, ha⟩ hg hrow
      refine ⟨b, (hg.block b (blk_lt hb) (fun e => ?_)).trans hb, ha⟩
      obtain ⟨_, o, ho, hc⟩ := hrow b e.symm
      rw [hb] at ho; cases ho; cases hc
    case assign =>
      intro l pre x W K hi hsz hK
      obtain ⟨x0, x1, x2, x3⟩ := x
      simp only [cells51]
      gi_wp2
      refine hK _ _ ((KeepsOthers.alloc W _).from _) (KeepR.grown (World.grownBy_alloc W _ none) (fun j hj => ?_) hsz (fun _ e => by cases e) (fun _ _ _ e => by cases e)) (hI.lay _ hi) ⟨_, blk_new _ _, rfl⟩
      rcases hj with h | h | h <;> omega
    case body =>
      rintro l pre x a' W ⟨hv, hx, hy, hpure, hB⟩ ⟨b, hb, rfl⟩ hlt hsz
      obtain ⟨x0, x1, x2, x3⟩ := x
      simp only [cells51]
      obtain ⟨q0, q1, q2, q3⟩ := blkC4 W b _ _ _ _ hb
      have hc := hv.cell
      have hf := hv.frozen
      have hcx : W.cell? ⟨w.heap.size + 1, 0, none⟩ = some (.int .i64 a2) := (blk_cell hx 0).trans rfl
      have hcy : W.cell? ⟨w.heap.size, 2, none⟩ = some (.int .i64 a0_2) := (blk_cell hy 2).trans rfl
      have bl : lenP a2 (pre ++ [⟨x0, x1, x2, x3⟩]) = lenN a2 (lenP a2 pre) ⟨x0, x1, x2, x3⟩ := lenP_app _ _ _
      have go1 : ∀ r, lenS a0_2 a2 ((pre ++ [⟨x0, x1, x2, x3⟩]) ++ r) 0 = if lenP a2 (pre ++ [⟨x0, x1, x2, x3⟩]) = a0_2 then a0_2 else lenS a0_2 a2 r (lenP a2 (pre ++ [⟨x0, x1, x2, x3⟩])) := fun r => by
        rw [List.append_assoc, hpure, bl]; rfl
      have keepS : ∀ u : Int, KeepR (fun j => j = g ∨ j = g + 1 ∨ j = g + 2) (fun t => t = 62) (wx.heap.size + 2) 1 W (W.setCell { block := w.heap.size + 1 + 1, off := 0 } (Value.int IntKind.i64 u)) := fun u => by
        refine KeepR.grown (grownBy_setCell' W _ _) (fun j hj => by rcases hj with h | h | h <;> omega) (by omega) (fun r e => ?_) (fun r cs t e ht => ?_)
        · cases e
          exact ⟨fun h => by rcases h with h | h | h <;> omega, by omega⟩
        · cases e
          rw [show W.heap[w.heap.size + 1 + 1]? = _ from hv]
          intro h
          cases h
          cases ht
      have belS : ∀ u : Int, Below w.heap.size w (W.setCell { block := w.heap.size + 1 + 1, off := 0 } (Value.int IntKind.i64 u)) := fun u => hB.grown (grownBy_setCell' W _ _) (by have := hB.size; omega) (fun r e => by cases e; omega)
      have xS : ∀ u : Int, (W.setCell { block := w.heap.size + 1 + 1, off := 0 } (Value.int IntKind.i64 u)).heap[w.heap.size + 1]? = some (Obj.cells #[Value.int IntKind.i64 a2] 3) := fun u => blk_far hx (by show w.heap.size + 1 ≠ w.heap.size + 1 + 1; omega) _
      have yS : ∀ u : Int, (W.setCell { block := w.heap.size + 1 + 1, off := 0 } (Value.int IntKind.i64 u)).heap[w.heap.size]? = some (Obj.cells #[Value.int IntKind.i64 a0_0, Value.int IntKind.i64 a0_1, Value.int IntKind.i64 a0_2] 23) := fun u => blk_far hy (by show w.heap.size ≠ w.heap.size + 1 + 1; omega) _
      have arm : ∀ u : Int, u = lenP a2 (pre ++ [⟨x0, x1, x2, x3⟩]) → (W.setCell { block := w.heap.size + 1 + 1, off := 0 } (Value.int IntKind.i64 u)).cell? ⟨w.heap.size + 1 + 1, 0, none⟩ = some (.int .i64 u) ∧ (W.setCell { block := w.heap.size + 1 + 1, off := 0 } (Value.int IntKind.i64 u)).cell? ⟨w.heap.size, 2, none⟩ = some (.int .i64 a0_2) := fun u hu => ⟨(hv.set _).cell, (blk_cell (yS u) 2).trans rfl⟩
      by_cases e1 : x0 = a2
      · have e1b : (x0 == a2) = true := beq_iff_eq.2 e1
        obtain ⟨u, hu, huv⟩ : ∃ u, u = lenP a2 (pre ++ [⟨x0, x1, x2, x3⟩]) ∧ u = (if lenP a2 pre < wrap64 (x1 + x2) then wrap64 (x1 + x2) else lenP a2 pre) := ⟨_, rfl, by rw [bl]; unfold lenN; rw [if_pos e1]⟩
        obtain ⟨c1, c2⟩ := arm u hu
        by_cases e3 : u = a0_2
        · have e3b : (u == a0_2) = true := beq_iff_eq.2 e3
          have fin : ∀ a', ownPostG wx.heap.size (KeepR (fun j => j = g ∨ j = g + 1 ∨ j = g + 2) (fun t => t = 62) (wx.heap.size + 2) 1) (fun (pre : List S51) W => Boxed W (w.heap.size + 1 + 1) 2 (.int .i64 (lenP a2 pre)) ∧ W.heap[w.heap.size + 1]? = some (Obj.cells #[Value.int IntKind.i64 a2] 3) ∧ W.heap[w.heap.size]? = some (Obj.cells #[Value.int IntKind.i64 a0_0, Value.int IntKind.i64 a0_1, Value.int IntKind.i64 a0_2] 23) ∧ (∀ r, lenS a0_2 a2 (pre ++ r) 0 = lenS a0_2 a2 r (lenP a2 pre)) ∧ Below w.heap.size w W) (fun (c : Code) (pre : List S51) (W : World) => Boxed W (w.heap.size + 1 + 1) 2 (.int .i64 (lenP a2 pre)) ∧ (c = Code.exit 0 ∧ ∀ r, lenS a0_2 a2 (pre ++ r) 0 = lenP a2 pre) ∧ Below w.heap.size w W) (pre ++ [⟨x0, x1, x2, x3⟩]) W (Exit.exit 0) a' (W.setCell { block := w.heap.size + 1 + 1, off := 0 } (Value.int IntKind.i64 u)) := fun a' =>
            ⟨(KeepsOthers.setCell _ _ _).from _, by rw [← hu]; exact hv.set _, ⟨rfl, fun r => by rw [go1 r, ← hu, if_pos e3]; exact e3.symm⟩, belS u⟩
          by_cases e2 : lenP a2 pre < wrap64 (x1 + x2)
          · rw [if_pos e2] at huv
            subst huv
            clear hu e3 e1 arm xS yS keepS belS go1 bl hpure hx hy
            gi_wp2
            all_goals exact fin _
          · rw [if_neg e2] at huv
            subst huv
            clear hu e3 e1 arm xS yS keepS belS go1 bl hpure hx hy
            gi_wp2
            all_goals exact fin _
        · have e3b : (u == a0_2) = false := beq_eq_false_iff_ne.2 e3
          have fin : ∀ a', ownPostG wx.heap.size (KeepR (fun j => j = g ∨ j = g + 1 ∨ j = g + 2) (fun t => t = 62) (wx.heap.size + 2) 1) (fun (pre : List S51) W => Boxed W (w.heap.size + 1 + 1) 2 (.int .i64 (lenP a2 pre)) ∧ W.heap[w.heap.size + 1]? = some (Obj.cells #[Value.int IntKind.i64 a2] 3) ∧ W.heap[w.heap.size]? = some (Obj.cells #[Value.int IntKind.i64 a0_0, Value.int IntKind.i64 a0_1, Value.int IntKind.i64 a0_2] 23) ∧ (∀ r, lenS a0_2 a2 (pre ++ r) 0 = lenS a0_2 a2 r (lenP a2 pre)) ∧ Below w.heap.size w W) (fun (c : Code) (pre : List S51) (W : World) => Boxed W (w.heap.size + 1 + 1) 2 (.int .i64 (lenP a2 pre)) ∧ (c = Code.exit 0 ∧ ∀ r, lenS a0_2 a2 (pre ++ r) 0 = lenP a2 pre) ∧ Below w.heap.size w W) (pre ++ [⟨x0, x1, x2, x3⟩]) W Exit.normal a' (W.setCell { block := w.heap.size + 1 + 1, off := 0 } (Value.int IntKind.i64 u)) := fun a' =>
            ⟨(KeepsOthers.setCell _ _ _).from _, keepS u, by rw [← hu]; exact hv.set _, xS u, yS u, fun r => by rw [go1 r, ← hu, if_neg e3], belS u⟩
          by_cases e2 : lenP a2 pre < wrap64 (x1 + x2)
          · rw [if_pos e2] at huv
            subst huv
            clear hu e3 e1 arm xS yS keepS belS go1 bl hpure hx hy
            gi_wp2
            all_goals exact fin _
          · rw [if_neg e2] at huv
            subst huv
            clear hu e3 e1 arm xS yS keepS belS go1 bl hpure hx hy
            gi_wp2
            all_goals exact fin _
      · have e1b : (x0 == a2) = false := beq_eq_false_iff_ne.2 e1
        have hu : lenP a2 pre = lenP a2 (pre ++ [⟨x0, x1, x2, x3⟩]) := by rw [bl]; unfold lenN; rw [if_neg e1]
        by_cases e3 : lenP a2 pre = a0_2
        · have e3b : (lenP a2 pre == a0_2) = true := beq_iff_eq.2 e3
          have fin : ∀ a', ownPostG wx.heap.size (KeepR (fun j => j = g ∨ j = g + 1 ∨ j = g + 2) (fun t => t = 62) (wx.heap.size + 2) 1) (fun (pre : List S51) W => Boxed W (w.heap.size + 1 + 1) 2 (.int .i64 (lenP a2 pre)) ∧ W.heap[w.heap.size + 1]? = some (Obj.cells #[Value.int IntKind.i64 a2] 3) ∧ W.heap[w.heap.size]? = some (Obj.cells #[Value.int IntKind.i64 a0_0, Value.int IntKind.i64 a0_1, Value.int IntKind.i64 a0_2] 23) ∧ (∀ r, lenS a0_2 a2 (pre ++ r) 0 = lenS a0_2 a2 r (lenP a2 pre)) ∧ Below w.heap.size w W) (fun (c : Code) (pre : List S51) (W : World) => Boxed W (w.heap.size + 1 + 1) 2 (.int .i64 (lenP a2 pre)) ∧ (c = Code.exit 0 ∧ ∀ r, lenS a0_2 a2 (pre ++ r) 0 = lenP a2 pre) ∧ Below w.heap.size w W) (pre ++ [⟨x0, x1, x2, x3⟩]) W (Exit.exit 0) a' W := fun a' =>
            ⟨KeepsFrom.refl _ _, by rw [← hu]; exact hv, ⟨rfl, fun r => by rw [go1 r, ← hu, if_pos e3]; exact e3.symm⟩, hB⟩
          clear hu e3 e1 arm xS yS keepS belS go1 bl hpure hx hy
          gi_wp2
          all_goals exact fin _
        · have e3b : (lenP a2 pre == a0_2) = false := beq_eq_false_iff_ne.2 e3
          have fin : ∀ a', ownPostG wx.heap.size (KeepR (fun j => j = g ∨ j = g + 1 ∨ j = g + 2) (fun t => t = 62) (wx.heap.size + 2) 1) (fun (pre : List S51) W => Boxed W (w.heap.size + 1 + 1) 2 (.int .i64 (lenP a2 pre)) ∧ W.heap[w.heap.size + 1]? = some (Obj.cells #[Value.int IntKind.i64 a2] 3) ∧ W.heap[w.heap.size]? = some (Obj.cells #[Value.int IntKind.i64 a0_0, Value.int IntKind.i64 a0_1, Value.int IntKind.i64 a0_2] 23) ∧ (∀ r, lenS a0_2 a2 (pre ++ r) 0 = lenS a0_2 a2 r (lenP a2 pre)) ∧ Below w.heap.size w W) (fun (c : Code) (pre : List S51) (W : World) => Boxed W (w.heap.size + 1 + 1) 2 (.int .i64 (lenP a2 pre)) ∧ (c = Code.exit 0 ∧ ∀ r, lenS a0_2 a2 (pre ++ r) 0 = lenP a2 pre) ∧ Below w.heap.size w W) (pre ++ [⟨x0, x1, x2, x3⟩]) W Exit.normal a' W := fun a' =>
            ⟨KeepsFrom.refl _ _, KeepR.refl _ _ _ _ _, by rw [← hu]; exact hv, hx, hy, fun r => by rw [go1 r, ← hu, if_neg e3], hB⟩
          clear hu e3 e1 arm xS yS keepS belS go1 bl hpure hx hy
          gi_wp2
          all_goals exact fin _
    case done =>
      rintro D zs W hD rfl ⟨hv, hx, hy, hpure, hB⟩ hK
      have hc := hv.cell
      have hfin : lenS a0_2 a2 zs 0 = lenP a2 zs := by have := hpure []; rwa [List.append_nil] at this
      go_wp2_with fail
      refine ⟨by simp, .inl ⟨_, _, rfl, run_takeDeferred hK, ?_⟩⟩
      exact ⟨_, results_tmp rfl _ _ _, by rw [hT, hfin]; rfl, hB.grown (grownBy_putObj' W D _) (by have := hB.size; omega) (fun r e => by cases e; omega)⟩
    case stop =>
      rintro D c pre W hD ⟨r, _, hr⟩ ⟨hv, ⟨rfl, hpure⟩, hB⟩ hK
      have hc := hv.cell
      have hfin : lenS a0_2 a2 T 0 = lenP a2 pre := by rw [← hr]; exact hpure r
      refine wpIn_wide.2 ?_
      go_wp2_with fail
      simp only [Exit.noGoto]
      refine ⟨by simp, .inl ⟨_, _, rfl, run_takeDeferred hK, ?_⟩⟩
      exact ⟨_, results_tmp rfl _ _ _, by rw [hT, hfin]; rfl, hB.grown (grownBy_putObj' W D _) (by have := hB.size; omega) (fun r e => by cases e; omega)⟩
end Go.Proofs.YteajaofcgcgodaaDoor.P
