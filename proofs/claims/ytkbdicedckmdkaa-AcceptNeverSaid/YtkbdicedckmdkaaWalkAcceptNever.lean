/- AcceptNever: its walk. -/
import Derived.Test.YtkbdicedckmdkaaPureNever0
import Derived.Test.YtkbdicedckmdkaaP13
import Derived.Test.YtkbdicedckmdkaaP5
import Derived.Test.YtkbdicedckmdkaaOps
import Derived.Deep.RegionHeld3
import Derived.Deep.DeepCutAuto
import Derived.Laws.Rows
namespace Go.Proofs.Ytkbdicedckmdkaa.P
open Go.RowKit Go.Proofs.YtkbdicedckmdkaaW.PrintWords Go.Proofs.YtkbdicedckmdkaaW.PrintLast Go.Proofs.YtkbdicedckmdkaaW.PrintMore
open Go.Proofs.Ytkbdicedckmdkaa.Pure.Nv
set_option linter.unusedVariables false
set_option linter.unusedSimpArgs false

section
variable {P : Program} {ops : Array Oper} {rest : List Oper} {o : Oper} {a : Act} {Q : Exit → Act → World → Prop} {W : World}
theorem store_row15 (hgd : o.guard = none) (ty : TypeId) (x y : Operand) (ho : o.op = .store ty x y) (g : Nat) (cells : Array Value) (hx : a.eval x = .pointer (some ⟨g, 0, none⟩)) (hy : a.eval y = .agg cells) (t : TypeId) (old : Array Value) (hg : W.heap[g]? = some (.cells old t (0, 0))) (hi : (P.info? ty).map (·.size) = some cells.size) (hold : old.size = cells.size) (h1 : cells.all (·.oneCell') = true)
    (h : ∀ W', W'.heap[g]? = some (.cells cells t (0, 0)) → W.grownBy W' (some g) → W'.heap.size = W.heap.size → wpList P ops Q rest (a.put o.dst undef) W') : wpList P ops Q (o :: rest) a W :=
  wpList_store_row hgd ty x y ho g cells hx hy t old hg hi hold h1 (h _ (setRow_heap W g _ _ t _ hg) ⟨rfl, rfl, rfl, by simp [World.setRow], fun k _ hk => setRow_other W g k cells (fun e => hk (by rw [e]))⟩ (by simp [World.setRow]))
end
theorem info27s : (Try.prog.info? 27).map (·.size) = some 7 := by kernel_rfl
theorem info63s : (Try.prog.info? 63).map (·.size) = some 6 := by kernel_rfl
theorem below_row {w W X : World} {g : Nat} (h : Below w.heap.size w W) (hg : W.grownBy X (some g)) (hgw : w.heap.size ≤ g) : Below w.heap.size w X := h.grown hg h.size (fun k e => by cases e; exact hgw)

abbrev cellsS (s : St) (v : Value) : Array Value := #[.int .i64 s.pr, .int .i64 s.pm, .bool s.has, .int .i64 s.ar, .int .i64 s.am, .string s.v, v]
structure At (w : World) (g : Nat) (s : St) (v : Value) (W : World) : Prop where
  ge : w.heap.size ≤ g
  bk : W.heap[g]? = some (.cells #[.int .i64 s.pr, .int .i64 s.pm, .bool s.has, .int .i64 s.ar, .int .i64 s.am, .string s.v, v] 27 (0, 0))
  r : Kd.R Kd.string 9 W w.heap.size (fun _ => True) v s.c
  b : Below w.heap.size w W
theorem blk_row {W X : World} {g g' : Nat} {o : Obj} (h : W.heap[g]? = some o) (hG : W.grownBy X (some g')) (ne : g ≠ g') : X.heap[g]? = some o := (hG.block g (blk_lt h) (fun e => ne (by injection e))).trans h
theorem R_row {W X : World} {g t : Nat} {cs : Array Value} {base : Nat} {v : Value} {l : List ByteArray} (h : Kd.R Kd.string 9 W base (fun _ => True) v l) (hg : W.heap[g]? = some (.cells cs t (0, 0))) (ht : ∀ q, q ∈ 9 :: Kd.string.E → q ≠ t) (hG : W.grownBy X (some g)) : Kd.R Kd.string 9 X base (fun _ => True) v l :=
  Kd.R_mono (Kd.R_grown (Kd.R_types h hg ht) hG (fun k hk e => hk.2 (by injection e))) (fun _ _ => trivial)
theorem At.below {w W X : World} {g : Nat} {s : St} {v : Value} (h : At w g s v W) (hb : Below W.heap.size W X) : At w g s v X := ⟨h.ge, blk_below h.bk hb, Kd.R_below h.r hb, below_step h.b hb⟩
theorem At.row {w W X : World} {g g' t : Nat} {cs : Array Value} {s : St} {v : Value} (h : At w g s v W) (hg : W.heap[g']? = some (.cells cs t (0, 0))) (ht : ∀ q, q ∈ 9 :: Kd.string.E → q ≠ t) (ne : g ≠ g') (hge : w.heap.size ≤ g') (hG : W.grownBy X (some g')) : At w g s v X :=
  ⟨h.ge, blk_row h.bk hG ne, R_row h.r hg ht hG, below_row h.b hG hge⟩
theorem At.lt {w W : World} {g : Nat} {s : St} {v : Value} (h : At w g s v W) : g < W.heap.size := blk_lt h.bk
theorem At.put {w W X : World} {g : Nat} {s b : St} {v v' : Value} (h : At w g s v W) (hr : Kd.R Kd.string 9 W w.heap.size (fun _ => True) v' b.c) (hG : W.grownBy X (some g)) (hn : X.heap[g]? = some (.cells #[.int .i64 b.pr, .int .i64 b.pm, .bool b.has, .int .i64 b.ar, .int .i64 b.am, .string b.v, v'] 27 (0, 0))) : At w g b v' X :=
  ⟨h.ge, hn, R_row hr h.bk (by decide) hG, below_row h.b hG h.ge⟩
theorem texts_self (l : List ByteArray) (hl : l.length < 9223372036854775807) : Ev (fun k => reefref15_Texts.f k l l) true := by
  have : ∀ (d i : Nat), i + d = l.length → Ev (fun k => reefref15_Texts.l0 k l l i) true := by
    intro d
    induction d with
    | zero =>
      intro i hi
      refine Ev.step (f := fun _ => some true) (fun k => ?_) (Ev.now _)
      simp only [reefref15_Texts.l0]
      rw [if_neg (by omega)]
    | succ d ih =>
      intro i hi
      refine Ev.step (f := fun k => reefref15_Texts.l0 k l l ((i + 1 : Nat) : Int)) (fun k => ?_) (ih (i + 1) (by omega))
      simp only [reefref15_Texts.l0]
      rw [if_pos (by omega), if_pos (by omega), if_pos (by omega), if_true, Pure.Nv.wrap_of (by omega) (by omega)]
      rfl
  refine Ev.congr (f := fun k => reefref15_Texts.l0 k l l (0 : Nat)) (fun k => ?_) (this l.length 0 (by omega))
  simp only [reefref15_Texts.f, if_true]
  rfl

theorem awake_ev : Ev (fun k => reeflaw15_awake.f k) true := Ev.of (k := 12) (fun k => reeflaw15_awake.mono k) (by decide +kernel)
theorem drawn_below {w X : World} (h : Drawn0 w X) : Below w.heap.size w X := by
  obtain ⟨n, rfl⟩ := h
  exact ⟨rfl, rfl, rfl, Nat.le_refl _, fun _ _ => rfl⟩
abbrev Lc (g3 g6 : Nat) (s b : St) (v v' : Value) (w0 W : World) : Prop := W.cell? ⟨g3, 0, none⟩ = some (.int .i64 s.pr) ∧ W.cell? ⟨g3, 1, none⟩ = some (.int .i64 s.pm) ∧ W.cell? ⟨g3, 2, none⟩ = some (.bool s.has) ∧ W.cell? ⟨g3, 3, none⟩ = some (.int .i64 s.ar) ∧ W.cell? ⟨g3, 4, none⟩ = some (.int .i64 s.am) ∧ W.cell? ⟨g3, 5, none⟩ = some (.string s.v) ∧ W.cell? ⟨g3, 6, none⟩ = some (v) ∧ W.cell? ⟨g6, 0, none⟩ = some (.int .i64 b.pr) ∧ W.cell? ⟨g6, 1, none⟩ = some (.int .i64 b.pm) ∧ W.cell? ⟨g6, 2, none⟩ = some (.bool b.has) ∧ W.cell? ⟨g6, 3, none⟩ = some (.int .i64 b.ar) ∧ W.cell? ⟨g6, 4, none⟩ = some (.int .i64 b.am) ∧ W.cell? ⟨g6, 5, none⟩ = some (.string b.v) ∧ W.cell? ⟨g6, 6, none⟩ = some (v') ∧ Below w0.heap.size w0 W
theorem lc_b {g3 g6 : Nat} {s b : St} {v v' : Value} {w0 W : World} (h : Lc g3 g6 s b v v' w0 W) : Below w0.heap.size w0 W := h.2.2.2.2.2.2.2.2.2.2.2.2.2.2
theorem lc_below {g3 g6 : Nat} {s b : St} {v v' : Value} {w0 W X : World} (h : Lc g3 g6 s b v v' w0 W) (hb : Below W.heap.size W X) : Lc g3 g6 s b v v' w0 X := by
  obtain ⟨h0, h1, h2, h3, h4, h5, h6, k0, k1, k2, k3, k4, k5, k6, hw⟩ := h
  exact ⟨(hb.cell (World.block_lt_of_cell? W _ h0)).trans h0, (hb.cell (World.block_lt_of_cell? W _ h1)).trans h1, (hb.cell (World.block_lt_of_cell? W _ h2)).trans h2, (hb.cell (World.block_lt_of_cell? W _ h3)).trans h3, (hb.cell (World.block_lt_of_cell? W _ h4)).trans h4, (hb.cell (World.block_lt_of_cell? W _ h5)).trans h5, (hb.cell (World.block_lt_of_cell? W _ h6)).trans h6, (hb.cell (World.block_lt_of_cell? W _ k0)).trans k0, (hb.cell (World.block_lt_of_cell? W _ k1)).trans k1, (hb.cell (World.block_lt_of_cell? W _ k2)).trans k2, (hb.cell (World.block_lt_of_cell? W _ k3)).trans k3, (hb.cell (World.block_lt_of_cell? W _ k4)).trans k4, (hb.cell (World.block_lt_of_cell? W _ k5)).trans k5, (hb.cell (World.block_lt_of_cell? W _ k6)).trans k6, below_step hw hb⟩
theorem lc_mk {w W : World} {g3 g6 : Nat} {s b : St} {v v' : Value} (h : At w g3 s v W) (k : At w g6 b v' W) : Lc g3 g6 s b v v' W W := by
  obtain ⟨h0, h1, h2, h3, h4, h5, h6⟩ := blkC7 W g3 _ _ _ _ _ _ _ h.bk
  obtain ⟨k0, k1, k2, k3, k4, k5, k6⟩ := blkC7 W g6 _ _ _ _ _ _ _ k.bk
  exact ⟨h0, h1, h2, h3, h4, h5, h6, k0, k1, k2, k3, k4, k5, k6, Below.refl _ _⟩
theorem wf_i64 {x : Int} (h : (Lit.int .i64 x).wf = true) : -9223372036854775808 ≤ x ∧ x < 9223372036854775808 := by
  simp [Lit.wf, IntKind.min, IntKind.max, IntKind.bits, IntKind.signed] at h
  omega
theorem rd_mem {l : List S63} {k : Nat} (h : k < l.length) : rd_T63 l (k : Int) ∈ l := by
  unfold rd_T63
  rw [Int.toNat_natCast, List.getD_eq_getElem?_getD, List.getElem?_eq_getElem h]
  exact List.getElem_mem h
set_option maxHeartbeats 16000000 in
set_option maxRecDepth 100000 in
theorem reeflaw15_AcceptNever.walk (A0 : Option Addr) (c0 : Nat) (l0 : List (S63)) (w : World) (hr0 : Kd.C k63 w A0 l0.length l0) (hc0 : l0.length ≤ c0) (g0 : G61 l0) :
    Calls Try.prog 5 #[.slice A0 l0.length c0] w fun e w' => e = .returned (.bool true) ∧ Below w.heap.size w w' := by
  have HR := Aside0.mk hr0
  have hm := Kd.C_max hr0
  have HG := Aside0.mk g0
  clear hr0 g0
  have hu27 := Try.underlying27
  have hu63 := Try.underlying63
  have hu24 := Try.underlying24
  go_enter Try.func5, Try.ntmps5
  go_wp2_with (first | ((with_reducible refine gate_dst (N := 3) rfl ?_); refine box_event ?hg (N := 3) ?hd (cs := #[.int .i64 0, .int .i64 0, .bool false, .int .i64 0, .int .i64 0, .string ⟨#[]⟩, .slice none 0 0]) (t := 27) ?hr ?_; (case hd => rfl); (case hg => rfl); (case hr => first | (go_simp; done) | (go_simp; rfl)); intro g3 hgg3 w1 hboxg3 hbg3; have BK3 := Aside0.mk hboxg3; have GE3 := Aside0.mk (Nat.le_of_eq hgg3.symm : w.heap.size ≤ g3); have HB := Aside0.mk hbg3; clear hgg3 hboxg3 hbg3) | ((with_reducible refine gate_store (p := 3) (v := .tmp 7) rfl ?_); refine store_row15 rfl 27 (.tmp 3) (.tmp 7) rfl g3 #[.int .i64 0, .int .i64 0, .bool false, .int .i64 0, .int .i64 0, .string ⟨#[]⟩, .slice none 0 0] ?pa ?qa 27 #[.int .i64 0, .int .i64 0, .bool false, .int .i64 0, .int .i64 0, .string ⟨#[]⟩, .slice none 0 0] BK3.out info27s rfl (by simp [Value.oneCell']) ?_; (case pa => first | rfl | (simp; done) | (go_simp; done)); (case qa => first | rfl | (simp; done) | (go_simp; done)); intro w2 hna hga hsa; have BK3' := Aside0.mk hna; have HB' := Aside0.mk (below_row HB.out hga GE3.out); clear BK3 HB hna hga hsa; have BK3 := BK3'; have HB := HB'; clear BK3' HB'))
  go_loopw [10] (fun i wr => ∃ (k : Nat) (s : St) (v : Value), k ≤ l0.length ∧ i = .int .i64 (k : Int) ∧ Aside0 (FitP s) ∧ Aside0 (At w g3 s v wr)) (fun i _ => l0.length - (intOf i).toNat)
  case atStart => exact ⟨0, ⟨0, 0, false, 0, 0, ⟨#[]⟩, []⟩, .slice none 0 0, Nat.zero_le _, rfl, ⟨fit_zero⟩, ⟨⟨GE3.out, BK3.out, Kd.R_nil _ _ _ _ _, HB.out⟩⟩⟩
  case round =>
    clear BK3 HB
    obtain ⟨k, s, v, hk, rfl, HF, AT⟩ := hrel
    obtain ⟨A, c, rfl⟩ := Kd.R_slice AT.out.r
    by_cases hlt : k < l0.length
    · obtain ⟨ad, A5, c5, hAd, hx0, hx1, hx2, hx3, hx4, hx5, h5c, hC5⟩ := at_T63 HR.out (k : Int) (by omega) (by omega)
      cases hAd
      have hgx := HG.out.2.2 _ (rd_mem hlt)
      obtain ⟨x, hx⟩ : ∃ x, rd_T63 l0 (k : Int) = x := ⟨_, rfl⟩
      simp only [hx, Int.toNat_natCast] at hx0 hx1 hx2 hx3 hx4 hx5 h5c hC5 hgx
      clear hx
      have H5 := Aside0.mk h5c
      have HC5 := Aside0.mk hC5
      have HGX := Aside0.mk hgx
      clear h5c hC5 hgx
      replace hx0 := (AT.out.b.cell (World.block_lt_of_cell? w _ hx0)).trans hx0
      replace hx1 := (AT.out.b.cell (World.block_lt_of_cell? w _ hx1)).trans hx1
      replace hx2 := (AT.out.b.cell (World.block_lt_of_cell? w _ hx2)).trans hx2
      replace hx3 := (AT.out.b.cell (World.block_lt_of_cell? w _ hx3)).trans hx3
      replace hx4 := (AT.out.b.cell (World.block_lt_of_cell? w _ hx4)).trans hx4
      replace hx5 := (AT.out.b.cell (World.block_lt_of_cell? w _ hx5)).trans hx5
      go_upto_region 6 with (first | ((with_reducible refine gate_dst (N := 5) rfl ?_); refine box_event ?hg (N := 5) ?hd (cs := #[.int .i64 0, .int .i64 0, .int .i64 0, .int .i64 0, .string ⟨#[]⟩, .slice none 0 0]) (t := 63) ?hr ?_; (case hd => rfl); (case hg => rfl); (case hr => first | (go_simp; done) | (go_simp; rfl)); intro g5 hgg5 w3 hboxg5 hbg5; have GE5 := Aside0.mk (by rw [hgg5]; exact AT.out.b.size : w.heap.size ≤ g5); have NE5 := Aside0.mk (by rw [hgg5]; exact Nat.ne_of_lt AT.out.lt : g3 ≠ g5); have AT' := Aside0.mk (AT.out.below hbg5); have BK5 := Aside0.mk hboxg5; clear hgg5 hboxg5 hbg5; clear AT; have AT := AT'; clear AT') | ((with_reducible refine gate_store (p := 5) (v := .tmp 13) rfl ?_); refine store_row15 rfl 63 (.tmp 5) (.tmp 13) rfl g5 #[.int .i64 x.f0, .int .i64 x.f1.f0, .int .i64 x.f1.f1, .int .i64 x.f2, .string x.f3, .slice A5 x.f4.length c5] ?pb ?qb 63 #[.int .i64 0, .int .i64 0, .int .i64 0, .int .i64 0, .string ⟨#[]⟩, .slice none 0 0] BK5.out info63s rfl (by simp [Value.oneCell']) ?_; (case pb => first | rfl | (simp; done) | (go_simp; done)); (case qb => first | rfl | (simp; done) | (go_simp; done)); intro w4 hnb hgb hsb; have AT' := Aside0.mk (AT.out.row BK5.out (by decide) NE5.out GE5.out hgb); have BK5' := Aside0.mk hnb; clear hnb hgb hsb hx0 hx1 hx2 hx3 hx4 hx5; clear AT; have AT := AT'; clear AT'; clear BK5; have BK5 := BK5'; clear BK5'; obtain ⟨ca0, ca1, ca2, ca3, ca4, ca5, ca6⟩ := blkC7 w4 g3 _ _ _ _ _ _ _ AT.out.bk) | ((with_reducible refine gate_dst (N := 6) rfl ?_); refine box_event ?hg (N := 6) ?hd (cs := #[.int .i64 0, .int .i64 0, .bool false, .int .i64 0, .int .i64 0, .string ⟨#[]⟩, .slice none 0 0]) (t := 27) ?hr ?_; (case hd => rfl); (case hg => rfl); (case hr => first | (go_simp; done) | (go_simp; rfl)); intro g6 hgg6 w5 hboxg6 hbg6; have GE6 := Aside0.mk (by rw [hgg6]; exact AT.out.b.size : w.heap.size ≤ g6); have NE6 := Aside0.mk (by rw [hgg6]; exact Nat.ne_of_lt AT.out.lt : g3 ≠ g6); have NE56 := Aside0.mk (by rw [hgg6]; exact Nat.ne_of_lt (blk_lt BK5.out) : g5 ≠ g6); have AT' := Aside0.mk (AT.out.below hbg6); have BK5' := Aside0.mk (blk_below BK5.out hbg6); have BK6 := Aside0.mk hboxg6; clear hgg6 hboxg6 hbg6; clear AT; have AT := AT'; clear AT'; clear BK5; have BK5 := BK5'; clear BK5') | ((with_reducible refine gate_store (p := 6) (v := .tmp 14) rfl ?_); refine store_row15 rfl 27 (.tmp 6) (.tmp 14) rfl g6 #[.int .i64 s.pr, .int .i64 s.pm, .bool s.has, .int .i64 s.ar, .int .i64 s.am, .string s.v, .slice A s.c.length c] ?pc ?qc 27 #[.int .i64 0, .int .i64 0, .bool false, .int .i64 0, .int .i64 0, .string ⟨#[]⟩, .slice none 0 0] BK6.out info27s rfl (by simp [Value.oneCell']) ?_; (case pc => first | rfl | (simp; done) | (go_simp; done)); (case qc => first | rfl | (simp; done) | (go_simp; done)); intro w6 hnc hgc hsc; have BK5' := Aside0.mk (blk_row BK5.out hgc NE56.out); have AT' := Aside0.mk (AT.out.row BK6.out (by decide) NE6.out GE6.out hgc); have BK6' := Aside0.mk hnc; clear hnc hgc hsc ca0 ca1 ca2 ca3 ca4 ca5 ca6; clear AT; have AT := AT'; clear AT'; clear BK5; have BK5 := BK5'; clear BK5'; clear BK6; have BK6 := BK6'; clear BK6'))
      obtain ⟨cb0, cb1, cb2, cb3, cb4, cb5⟩ := blkC6 w6 g5 _ _ _ _ _ _ BK5.out
      iterate 9 (first | go_step | go_upon | go_simp)
      (first | go_upon | go_back | go_step)
      go_cut [16] (fun v16 wc => ∃ (b : St) (v' : Value), Aside0 (Pure.Nv.Good s b) ∧ Aside0 (At w g3 s (.slice A s.c.length c) wc) ∧ Aside0 (At w g6 b v' wc))
      case first =>
        obtain ⟨ca0, ca1, ca2, ca3, ca4, ca5, ca6⟩ := blkC7 w6 g3 _ _ _ _ _ _ _ AT.out.bk
        by_cases e1 : x.f0 = 1
        · obtain ⟨b, ok, pf, hg⟩ := prepare_ok s HF.out x.f1.f0 x.f1.f1
          have PF := Aside0.mk pf
          have GD := Aside0.mk hg
          clear pf hg
          have q1 : (x.f0 == 1) = true := by simpa using e1
          have q1' : decide (x.f0 = 1) = true := by simpa using e1
          clear e1
          go_wp2_with (first | (go_at_call 6; refine (accept_Prepare.calls _ _ _ _ _ _ A c s.c _ _ _ _ _ _ _ _ _ _ _ ?h1 ?h2 PF.out).mono ?_; (case h1 => exact (Kd.R_reads' AT.out.r).2.2); (case h2 => exact (Kd.R_reads' AT.out.r).2.1); rintro e w7 ⟨v6_, rfl, hr7, hb7⟩; have R7 := Aside0.mk (Kd.R_lower hr7 AT.out.b.size); obtain ⟨A7, c7, rfl⟩ := Kd.R_slice hr7; have AT' := Aside0.mk (AT.out.below hb7); have BK6' := Aside0.mk (blk_below BK6.out hb7); clear hr7 hb7 BK5 ca0 ca1 ca2 ca3 ca4 ca5 ca6 cb0 cb1 cb2 cb3 cb4 cb5; clear AT; have AT := AT'; clear AT'; clear BK6; have BK6 := BK6'; clear BK6') | ((with_reducible refine gate_store (p := 6) (v := .tmp 24) rfl ?_); refine store_row15 rfl 27 (.tmp 6) (.tmp 24) rfl g6 #[.int .i64 b.pr, .int .i64 b.pm, .bool b.has, .int .i64 b.ar, .int .i64 b.am, .string b.v, .slice A7 b.c.length c7] ?pd ?qd 27 #[.int .i64 s.pr, .int .i64 s.pm, .bool s.has, .int .i64 s.ar, .int .i64 s.am, .string s.v, .slice A s.c.length c] BK6.out info27s rfl (by simp [Value.oneCell']) ?_; (case pd => first | rfl | (simp; done) | (go_simp; done)); (case qd => first | rfl | (simp; done) | (go_simp; done)); intro w8 hnd hgd hsd; have BT := Aside0.mk (At.mk GE6.out hnd (R_row R7.out BK6.out (by decide) hgd) (below_row AT.out.b hgd GE6.out)); have AT' := Aside0.mk (AT.out.row BK6.out (by decide) NE6.out GE6.out hgd); clear hnd hgd hsd BK6 R7; clear AT; have AT := AT'; clear AT'))
          go_meet
          case rel => exact ⟨b, _, GD, AT, BT⟩
        · have q1 : (x.f0 == 1) = false := by simpa using e1
          have q1' : decide (x.f0 = 1) = false := by simpa using e1
          clear e1
          by_cases e2 : x.f0 = 2
          · obtain ⟨b, n, ev, hg⟩ := accept_ok s HF.out x.f1.f0 x.f1.f1 x.f2 x.f3
            obtain ⟨k2, pf⟩ := ev.rounds
            have PF := Aside0.mk pf
            have GD := Aside0.mk hg
            clear ev pf hg
            have q2 : (x.f0 == 2) = true := by simpa using e2
            have q2' : decide (x.f0 = 2) = true := by simpa using e2
            clear e2
            go_wp2_with (first | (go_at_call 9; refine (accept_Accept.calls k2 _ _ _ _ _ _ A c s.c _ _ _ _ _ _ _ _ _ _ _ _ _ ?h1 ?h2 PF.out).mono ?_; (case h1 => exact (Kd.R_reads' AT.out.r).2.2); (case h2 => exact (Kd.R_reads' AT.out.r).2.1); rintro e w7 ⟨v6_, rfl, hr7, hb7⟩; have R7 := Aside0.mk (Kd.R_lower hr7 AT.out.b.size); obtain ⟨A7, c7, rfl⟩ := Kd.R_slice hr7; have AT' := Aside0.mk (AT.out.below hb7); have BK6' := Aside0.mk (blk_below BK6.out hb7); clear hr7 hb7 BK5 ca0 ca1 ca2 ca3 ca4 ca5 ca6 cb0 cb1 cb2 cb3 cb4 cb5; clear AT; have AT := AT'; clear AT'; clear BK6; have BK6 := BK6'; clear BK6') | ((with_reducible refine gate_store (p := 6) (v := .tmp 37) rfl ?_); refine store_row15 rfl 27 (.tmp 6) (.tmp 37) rfl g6 #[.int .i64 b.pr, .int .i64 b.pm, .bool b.has, .int .i64 b.ar, .int .i64 b.am, .string b.v, .slice A7 b.c.length c7] ?pd ?qd 27 #[.int .i64 s.pr, .int .i64 s.pm, .bool s.has, .int .i64 s.ar, .int .i64 s.am, .string s.v, .slice A s.c.length c] BK6.out info27s rfl (by simp [Value.oneCell']) ?_; (case pd => first | rfl | (simp; done) | (go_simp; done)); (case qd => first | rfl | (simp; done) | (go_simp; done)); intro w8 hnd hgd hsd; have BT := Aside0.mk (At.mk GE6.out hnd (R_row R7.out BK6.out (by decide) hgd) (below_row AT.out.b hgd GE6.out)); have AT' := Aside0.mk (AT.out.row BK6.out (by decide) NE6.out GE6.out hgd); clear hnd hgd hsd BK6 R7; clear AT; have AT := AT'; clear AT'))
            go_meet
            case rel => exact ⟨b, _, GD, AT, BT⟩
          · have q2 : (x.f0 == 2) = false := by simpa using e2
            have q2' : decide (x.f0 = 2) = false := by simpa using e2
            clear e2
            by_cases e3 : x.f0 = 3
            · obtain ⟨b, n, ev, hg⟩ := learn_ok s HF.out x.f2 x.f4 (by have := HGX.out.2.2.2.2.2.1; omega) (wf_i64 HGX.out.2.2.1).1
              obtain ⟨k2, pf⟩ := ev.rounds
              have PF := Aside0.mk pf
              have GD := Aside0.mk hg
              clear ev pf hg
              have q3 : (x.f0 == 3) = true := by simpa using e3
              have q3' : decide (x.f0 = 3) = true := by simpa using e3
              clear e3
              go_wp2_with (first | (go_at_call 11; refine (accept_Learn.calls k2 _ _ _ _ _ _ A c s.c _ A5 c5 x.f4 _ _ _ _ _ _ _ _ _ ?h1 ?h2 ?h3 ?h4 PF.out).mono ?_; (case h1 => exact (Kd.R_reads' AT.out.r).2.2); (case h2 => exact (Kd.R_reads' AT.out.r).2.1); (case h3 => exact Kd.C_below HC5.out AT.out.b); (case h4 => exact H5.out); rintro e w7 ⟨v6_, rfl, hr7, hb7⟩; have R7 := Aside0.mk (Kd.R_lower hr7 AT.out.b.size); obtain ⟨A7, c7, rfl⟩ := Kd.R_slice hr7; have AT' := Aside0.mk (AT.out.below hb7); have BK6' := Aside0.mk (blk_below BK6.out hb7); clear hr7 hb7 BK5 ca0 ca1 ca2 ca3 ca4 ca5 ca6 cb0 cb1 cb2 cb3 cb4 cb5; clear AT; have AT := AT'; clear AT'; clear BK6; have BK6 := BK6'; clear BK6') | ((with_reducible refine gate_store (p := 6) (v := .tmp 48) rfl ?_); refine store_row15 rfl 27 (.tmp 6) (.tmp 48) rfl g6 #[.int .i64 b.pr, .int .i64 b.pm, .bool b.has, .int .i64 b.ar, .int .i64 b.am, .string b.v, .slice A7 b.c.length c7] ?pd ?qd 27 #[.int .i64 s.pr, .int .i64 s.pm, .bool s.has, .int .i64 s.ar, .int .i64 s.am, .string s.v, .slice A s.c.length c] BK6.out info27s rfl (by simp [Value.oneCell']) ?_; (case pd => first | rfl | (simp; done) | (go_simp; done)); (case qd => first | rfl | (simp; done) | (go_simp; done)); intro w8 hnd hgd hsd; have BT := Aside0.mk (At.mk GE6.out hnd (R_row R7.out BK6.out (by decide) hgd) (below_row AT.out.b hgd GE6.out)); have AT' := Aside0.mk (AT.out.row BK6.out (by decide) NE6.out GE6.out hgd); clear hnd hgd hsd BK6 R7; clear AT; have AT := AT'; clear AT'))
              go_meet
              case rel => exact ⟨b, _, GD, AT, BT⟩
            · have q3 : (x.f0 == 3) = false := by simpa using e3
              have q3' : decide (x.f0 = 3) = false := by simpa using e3
              clear e3
              go_wp2
              go_meet
              case rel => exact ⟨s, _, ⟨good_same HF.out⟩, AT, ⟨⟨GE6.out, BK6.out, AT.out.r, AT.out.b⟩⟩⟩
      case rest =>
        obtain ⟨b, v', GD, AT, BT⟩ := hcut
        clear BK5 cb0 cb1 cb2 cb3 cb4 cb5 HC5 H5 HGX
        obtain ⟨B, cb, rfl⟩ := Kd.R_slice BT.out.r
        obtain ⟨_, hbc, hCB⟩ := Kd.R_reads' BT.out.r
        obtain ⟨_, hsc, hCA⟩ := Kd.R_reads' AT.out.r
        have CB := Aside0.mk hCB
        have CA := Aside0.mk hCA
        have FB := Aside0.mk GD.out.fit
        obtain ⟨kf, hf⟩ := (fit_ev b FB.out).rounds
        have FT := Aside0.mk hf
        have LT := Aside0.mk (by rw [later_some, GD.out.p] : accept_Later.f s.pr s.pm b.pr b.pm = some false)
        have hbl := FB.out.l
        obtain ⟨r0, hr0⟩ := GD.out.c
        have hle : s.c.length ≤ b.c.length := by rw [hr0, List.length_append]; omega
        have htk : b.c.take s.c.length = s.c := by rw [hr0, List.take_left']; rfl
        have CT := Aside0.mk (by have := Kd.C_take CB.out hle; rw [htk] at this; exact this : Kd.C Kd.string wc B s.c.length s.c)
        obtain ⟨kt, ht⟩ := (texts_self s.c (by omega)).rounds
        have TT := Aside0.mk ht
        have HB2 := Aside0.mk hbc
        have HA2 := Aside0.mk hsc
        have HLE := Aside0.mk hle
        have HSC := Aside0.mk (Nat.le_trans hle hbc : s.c.length ≤ cb)
        clear hCB hCA hf ht hr0 htk r0
        have HL0 := lc_mk AT.out BT.out
        go_upto_region 13 with fail
        have l1 : ((b.c.length : Int) < (s.c.length : Int)) = False := eq_false (by omega)
        have l2 : decide ((b.c.length : Int) < (s.c.length : Int)) = false := decide_eq_false (by omega)
        have l3 : ((0 : Int) ≤ (s.c.length : Int)) = True := eq_true (by omega)
        have l4 : ((s.c.length : Int) ≤ (cb : Int)) = True := eq_true (by omega)
        have l5 : (s.c.length ≤ cb) = True := eq_true (by omega)
        have l6 : (b.c.length < s.c.length) = False := eq_false (by omega)
        go_region_held3 (fun W => Lc g3 g6 s b (.slice A s.c.length c) (.slice B b.c.length cb) wc W)
          (first | exact lc_below HL0 (below_drew1 (Below.refl _ _)) | exact lc_below (by assumption) hbv | assumption)
          (first | (go_at_call 24; refine (accept_Fit.calls kf _ _ _ _ _ _ B cb b.c true _ ?h1 ?h2 FT.out).mono ?_; (case h1 => exact Kd.C_below CB.out (lc_b (by assumption))); (case h2 => exact HB2.out); rintro e w' ⟨rfl, hbv⟩) | (go_at_call 25; refine (accept_Later.calls _ _ _ _ false _ LT.out).mono ?_; rintro e w' ⟨rfl, hbv⟩) | (go_at_call 21; refine (reefref15_Texts.calls kt B cb s.c A c s.c true _ ?h1 ?h2 ?h3 ?h4 TT.out).mono ?_; (case h1 => exact Kd.C_below CT.out (lc_b (by assumption))); (case h2 => exact HSC.out); (case h3 => exact Kd.C_below CA.out (lc_b (by assumption))); (case h4 => exact HA2.out); rintro e w' ⟨rfl, hd⟩; have hbv := drawn_below hd))
        go_upto_region 15 with fail
        have HL := Aside0.mk ‹Lc g3 g6 s b (.slice A s.c.length c) (.slice B b.c.length cb) wc _›
        clear HL0 l1 l2 l3 l4 l5 l6
        rename Lc g3 g6 s b (.slice A s.c.length c) (.slice B b.c.length cb) wc _ => hz
        clear hz
        obtain ⟨m0, m1, m2, m3, m4, m5, m6, n0, n1, n2, n3, n4, n5, n6, _⟩ := HL.out
        have GH := Aside0.mk GD.out.h
        by_cases hh : s.has = true
        · by_cases hq : b.c.length = s.c.length
          · obtain ⟨hbh, hbl2⟩ := GH.out hh hq
            have LT2 := Aside0.mk (by rw [later_some, hbl2] : accept_Later.f s.ar s.am b.ar b.am = some false)
            have u1 : ((b.c.length : Int) = (s.c.length : Int)) = True := eq_true (by omega)
            have u2' : ((b.c.length : Int) == (s.c.length : Int)) = true := by rw [hq]; exact beq_self_eq_true _
            have u3 : (b.c.length = s.c.length) = True := eq_true hq
            clear hbl2 hq
            rw [hh] at m2
            rw [hbh] at n2
            clear hbh
            go_wp2_with (first | (go_at_call 25; refine (accept_Later.calls _ _ _ _ false _ LT2.out).mono ?_; rintro e w' ⟨rfl, hbv⟩; have HL' := Aside0.mk (lc_below HL.out hbv); clear HL hbv m0 m1 m2 m3 m4 m5 m6 n0 n1 n2 n3 n4 n5 n6; have HL := HL'; clear HL'; obtain ⟨m0, m1, m2, m3, m4, m5, m6, n0, n1, n2, n3, n4, n5, n6, _⟩ := HL.out) | ((with_reducible refine gate_store (p := 3) (v := .tmp 104) rfl ?_); refine store_row15 rfl 27 (.tmp 3) (.tmp 104) rfl g3 #[.int .i64 b.pr, .int .i64 b.pm, .bool b.has, .int .i64 b.ar, .int .i64 b.am, .string b.v, .slice B b.c.length cb] ?pz ?qz 27 #[.int .i64 s.pr, .int .i64 s.pm, .bool s.has, .int .i64 s.ar, .int .i64 s.am, .string s.v, .slice A s.c.length c] (AT.out.below (lc_b HL.out)).bk info27s rfl (by simp [Value.oneCell']) ?_; (case pz => first | rfl | (simp; done) | (go_simp; done)); (case qz => first | rfl | (simp; done) | (go_simp; done)); intro w9 hnz hgz hsz; have AT2 := Aside0.mk ((AT.out.below (lc_b HL.out)).put (Kd.R_below BT.out.r (lc_b HL.out)) hgz hnz); clear hnz hgz hsz m0 m1 m2 m3 m4 m5 m6 n0 n1 n2 n3 n4 n5 n6))
            go_roundw
            case rel => exact ⟨k + 1, b, _, by omega, by simp, FB, AT2⟩
            case measure => simp [intOf]; omega
          · have u1 : ((b.c.length : Int) = (s.c.length : Int)) = False := eq_false (by omega)
            have u2' : ((b.c.length : Int) == (s.c.length : Int)) = false := by rw [beq_eq_false_iff_ne]; omega
            have u3 : (b.c.length = s.c.length) = False := eq_false hq
            clear hq
            rw [hh] at m2
            go_wp2_with (first | ((with_reducible refine gate_store (p := 3) (v := .tmp 104) rfl ?_); refine store_row15 rfl 27 (.tmp 3) (.tmp 104) rfl g3 #[.int .i64 b.pr, .int .i64 b.pm, .bool b.has, .int .i64 b.ar, .int .i64 b.am, .string b.v, .slice B b.c.length cb] ?pz ?qz 27 #[.int .i64 s.pr, .int .i64 s.pm, .bool s.has, .int .i64 s.ar, .int .i64 s.am, .string s.v, .slice A s.c.length c] (AT.out.below (lc_b HL.out)).bk info27s rfl (by simp [Value.oneCell']) ?_; (case pz => first | rfl | (simp; done) | (go_simp; done)); (case qz => first | rfl | (simp; done) | (go_simp; done)); intro w9 hnz hgz hsz; have AT2 := Aside0.mk ((AT.out.below (lc_b HL.out)).put (Kd.R_below BT.out.r (lc_b HL.out)) hgz hnz); clear hnz hgz hsz m0 m1 m2 m3 m4 m5 m6 n0 n1 n2 n3 n4 n5 n6))
            go_roundw
            case rel => exact ⟨k + 1, b, _, by omega, by simp, FB, AT2⟩
            case measure => simp [intOf]; omega
        · rw [Bool.not_eq_true] at hh
          rw [hh] at m2
          go_wp2_with (first | ((with_reducible refine gate_store (p := 3) (v := .tmp 104) rfl ?_); refine store_row15 rfl 27 (.tmp 3) (.tmp 104) rfl g3 #[.int .i64 b.pr, .int .i64 b.pm, .bool b.has, .int .i64 b.ar, .int .i64 b.am, .string b.v, .slice B b.c.length cb] ?pz ?qz 27 #[.int .i64 s.pr, .int .i64 s.pm, .bool s.has, .int .i64 s.ar, .int .i64 s.am, .string s.v, .slice A s.c.length c] (AT.out.below (lc_b HL.out)).bk info27s rfl (by simp [Value.oneCell']) ?_; (case pz => first | rfl | (simp; done) | (go_simp; done)); (case qz => first | rfl | (simp; done) | (go_simp; done)); intro w9 hnz hgz hsz; have AT2 := Aside0.mk ((AT.out.below (lc_b HL.out)).put (Kd.R_below BT.out.r (lc_b HL.out)) hgz hnz); clear hnz hgz hsz m0 m1 m2 m3 m4 m5 m6 n0 n1 n2 n3 n4 n5 n6))
          go_roundw
          case rel => exact ⟨k + 1, b, _, by omega, by simp, FB, AT2⟩
          case measure => simp [intOf]; omega
    · obtain rfl : k = l0.length := by omega
      obtain ⟨ka, hka⟩ := awake_ev.rounds
      have AW := Aside0.mk hka
      clear hka
      go_wp2_with (go_at_call 13; refine (reeflaw15_awake.calls ka true _ AW.out).mono ?_; rintro e w' ⟨rfl, hbv⟩; have HBE := Aside0.mk (below_step AT.out.b hbv); clear hbv)
      go_ret
      exact ⟨rfl, HBE.out⟩
end Go.Proofs.Ytkbdicedckmdkaa.P
