/- frame.Join: the sum of bytes, of which the sums of two pieces are told. -/
import Derived.Deep.WholeRow
import Derived.Lib.Hide
import Derived.Deep.RegionWith
import Derived.Test.YtoadflcdpcfibaaP0
namespace Go.Proofs.Ytoadflcdpcfibaa.P
open Go.RowKit Go.Proofs.YtoadflcdpcfibaaW.PrintWords Go.Proofs.YtoadflcdpcfibaaW.PrintLast Go.Proofs.YtoadflcdpcfibaaW.PrintMore
set_option linter.unusedVariables false
set_option linter.unusedSimpArgs false

def encU (m : List Int) : Array Value := (m.map (Value.int .u32)).toArray
theorem encU_get (m : List Int) (k : Nat) (h : k < m.length) : (encU m)[k]? = some (.int .u32 (rd m (k : Int))) := by
  simp [encU, rd, h]
/-- One bit of a number, through a map. -/
def apStep (m : List Int) (x s : Int) (k : Nat) : Int := Go.bits .xor .u32 s (Go.bits .and .u32 (rd m (k : Int)) ((-(Go.bits .and .u32 (x / 2 ^ k) 1)) % 4294967296))
def apUpto (m : List Int) (x : Int) : Nat → Int
  | 0 => 0
  | k + 1 => apStep m x (apUpto m x k) k
set_option maxRecDepth 100000 in
set_option maxHeartbeats 1000000 in
theorem bits_apply.calls (m : List Int) (hm : m.length = 32) (x : Int) (w : World) :
    Calls Try.prog 24 #[.agg (encU m), .int .u32 x] w fun e w' => e = .returned (.int .u32 (apUpto m x 32)) ∧ Below w.heap.size w w' := by
  have HM := Lib.hid hm
  clear hm
  go_enter Try.func24, Try.ntmps24
  go_wp2
  go_loopw [5, 6, 7] (fun s i j wr => ∃ k : Nat, k ≤ 32 ∧ j = .int .i64 k ∧ s = .int .u32 (apUpto m x k) ∧ wr.heap[w.heap.size]? = some (.cells (encU m) 58 (0, 0)) ∧ Below w.heap.size w wr) (fun _ _ j _ => 32 - (intOf j).toNat)
  case atStart => exact ⟨0, Nat.zero_le _, rfl, rfl, blk_new w _, (Below.refl _ _).alloc (Nat.le_refl _) _⟩
  case round =>
    obtain ⟨k, hk, rfl, rfl, hb, hB⟩ := hrel
    by_cases hlt : k < 32
    · have hc : wr.cell? ⟨w.heap.size, k, none⟩ = some (.int .u32 (rd m (k : Int))) := (blk_cell hb k).trans (encU_get m k (by rw [HM.out]; exact hlt))
      have h0 : (0 : Int) ≤ (k : Int) := by omega
      have h1 : (k : Int) < 32 := by omega
      go_wp2
      go_quiet (fail)
      go_wp2
      go_roundw
      case rel => exact ⟨k + 1, by omega, by go_num, by rfl, by repeat (first | exact hb | apply blk_drewN | apply blk_drew), by repeat (first | exact hB | apply pw_below_drewN | apply below_drew1)⟩
      case measure => simp [intOf]; omega
    · obtain rfl : k = 32 := by omega
      go_wp2
      go_ret
      exact ⟨rfl, hB⟩

theorem encU_set (m : List Int) (k : Nat) (v : Int) : encU (m.set k v) = (encU m).setIfInBounds k (.int .u32 v) := by
  simp [encU, List.map_set]
/-- The map of one bit of 0, so far. -/
def zeroUpto : Nat → List Int
  | 0 => 2197175160 :: List.replicate 31 0
  | k + 1 => (zeroUpto k).set (k + 1) ((2 : Int) ^ k % 4294967296)
theorem zeroUpto_len (k : Nat) : (zeroUpto k).length = 32 := by
  induction k with
  | zero => rfl
  | succ k ih => simp [zeroUpto, ih]
theorem info58 : (Try.prog.info? 58).map (·.size) = some 32 := by kernel_rfl
theorem encU_size (m : List Int) : (encU m).size = m.length := by simp [encU]
theorem encU_one (m : List Int) : (encU m).all (·.oneCell') = true := by simp [encU, Value.oneCell']
section
variable {P : Program} {ops : Array Oper} {rest : List Oper} {o : Oper} {a : Act} {Q : Exit → Act → World → Prop} {W : World}
theorem alloc_row (hgd : o.guard = none) (t : TypeId) (ho : o.op = .alloc t) (Z : Array Value) (hz : ∀ w, (zeroValue t).run P w = .ok (.agg Z) w) (h : wpList P ops Q rest (a.put o.dst (.pointer (some ⟨W.heap.size, 0, none⟩))) (W.alloc (.cells Z t))) : wpList P ops Q (o :: rest) a W := by
  refine Kd.event_run hgd ?_ h
  simp [execOp, ho, go_sem, hz]
theorem build_row (hgd : o.guard = none) (t : TypeId) (parts : Array (Nat × Operand)) (ho : o.op = .build t parts) (zs : List (Nat × Value)) (hp : (parts.map fun x => (x.1, a.eval x.2)).toList = zs) (cs : Array Value) (hb : P.built t zs = some cs) (h : wpList P ops Q rest (a.put o.dst (.agg cs)) W) : wpList P ops Q (o :: rest) a W := by
  have e : (P.built t (parts.map fun (i, x) => (i, a.eval x)).toList) = some cs := by rw [← hb, ← hp]
  refine wpList_build hgd t parts ho (by rw [e]; rfl) ?_
  rw [e]; exact h
theorem store_row (hgd : o.guard = none) (ty : TypeId) (x y : Operand) (ho : o.op = .store ty x y) (g : Nat) (cells : Array Value) (hx : a.eval x = .pointer (some ⟨g, 0, none⟩)) (hy : a.eval y = .agg cells) (t : TypeId) (old : Array Value) (hg : W.heap[g]? = some (.cells old t (0, 0))) (hi : (P.info? ty).map (·.size) = some cells.size) (hold : old.size = cells.size) (h1 : cells.all (·.oneCell') = true)
    (h : ∀ W', W'.heap[g]? = some (.cells cells t (0, 0)) → W.grownBy W' (some g) → W'.heap.size = W.heap.size → wpList P ops Q rest (a.put o.dst undef) W') : wpList P ops Q (o :: rest) a W :=
  wpList_store_row hgd ty x y ho g cells hx hy t old hg hi hold h1 (h _ (setRow_heap W g _ _ t _ hg) ⟨rfl, rfl, rfl, by simp [World.setRow], fun k _ hk => setRow_other W g k cells (fun e => hk (by rw [e]))⟩ (by simp [World.setRow]))
end
theorem built58 : Try.prog.built 58 [(0, .int .u32 2197175160)] = some (encU (zeroUpto 0)) := by kernel_rfl
def zeros32 : Array Value := encU (List.replicate 32 0)
theorem zero58 : ∀ w, (zeroValue 58).run Try.prog w = .ok (.agg zeros32) w := (zero_of_info (n := 32) (by kernel_rfl)).1
def zeroM0 : Array Value := encU (zeroUpto 0)
theorem size_e58 {m : List Int} (h : m.length = 32) : (Try.prog.info? 58).map (·.size) = some (encU m).size := by rw [info58, encU_size, h]
theorem below_of_grown {W X w : World} {g : Nat} (h : Below w.heap.size w W) (hg : W.grownBy X (some g)) (hgw : w.heap.size ≤ g) : Below w.heap.size w X := h.grown hg h.size (fun k e => by cases e; exact hgw)
set_option maxRecDepth 100000 in
set_option maxHeartbeats 1000000 in
theorem frame_zero.calls (w : World) :
    Calls Try.prog 22 #[] w fun e w' => e = .returned (.agg (encU (zeroUpto 31))) ∧ Below w.heap.size w w' := by
  obtain ⟨M, hM⟩ : ∃ M, zeroUpto 31 = M := ⟨_, rfl⟩
  have hMl : M.length = 32 := by rw [← hM]; exact zeroUpto_len 31
  rw [hM]
  have HM := Lib.hid hM
  have HL := Lib.hid hMl
  clear hM hMl
  go_enter Try.func22, Try.ntmps22
  go_wp2_with (first | ((with_reducible refine gate_dst (N := 0) rfl ?_); refine alloc_row rfl 58 rfl zeros32 zero58 ?_) | ((with_reducible refine gate_dst (N := 1) rfl ?_); refine alloc_row rfl 58 rfl zeros32 zero58 ?_) | ((with_reducible refine gate_dst (N := 3) rfl ?_); refine build_row rfl 58 #[(0, .const (.int .u32 2197175160))] rfl _ ?_ zeroM0 built58 ?_; focus (first | (simp; done) | (go_simp; done) | (simp [go_sem]; done))) | ((with_reducible refine gate_store (p := 1) rfl ?_); refine store_row rfl 58 (.tmp 1) (.tmp 3) rfl (w.heap.size + 1) zeroM0 ?p1 ?p2 58 zeros32 ?p3 ?p4 ?p5 ?p6 ?_; (case p1 => first | rfl | (simp; done) | (go_simp; done)); (case p2 => first | rfl | (simp; done) | (go_simp; done)); (case p3 => have := blk_new (w.alloc (.cells zeros32 58)) (.cells zeros32 58); rw [World.size_alloc] at this; exact this); (case p4 => rw [info58, zeroM0, encU_size, zeroUpto_len]); (case p5 => simp [zeros32, zeroM0, encU_size, zeroUpto_len]); (case p6 => exact encU_one _); intro W2 hnew hgr hsz; have HN := Aside0.mk hnew; have HB := Aside0.mk (below_of_grown ((Below.refl w.heap.size w).alloc (Nat.le_refl _) (.cells zeros32 58) |>.alloc (by simp) (.cells zeros32 58)) hgr (by simp)); have HO := Aside0.mk (blk_grown (blk_alloc (blk_new w (.cells zeros32 58)) (.cells zeros32 58)) hgr (by simp)); clear hnew hgr hsz))
  go_loopw [2] (fun j wr => ∃ k : Nat, k ≤ 31 ∧ j = .int .i64 (k + 1) ∧ wr.heap[w.heap.size + 1]? = some (.cells (encU (zeroUpto k)) 58 (0, 0)) ∧ (∃ cs, wr.heap[w.heap.size]? = some (.cells cs 58 (0, 0)) ∧ cs.size = 32) ∧ Below w.heap.size w wr) (fun j _ => 32 - (intOf j).toNat)
  case atStart => exact ⟨0, by omega, rfl, HN.out, ⟨_, HO.out, by simp [zeros32, encU_size]⟩, HB.out⟩
  case round =>
    obtain ⟨k, hk, rfl, hb, ⟨cs, hc, hs⟩, hB⟩ := hrel
    by_cases hlt : k < 31
    · have h0 : (0 : Int) ≤ (k : Int) := by omega
      have h1 : (k : Int) < 31 := by omega
      have hcell := (blk_cell hb (k + 1)).trans (encU_get (zeroUpto k) (k + 1) (by rw [zeroUpto_len]; omega))
      have hfr := blk_frozen hb (k + 1)
      have hnew : (wr.setCell ⟨w.heap.size + 1, k + 1, none⟩ (.int .u32 ((2 : Int) ^ k % 4294967296))).heap[w.heap.size + 1]? = some (.cells (encU (zeroUpto (k + 1))) 58 (0, 0)) := by
        rw [zeroUpto, encU_set]; exact blk_set hb _ _
      have hold := blk_far hc (p := ⟨w.heap.size + 1, k + 1, none⟩) (by simp) (.int .u32 ((2 : Int) ^ k % 4294967296))
      have hB' := hB.setCell (p := ⟨w.heap.size + 1, k + 1, none⟩) (by simp) (.int .u32 ((2 : Int) ^ k % 4294967296))
      have HN := Aside0.mk hnew
      have HO := Aside0.mk hold
      have HB := Aside0.mk hB'
      have HS := Aside0.mk hs
      clear hnew hold hB' hb hc hB hs
      go_wp2
      go_roundw
      case rel => exact ⟨k + 1, by omega, by go_num, HN.out, ⟨_, HO.out, HS.out⟩, HB.out⟩
      case measure => simp [intOf]; omega
    · obtain rfl : k = 31 := by omega
      rw [HM.out] at hb
      have HS := Aside0.mk hs
      have HB := Aside0.mk hb
      have HC := Aside0.mk hc
      have HBB := Aside0.mk hB
      clear hs hb hc hB
      go_wp2_with (first | ((with_reducible refine gate_dst (N := 13) rfl ?_); refine wpList_load_row rfl 58 (.tmp 1) rfl (w.heap.size + 1) ?q1 58 (encU M) (0, 0) _ HB.out Try.underlying58 rfl ?q2 ?_; (case q1 => first | rfl | (simp; done) | (go_simp; done)); (case q2 => exact size_e58 HL.out)) | ((with_reducible refine gate_store (p := 0) rfl ?_); refine store_row rfl 58 (.tmp 0) (.tmp 13) rfl w.heap.size (encU M) ?q3 ?q4 58 cs HC.out ?q5 ?q6 ?q7 ?_; (case q3 => first | rfl | (simp; done) | (go_simp; done)); (case q4 => first | rfl | (simp; done) | (go_simp; done)); (case q5 => exact size_e58 HL.out); (case q6 => rw [HS.out, encU_size, HL.out]); (case q7 => exact encU_one _); intro W2 hnew hgr hsz; have HN := Aside0.mk hnew; have HG := Aside0.mk hgr; clear hnew hgr hsz))
      refine bodyPost_ret (v := .agg (encU M)) ?_ rfl ⟨rfl, below_of_grown HBB.out HG.out (Nat.le_refl _)⟩
      exact results_cell_row rfl _ _ w.heap.size 58 _ (0, 0) _ rfl HN.out Try.underlying58 rfl (size_e58 HL.out)
/-- What has come of a map done twice. -/
def twUpto (m : List Int) : Nat → List Int
  | 0 => List.replicate 32 0
  | k + 1 => (twUpto m k).set k (apUpto m (rd m (k : Int)) 32)
theorem twUpto_len (m : List Int) (k : Nat) : (twUpto m k).length = 32 := by
  induction k with
  | zero => rfl
  | succ k ih => simp [twUpto, ih]
set_option maxRecDepth 100000 in
set_option maxHeartbeats 2000000 in
theorem bits_twice.calls (m : List Int) (hm : m.length = 32) (w : World) :
    Calls Try.prog 23 #[.agg (encU m)] w fun e w' => e = .returned (.agg (encU (twUpto m 32))) ∧ Below w.heap.size w w' := by
  obtain ⟨M, hM⟩ : ∃ M, twUpto m 32 = M := ⟨_, rfl⟩
  have hMl : M.length = 32 := by rw [← hM]; exact twUpto_len m 32
  rw [hM]
  have HT := Lib.hid hM
  have HL := Lib.hid hMl
  have HM := Lib.hid hm
  clear hM hMl hm
  go_enter Try.func23, Try.ntmps23
  go_wp2_with (first | ((with_reducible refine gate_dst (N := 2) rfl ?_); refine alloc_row rfl 58 rfl zeros32 zero58 ?_) | ((with_reducible refine gate_dst (N := 3) rfl ?_); refine alloc_row rfl 58 rfl zeros32 zero58 ?_))
  go_loopw [4, 5] (fun i j wr => ∃ k : Nat, k ≤ 32 ∧ j = .int .i64 k ∧ wr.heap[w.heap.size]? = some (.cells (encU m) 58 (0, 0)) ∧ wr.heap[w.heap.size + 1]? = some (.cells zeros32 58 (0, 0)) ∧ wr.heap[w.heap.size + 1 + 1]? = some (.cells (encU (twUpto m k)) 58 (0, 0)) ∧ Below w.heap.size w wr) (fun _ j _ => 32 - (intOf j).toNat)
  case atStart => exact ⟨0, by omega, rfl, blk_alloc (blk_alloc (blk_new w _) _) _, blk_alloc (by have := blk_new (w.alloc (.cells (encU m) 58)) (.cells zeros32 58); rw [World.size_alloc] at this; exact this) _, by have := blk_new ((w.alloc (.cells (encU m) 58)).alloc (.cells zeros32 58)) (.cells zeros32 58); simp only [World.size_alloc] at this; exact this, (((Below.refl _ _).alloc (Nat.le_refl _) _).alloc (by simp) _).alloc (by simp; omega) _⟩
  case round =>
    obtain ⟨k, hk, rfl, hb, hz, ht, hB⟩ := hrel
    by_cases hlt : k < 32
    · have h0 : (0 : Int) ≤ (k : Int) := by omega
      have h1 : (k : Int) < 32 := by omega
      have hc : wr.cell? ⟨w.heap.size, k, none⟩ = some (.int .u32 (rd m (k : Int))) := (blk_cell hb k).trans (encU_get m k (by rw [HM.out]; exact hlt))
      have HB := Aside0.mk hb
      have HZ := Aside0.mk hz
      have HW := Aside0.mk ht
      have HBB := Aside0.mk hB
      clear hb hz ht hB
      have hstep : ∀ W', Below wr.heap.size wr W' → (W'.setCell ⟨w.heap.size + 1 + 1, k, none⟩ (.int .u32 (apUpto m (rd m (k : Int)) 32))).heap[w.heap.size + 1 + 1]? = some (.cells (encU (twUpto m (k + 1))) 58 (0, 0)) := fun W' h => by
        rw [twUpto, encU_set]; exact blk_set (blk_below HW.out h) _ _
      have HS := Aside0.mk hstep
      clear hstep
      go_wp2
      refine wp_region_any (by kernel_rfl) ?_
      try (change wpAny _ _ _ _ _ _ _ (World.drew _))
      refine wpAny_take (i := 0) (v := ?v0) rfl (by kernel_rfl) (by kernel_rfl) (by kernel_rfl) (fun _ _ _ h => h) (Or.inl ⟨by rfl, ?y0⟩) ?_
      case y0 => (intro w; go_simp; try with_reducible rfl)
      refine wpAny_take (i := 2) (v := ?v2) rfl (by kernel_rfl) (by kernel_rfl) (by kernel_rfl) (fun _ _ _ h => h) (Or.inl ⟨by rfl, ?y2⟩) ?_
      case y2 => (intro w; go_simp; try with_reducible rfl)
      refine wpAny_take (i := 3) (v := ?v3) rfl (by kernel_rfl) (by kernel_rfl) (by kernel_rfl) (fun _ _ _ h => h) (Or.inl ⟨by rfl, ?y3⟩) ?_
      case y3 => (intro w; go_simp; try with_reducible rfl)
      have ld : ∀ (W : World) (hW : W.heap = wr.heap) (a : Act) (o : Oper) (K : Act → World → Prop) (Q : Exit → Act → World → Prop), o.op = .load 58 (.tmp 1) → a.eval (.tmp 1) = .pointer (some ⟨w.heap.size, 0, none⟩) → K (a.put o.dst (.agg (encU m))) W → Oper.wp Try.prog o a W K Q := fun W hW a o K Q ho ha hk => wp_load_row 58 (.tmp 1) ho w.heap.size ha 58 (encU m) (0, 0) _ (by rw [hW]; exact HB.out) Try.underlying58 rfl (size_e58 HM.out) hk
      have LD := Aside0.mk ld
      clear ld
      refine wpAny_ready (rs := [1, 4]) (by kernel_rfl) (by simp) ?_
      refine AllReady.cons rfl (fun K hK => ?_) (AllReady.cons rfl (fun K hK => ?_) AllReady.nil)
      · rw [if_pos (by rfl)]
        refine LD.out wr.drew rfl _ _ _ _ ?_ ?_ ?_
        · rfl
        · first | rfl | (simp; done) | (go_simp; done)
        (refine hK _ _ ?_; clear hK K)
        refine wpAny_ready (rs := [4]) (by kernel_rfl) (by simp) ?_
        refine AllReady.cons rfl (fun K hK => ?_) AllReady.nil
        go_simp
        (refine hK _ _ ?_; clear hK K)
        refine wpAny_ready (rs := [5]) (by kernel_rfl) (by simp) ?_
        refine AllReady.cons rfl (fun K hK => ?_) AllReady.nil
        go_simp
        (with_reducible refine (bits_apply.calls m HM.out _ _).mono ?_)
        rintro e w' ⟨rfl, hb'⟩
        have hB2 : Below wr.heap.size wr w' := (below_drew1 (Below.refl _ wr)).trans hb'
        have hc3 := (blk_cell (blk_below HW.out hB2) k).trans (encU_get _ k (by rw [twUpto_len]; exact hlt))
        have hf3 := blk_frozen (blk_below HW.out hB2) k
        have HB2 := Aside0.mk hB2
        clear hb' hB2
        try go_simp
        (refine hK _ _ ?_; clear hK K)
        refine wpAny_ready (rs := [6]) (by kernel_rfl) (by simp) ?_
        refine AllReady.cons rfl (fun K hK => ?_) AllReady.nil
        go_simp
        (refine hK _ _ ?_; clear hK K)
        refine wpAny_ready (rs := [7]) (by kernel_rfl) (by simp) ?_
        refine AllReady.cons rfl (fun K hK => ?_) AllReady.nil
        go_simp
        (refine hK _ _ ?_; clear hK K)
        refine wpAny_done (by kernel_rfl) ?_ _
        go_wp2
        go_roundw
        case rel => exact ⟨k + 1, by omega, by go_num, blk_far (blk_below HB.out HB2.out) (by simp; omega) _, blk_far (blk_below HZ.out HB2.out) (by simp) _, HS.out _ HB2.out, (HBB.out.trans (HB2.out.mono HBB.out.size)).setCell (by simp; omega) _⟩
        case measure => simp [intOf]; omega
      · go_simp
        (refine hK _ _ ?_; clear hK K)
        refine wpAny_ready (rs := [1]) (by kernel_rfl) (by simp) ?_
        refine AllReady.cons rfl (fun K hK => ?_) AllReady.nil
        rw [if_pos (by rfl)]
        refine LD.out wr.drew rfl _ _ _ _ ?_ ?_ ?_
        · rfl
        · first | rfl | (simp; done) | (go_simp; done)
        (refine hK _ _ ?_; clear hK K)
        refine wpAny_ready (rs := [5]) (by kernel_rfl) (by simp) ?_
        refine AllReady.cons rfl (fun K hK => ?_) AllReady.nil
        go_simp
        (with_reducible refine (bits_apply.calls m HM.out _ _).mono ?_)
        rintro e w' ⟨rfl, hb'⟩
        have hB2 : Below wr.heap.size wr w' := (below_drew1 (Below.refl _ wr)).trans hb'
        have hc3 := (blk_cell (blk_below HW.out hB2) k).trans (encU_get _ k (by rw [twUpto_len]; exact hlt))
        have hf3 := blk_frozen (blk_below HW.out hB2) k
        have HB2 := Aside0.mk hB2
        clear hb' hB2
        try go_simp
        (refine hK _ _ ?_; clear hK K)
        refine wpAny_ready (rs := [6]) (by kernel_rfl) (by simp) ?_
        refine AllReady.cons rfl (fun K hK => ?_) AllReady.nil
        go_simp
        (refine hK _ _ ?_; clear hK K)
        refine wpAny_ready (rs := [7]) (by kernel_rfl) (by simp) ?_
        refine AllReady.cons rfl (fun K hK => ?_) AllReady.nil
        go_simp
        (refine hK _ _ ?_; clear hK K)
        refine wpAny_done (by kernel_rfl) ?_ _
        go_wp2
        go_roundw
        case rel => exact ⟨k + 1, by omega, by go_num, blk_far (blk_below HB.out HB2.out) (by simp; omega) _, blk_far (blk_below HZ.out HB2.out) (by simp) _, HS.out _ HB2.out, (HBB.out.trans (HB2.out.mono HBB.out.size)).setCell (by simp; omega) _⟩
        case measure => simp [intOf]; omega
    · obtain rfl : k = 32 := by omega
      rw [HT.out] at ht
      have HB := Aside0.mk ht
      have HC := Aside0.mk hz
      have HBB := Aside0.mk hB
      clear ht hb hz hB
      go_wp2_with (first | ((with_reducible refine gate_dst (N := 16) rfl ?_); refine wpList_load_row rfl 58 (.tmp 3) rfl (w.heap.size + 1 + 1) ?q1 58 (encU M) (0, 0) _ HB.out Try.underlying58 rfl ?q2 ?_; (case q1 => first | rfl | (simp; done) | (go_simp; done)); (case q2 => exact size_e58 HL.out)) | ((with_reducible refine gate_store (p := 2) rfl ?_); refine store_row rfl 58 (.tmp 2) (.tmp 16) rfl (w.heap.size + 1) (encU M) ?q3 ?q4 58 zeros32 HC.out ?q5 ?q6 ?q7 ?_; (case q3 => first | rfl | (simp; done) | (go_simp; done)); (case q4 => first | rfl | (simp; done) | (go_simp; done)); (case q5 => exact size_e58 HL.out); (case q6 => rw [encU_size, HL.out]; simp [zeros32, encU_size]); (case q7 => exact encU_one _); intro W2 hnew hgr hsz; have HN := Aside0.mk hnew; have HG := Aside0.mk hgr; clear hnew hgr hsz))
      refine bodyPost_ret (v := .agg (encU M)) ?_ rfl ⟨rfl, below_of_grown HBB.out HG.out (by omega)⟩
      exact results_cell_row rfl _ _ (w.heap.size + 1) 58 _ (0, 0) _ rfl HN.out Try.underlying58 rfl (size_e58 HL.out)
/-- A sum moved over n zeros. -/
def moved : Nat → List Int → Int → Int → Option Int
  | 0, _, _, _ => none
  | f + 1, m, a, n => if 0 < n then moved f (twUpto m 32) (if (Go.bits .and .i64 n 1 == 1) = true then apUpto m a 32 else a) (n / 2) else some a
def joinM : List Int := twUpto (twUpto (twUpto (zeroUpto 31) 32) 32) 32
def frame_Join.f (a0 : Int) (a1 : Int) (a2 : Int) : Option (Int) := if a2 < 1 then some a0 else (moved 64 joinM a0 a2).bind fun s => some (Go.bits .xor .u32 s a1)
set_option maxRecDepth 100000 in
set_option maxHeartbeats 1000000 in
theorem frame_Join.calls (a0 : Int) (a1 : Int) (a2 : Int) (r : Int) (w : World) (h : frame_Join.f a0 a1 a2 = some r) :
    Calls Try.prog 19 #[.int .u32 a0, .int .u32 a1, .int .i64 a2] w fun e w' => e = .returned (.int .u32 r) ∧ Below w.heap.size w w' := by
  unfold frame_Join.f at h
  by_cases h1 : a2 < 1
  · rw [if_pos h1] at h
    cases h
    have h1b : decide (a2 < 1) = true := decide_eq_true h1
    go_enter Try.func19, Try.ntmps19
    go_wp2
    go_ret
    exact ⟨rfl, Below.refl _ _⟩
  · rw [if_neg h1] at h
    obtain ⟨s, hs, h⟩ := Option.bind_eq_some_iff.1 h
    cases h
    have h1b : decide (a2 < 1) = false := decide_eq_false h1
    obtain ⟨M1, hM1⟩ : ∃ M1, zeroUpto 31 = M1 := ⟨_, rfl⟩
    have l1 : M1.length = 32 := by rw [← hM1]; exact zeroUpto_len 31
    obtain ⟨M2, hM2⟩ : ∃ M2, twUpto M1 32 = M2 := ⟨_, rfl⟩
    have l2 : M2.length = 32 := by rw [← hM2]; exact twUpto_len M1 32
    obtain ⟨M3, hM3⟩ : ∃ M3, twUpto M2 32 = M3 := ⟨_, rfl⟩
    have l3 : M3.length = 32 := by rw [← hM3]; exact twUpto_len M2 32
    obtain ⟨M4, hM4⟩ : ∃ M4, twUpto M3 32 = M4 := ⟨_, rfl⟩
    have l4 : M4.length = 32 := by rw [← hM4]; exact twUpto_len M3 32
    have hj : joinM = M4 := by unfold joinM; rw [hM1, hM2, hM3, hM4]
    rw [hj] at hs
    have c1 : ∀ w, Calls Try.prog 22 #[] w fun e w' => e = .returned (.agg (encU M1)) ∧ Below w.heap.size w w' := fun w => by rw [← hM1]; exact frame_zero.calls w
    have c2 : ∀ w, Calls Try.prog 23 #[.agg (encU M1)] w fun e w' => e = .returned (.agg (encU M2)) ∧ Below w.heap.size w w' := fun w => by rw [← hM2]; exact bits_twice.calls M1 l1 w
    have c3 : ∀ w, Calls Try.prog 23 #[.agg (encU M2)] w fun e w' => e = .returned (.agg (encU M3)) ∧ Below w.heap.size w w' := fun w => by rw [← hM3]; exact bits_twice.calls M2 l2 w
    have c4 : ∀ w, Calls Try.prog 23 #[.agg (encU M3)] w fun e w' => e = .returned (.agg (encU M4)) ∧ Below w.heap.size w w' := fun w => by rw [← hM4]; exact bits_twice.calls M3 l3 w
    have C1 := Aside0.mk c1
    have C2 := Aside0.mk c2
    have C3 := Aside0.mk c3
    have C4 := Aside0.mk c4
    have L4 := Aside0.mk l4
    have HS := Aside0.mk hs
    clear c1 c2 c3 c4 l1 l2 l3 l4 hM1 hM2 hM3 hM4 hj hs h1 h
    go_enter Try.func19, Try.ntmps19
    go_wp2_with fail
    refine (C1.out _).mono ?_
    rintro e w1 ⟨rfl, b1⟩
    have B1 := Aside0.mk b1
    clear b1
    go_wp2_with fail
    refine (C2.out _).mono ?_
    rintro e w2 ⟨rfl, b2⟩
    have B2 := Aside0.mk (B1.out.trans (b2.mono B1.out.size))
    clear b2 B1
    go_wp2_with fail
    refine (C3.out _).mono ?_
    rintro e w3 ⟨rfl, b3⟩
    have B3 := Aside0.mk (B2.out.trans (b3.mono B2.out.size))
    clear b3 B2
    go_wp2_with fail
    refine (C4.out _).mono ?_
    rintro e w4 ⟨rfl, b4⟩
    have B4 := Aside0.mk (B3.out.trans (b4.mono B3.out.size))
    clear b4 B3
    go_wp2_with (first | ((with_reducible refine gate_dst (N := 7) rfl ?_); refine alloc_row rfl 58 rfl zeros32 zero58 ?_) | ((with_reducible refine gate_store (p := 7) rfl ?_); refine store_row rfl 58 (.tmp 7) (.tmp 14) rfl w4.heap.size (encU M4) ?p1 ?p2 58 zeros32 ?p3 ?p4 ?p5 ?p6 ?_; (case p1 => first | rfl | (simp; done) | (go_simp; done)); (case p2 => first | rfl | (simp; done) | (go_simp; done)); (case p3 => exact blk_new w4 _); (case p4 => exact size_e58 L4.out); (case p5 => rw [encU_size, L4.out]; simp [zeros32, encU_size]); (case p6 => exact encU_one _); intro W2 hnew hgr hsz; have HN := Aside0.mk hnew; have HB := Aside0.mk (below_of_grown (B4.out.alloc B4.out.size (.cells zeros32 58)) hgr B4.out.size); clear hnew hgr hsz))
    simp only [Act.put, List.setIfInBounds_toArray, List.set_cons_succ, List.set_cons_zero]
    go_loopw [0, 2] (fun u v wr => ∃ (f : Nat) (m : List Int) (x n : Int), m.length = 32 ∧ 0 ≤ n ∧ moved f m x n = some s ∧ u = .int .u32 x ∧ v = .int .i64 n ∧ wr.heap[w4.heap.size]? = some (.cells (encU m) 58 (0, 0)) ∧ Below w.heap.size w wr) (fun _ v _ => (intOf v).toNat)
    case atStart => exact ⟨64, M4, a0, a2, L4.out, by have := of_decide_eq_false h1b; omega, HS.out, rfl, rfl, HN.out, HB.out⟩
    case round =>
      obtain ⟨f, m, x, n, hm, hn0, hmv, rfl, rfl, hb, hB⟩ := hrel
      obtain ⟨f, rfl⟩ : ∃ g, f = g + 1 := by
        cases f with
        | zero => cases hmv
        | succ g => exact ⟨g, rfl⟩
      rw [moved] at hmv
      have HM := Aside0.mk hm
      have HK := Aside0.mk hb
      have HBB := Aside0.mk hB
      have hw4 : w.heap.size ≤ w4.heap.size := B4.out.size
      clear hm hb hB
      by_cases hlt : 0 < n
      · rw [if_pos hlt] at hmv
        obtain ⟨m2, hm2⟩ : ∃ m2, twUpto m 32 = m2 := ⟨_, rfl⟩
        have lm2 : m2.length = 32 := by rw [← hm2]; exact twUpto_len m 32
        have d2 : ∀ w, Calls Try.prog 23 #[.agg (encU m)] w fun e w' => e = .returned (.agg (encU m2)) ∧ Below w.heap.size w w' := fun w => by rw [← hm2]; exact bits_twice.calls m HM.out w
        have D2 := Aside0.mk d2
        have HMV := Aside0.mk hmv
        have HM2 := Aside0.mk hm2
        have LM2 := Aside0.mk lm2
        clear d2 hmv hm2 lm2
        by_cases hp : (Go.bits .and .i64 n 1 == 1) = true
        · go_wp2_with ((with_reducible refine gate_dst (N := 22) rfl ?_); refine wpList_load_row rfl 58 (.tmp 7) rfl w4.heap.size ?q1 58 (encU m) (0, 0) _ HK.out Try.underlying58 rfl ?q2 ?_; (case q1 => first | rfl | (simp; done) | (go_simp; done)); (case q2 => exact size_e58 HM.out))
          refine (bits_apply.calls m HM.out _ _).mono ?_
          rintro e w5 ⟨rfl, b5⟩
          have K5 := Aside0.mk (blk_below HK.out b5)
          have E5 := Aside0.mk (HBB.out.trans (b5.mono HBB.out.size))
          clear b5
          go_wp2_with ((with_reducible refine gate_dst (N := 25) rfl ?_); refine wpList_load_row rfl 58 (.tmp 7) rfl w4.heap.size ?q3 58 (encU m) (0, 0) _ K5.out Try.underlying58 rfl ?q4 ?_; (case q3 => first | rfl | (simp; done) | (go_simp; done)); (case q4 => exact size_e58 HM.out))
          refine (D2.out _).mono ?_
          rintro e w6 ⟨rfl, b6⟩
          have K6 := Aside0.mk (blk_below K5.out b6)
          have E6 := Aside0.mk (E5.out.trans (b6.mono E5.out.size))
          clear b6
          go_wp2_with (first | ((with_reducible refine gate_store (p := 7) rfl ?_); refine store_row rfl 58 (.tmp 7) (.tmp 26) rfl w4.heap.size (encU m2) ?q5 ?q6 58 (encU m) K6.out ?q7 ?q8 ?q9 ?_; (case q5 => first | rfl | (simp; done) | (go_simp; done)); (case q6 => first | rfl | (simp; done) | (go_simp; done)); (case q7 => exact size_e58 LM2.out); (case q8 => rw [encU_size, encU_size, LM2.out, HM.out]); (case q9 => exact encU_one _); intro W7 hnew hgr hsz; have HN7 := Aside0.mk hnew; have HB7 := Aside0.mk (below_of_grown E6.out hgr hw4); clear hnew hgr hsz))
          go_roundw
          case rel => exact ⟨f, m2, _, n / 2, LM2.out, by omega, by have := HMV.out; rw [HM2.out] at this; simp only [hp, if_true] at this; exact this, rfl, rfl, HN7.out, HB7.out⟩
          case measure => simp [intOf]; omega
        · have hpf : (Go.bits .and .i64 n 1 == 1) = false := by simpa using hp
          go_wp2_with ((with_reducible refine gate_dst (N := 25) rfl ?_); refine wpList_load_row rfl 58 (.tmp 7) rfl w4.heap.size ?q11 58 (encU m) (0, 0) _ HK.out Try.underlying58 rfl ?q12 ?_; (case q11 => first | rfl | (simp; done) | (go_simp; done)); (case q12 => exact size_e58 HM.out))
          refine (D2.out _).mono ?_
          rintro e w6 ⟨rfl, b6⟩
          have K6 := Aside0.mk (blk_below HK.out b6)
          have E6 := Aside0.mk (HBB.out.trans (b6.mono HBB.out.size))
          clear b6
          go_wp2_with (first | ((with_reducible refine gate_store (p := 7) rfl ?_); refine store_row rfl 58 (.tmp 7) (.tmp 26) rfl w4.heap.size (encU m2) ?q13 ?q14 58 (encU m) K6.out ?q15 ?q16 ?q17 ?_; (case q13 => first | rfl | (simp; done) | (go_simp; done)); (case q14 => first | rfl | (simp; done) | (go_simp; done)); (case q15 => exact size_e58 LM2.out); (case q16 => rw [encU_size, encU_size, LM2.out, HM.out]); (case q17 => exact encU_one _); intro W7 hnew hgr hsz; have HN7 := Aside0.mk hnew; have HB7 := Aside0.mk (below_of_grown E6.out hgr hw4); clear hnew hgr hsz))
          go_roundw
          case rel => exact ⟨f, m2, _, n / 2, LM2.out, by omega, by have := HMV.out; rw [HM2.out] at this; simp only [hpf, Bool.false_eq_true, if_false] at this; exact this, rfl, rfl, HN7.out, HB7.out⟩
          case measure => simp [intOf]; omega
      · rw [if_neg hlt] at hmv
        cases hmv
        obtain rfl : n = 0 := by omega
        go_wp2
        go_ret
        exact ⟨rfl, HBB.out⟩
end Go.Proofs.Ytoadflcdpcfibaa.P
