import Derived.Test.YtkbdicedckmdkaaP1
import Derived.Below
namespace Go.Proofs.Ytkbdicedckmdkaa.P
open Go.RowKit Go.Proofs.YtkbdicedckmdkaaW.PrintWords Go.Proofs.YtkbdicedckmdkaaW.PrintLast Go.Proofs.YtkbdicedckmdkaaW.PrintMore
set_option linter.unusedVariables false
set_option linter.unusedSimpArgs false

theorem heap_at1 (w : World) (o1 o2 o3 : Obj) : (((w.alloc o1).alloc o2).alloc o3).heap[w.heap.size + 1]? = some o2 := by
  have := blk_alloc (blk_new (w.alloc o1) o2) o3
  rwa [World.size_alloc] at this
theorem heap_at2 (w : World) (o1 o2 o3 : Obj) : (((w.alloc o1).alloc o2).alloc o3).heap[w.heap.size + 2]? = some o3 := by
  have := blk_new ((w.alloc o1).alloc o2) o3
  rwa [World.size_alloc, World.size_alloc] at this
def reefref15_Copy.f (a0_0 : Int) (a0_1 : Int) (a0_2 : Bool) (a0_3 : Int) (a0_4 : Int) (a0_5 : ByteArray) (l0_6 : List ByteArray) : Option (Int × Int × Bool × Int × Int × ByteArray × List ByteArray) :=
  if l0_6.length * 16 ≤ 140737488355328 then some (a0_0, a0_1, a0_2, a0_3, a0_4, a0_5, l0_6) else none
set_option maxHeartbeats 8000000 in
set_option maxRecDepth 100000 in
theorem reefref15_Copy.calls (a0_0 : Int) (a0_1 : Int) (a0_2 : Bool) (a0_3 : Int) (a0_4 : Int) (a0_5 : ByteArray) (A0_6 : Option Addr) (c0_6 : Nat) (l0_6 : List ByteArray) (r1 : Int) (r2 : Int) (r3 : Bool) (r4 : Int) (r5 : Int) (r6 : ByteArray) (r7 : List ByteArray) (w : World) (hr0_6 : Kd.C Kd.string w A0_6 l0_6.length l0_6) (hc0_6 : l0_6.length ≤ c0_6) (h : reefref15_Copy.f a0_0 a0_1 a0_2 a0_3 a0_4 a0_5 l0_6 = some (r1, r2, r3, r4, r5, r6, r7)) :
    Calls Try.prog 15 #[.agg #[.int .i64 a0_0, .int .i64 a0_1, .bool a0_2, .int .i64 a0_3, .int .i64 a0_4, .string a0_5, .slice A0_6 l0_6.length c0_6]] w fun e w' => ∃ v6_ : Value, e = .returned (.agg #[.int .i64 r1, .int .i64 r2, .bool r3, .int .i64 r4, .int .i64 r5, .string r6, v6_]) ∧ Kd.R Kd.string 9 w' w.heap.size (fun _ => True) v6_ r7 ∧ Below w.heap.size w w' := by
  unfold reefref15_Copy.f at h
  split at h
  case isFalse => cases h
  rename_i hlen
  simp only [Option.some.injEq, Prod.mk.injEq] at h
  obtain ⟨rfl, rfl, rfl, rfl, rfl, rfl, rfl⟩ := h
  have HR := Aside0.mk hr0_6
  have HL := Aside0.mk hlen
  have hm := Kd.C_max hr0_6
  clear hr0_6 hlen
  have hu27 := Try.underlying27
  go_enter Try.func15, Try.ntmps15
  go_wp2_with ((with_reducible refine gate_builtin (b := .append) rfl ?_); refine Kd.R_append_rows Kd.string (w0 := w) w.heap.size rfl (.tmp 7) (.tmp 9) 25 9 (.string ⟨#[]⟩) 16 rfl Try.underlying25 info9 rfl (by decide) (by omega) (.slice none 0 0) ([] : List ByteArray) l0_6 _ _ _ (fun _ => True) (fun _ => False) rfl rfl (Kd.R_nil _ _ _ _ _) ?aR (fun _ _ h => h) (fun _ h => h.elim) (fun _ _ => trivial) ?aB ?aS ?aL ?_; (case aB => exact (by repeat (first | exact Below.refl _ _ | apply below_alloc))); (case aS => simp; omega); (case aR => exact Kd.C_below HR.out (by repeat (first | exact Below.refl _ _ | apply below_alloc))); (case aL => have := HL.out; simpa using this); intro v1 w1 ho hb hg hat; have k1 := (hg.block (w.heap.size + 1) (by simp) (by simp [Value.ownBlock])).trans (show _ = some (Obj.cells #[.int .i64 0, .int .i64 0, .bool false, .int .i64 0, .int .i64 0, .string ⟨#[]⟩, .slice none 0 0] 27 (0, 0)) from heap_at1 _ _ _ _); have k2 := (hg.block (w.heap.size + 2) (by simp) (by simp [Value.ownBlock])).trans (show _ = some (Obj.cells #[.int .i64 a0_0, .int .i64 a0_1, .bool a0_2, .int .i64 a0_3, .int .i64 a0_4, .string a0_5, .slice none 0 0] 27 (0, 0)) from heap_at2 _ _ _ _); obtain ⟨Av, cv, rfl⟩ := Kd.R_slice ho; have p0 := blk_cell k1 0; have q0 := blk_cell k2 0; have p1 := blk_cell k1 1; have q1 := blk_cell k2 1; have p2 := blk_cell k1 2; have q2 := blk_cell k2 2; have p3 := blk_cell k1 3; have q3 := blk_cell k2 3; have p4 := blk_cell k1 4; have q4 := blk_cell k2 4; have p5 := blk_cell k1 5; have q5 := blk_cell k2 5; have p6 := blk_cell k1 6; have q6 := blk_cell k2 6; simp only [List.getElem?_toArray, List.getElem?_cons_zero, List.getElem?_cons_succ] at p0 p1 p2 p3 p4 p5 p6 q0 q1 q2 q3 q4 q5 q6; have fp0 := blk_frozen k1 0; have fq0 := blk_frozen k2 0; have fp1 := blk_frozen k1 1; have fq1 := blk_frozen k2 1; have fp2 := blk_frozen k1 2; have fq2 := blk_frozen k2 2; have fp3 := blk_frozen k1 3; have fq3 := blk_frozen k2 3; have fp4 := blk_frozen k1 4; have fq4 := blk_frozen k2 4; have fp5 := blk_frozen k1 5; have fq5 := blk_frozen k2 5; have fp6 := blk_frozen k1 6; have fq6 := blk_frozen k2 6)
  simp only [List.nil_append] at *
  have kk := blk_set (blk_set (blk_set (blk_set (blk_set (blk_set (blk_set (blk_far k1 (p := ⟨w.heap.size + 2, 6, none⟩) (by simp) (.slice Av l0_6.length cv)) 0 (.int .i64 a0_0)) 1 (.int .i64 a0_1)) 2 (.bool a0_2)) 3 (.int .i64 a0_3)) 4 (.int .i64 a0_4)) 5 (.string a0_5)) 6 (.slice Av l0_6.length cv)
  simp only [List.setIfInBounds_toArray, List.set_cons_zero, List.set_cons_succ] at kk
  refine bodyPost_ret (results_cell_row rfl _ _ (w.heap.size + 1) 27 #[.int .i64 a0_0, .int .i64 a0_1, .bool a0_2, .int .i64 a0_3, .int .i64 a0_4, .string a0_5, .slice Av l0_6.length cv] (0, 0) _ rfl kk Try.underlying27 rfl (by kernel_rfl)) rfl ?_
  have hg1 : w.heap.size ≤ w.heap.size + 1 := by omega
  have hg2 : w.heap.size ≤ w.heap.size + 2 := by omega
  exact ⟨_, rfl, Kd.R_mono (Kd.R_far (p := ⟨w.heap.size + 1, 6, none⟩) (Kd.R_far (p := ⟨w.heap.size + 1, 5, none⟩) (Kd.R_far (p := ⟨w.heap.size + 1, 4, none⟩) (Kd.R_far (p := ⟨w.heap.size + 1, 3, none⟩) (Kd.R_far (p := ⟨w.heap.size + 1, 2, none⟩) (Kd.R_far (p := ⟨w.heap.size + 1, 1, none⟩) (Kd.R_far (p := ⟨w.heap.size + 1, 0, none⟩) (Kd.R_far (p := ⟨w.heap.size + 2, 6, none⟩) (Kd.R_types (Kd.R_types ho k2 (by decide)) k1 (by decide)) (fun _ hk => hk.1.2) (.slice Av l0_6.length cv)) (fun _ hk => hk.2) (.int .i64 a0_0)) (fun _ hk => hk.2) (.int .i64 a0_1)) (fun _ hk => hk.2) (.bool a0_2)) (fun _ hk => hk.2) (.int .i64 a0_3)) (fun _ hk => hk.2) (.int .i64 a0_4)) (fun _ hk => hk.2) (.string a0_5)) (fun _ hk => hk.2) (.slice Av l0_6.length cv)) (fun _ _ => trivial), (((((((hb.setCell (p := ⟨w.heap.size + 2, 6, none⟩) hg2 _).setCell (p := ⟨w.heap.size + 1, 0, none⟩) hg1 _).setCell (p := ⟨w.heap.size + 1, 1, none⟩) hg1 _).setCell (p := ⟨w.heap.size + 1, 2, none⟩) hg1 _).setCell (p := ⟨w.heap.size + 1, 3, none⟩) hg1 _).setCell (p := ⟨w.heap.size + 1, 4, none⟩) hg1 _).setCell (p := ⟨w.heap.size + 1, 5, none⟩) hg1 _).setCell (p := ⟨w.heap.size + 1, 6, none⟩) hg1 _⟩
end Go.Proofs.Ytkbdicedckmdkaa.P
