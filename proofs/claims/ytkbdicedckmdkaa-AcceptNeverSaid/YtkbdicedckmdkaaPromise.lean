import Derived.Deep.RegionHeld3
import Derived.Deep.DeepCutAuto
import Derived.Test.YtkbdicedckmdkaaIter
namespace Go.Proofs.Ytkbdicedckmdkaa.P
open Go.RowKit Go.Shelf Go.Proofs Go.Proofs.YtkbdicedckmdkaaW.PrintWords Go.Proofs.YtkbdicedckmdkaaW.PrintLast Go.Proofs.YtkbdicedckmdkaaW.PrintMore
set_option linter.unusedVariables false
set_option linter.unusedSimpArgs false

theorem from_calls (cs : Array Value) (hcs : cs.size = 7) (first : Int) (w : World) :
    Calls Try.prog 29 #[.agg cs, .int .i64 first] w fun e w' => e = .returned (.func (.func 39) #[] #[.pointer (some ⟨w.heap.size + 1, 0, none⟩), .pointer (some ⟨w.heap.size, 0, none⟩)]) ∧ w' = (w.alloc (.cells cs 27)).alloc (.cells #[.int .i64 first] 2) :=
  callsIn_wide.1 (from_in Fence.wide 5 trivial rfl cs hcs first w)
theorem collect_at (B1 B2 : Nat) (A : Option Addr) (c : Nat) (l : List ByteArray) (hl16 : l.length * 16 ≤ 140737488355328) (first : Int) (w : World) (h1 : B1 < w.heap.size) (h2 : B2 < w.heap.size)
    (c1 : w.cell? ⟨B1, 0, none⟩ = some (.int .i64 first)) (c2 : w.cell? ⟨B2, 6, none⟩ = some (.slice A l.length c)) (hC : Kd.C Kd.string w A l.length l) (hc : l.length ≤ c) :
    Calls Try.prog 28 #[.func (.func 39) #[] #[.pointer (some ⟨B1, 0, none⟩), .pointer (some ⟨B2, 0, none⟩)]] w fun e w' => ∃ v, e = .returned v ∧ Kd.string.R 9 w' w.heap.size (fun _ => True) v (fromV l first) ∧ Below w.heap.size w w' :=
  callsIn_wide.1 (collect_in Fence.wide 6 trivial trivial rfl (by omega) 39 _ trivial (enters_of Try.func39 (by kernel_rfl) rfl) (fromV l first) _ l.length hl16 _
    (from_stops Fence.wide 4 trivial rfl (by omega) B1 B2 A c l first _ h1 h2 c1 c2 hC hc))

def accept_Promise.f (a0_0 : Int) (a0_1 : Int) (a0_2 : Bool) (a0_3 : Int) (a0_4 : Int) (a0_5 : ByteArray) (l0_6 : List ByteArray) (a1 : Int) (a2 : Int) : Option (Int × Int × Bool × Int × Int × ByteArray × List ByteArray) :=
  if l0_6.length * 16 ≤ 140737488355328 then some (a1, (l0_6.length : Int), a0_2, a0_3, a0_4, a0_5, fromV l0_6 a2) else none
set_option maxHeartbeats 8000000 in
set_option maxRecDepth 100000 in
theorem accept_Promise.calls (a0_0 : Int) (a0_1 : Int) (a0_2 : Bool) (a0_3 : Int) (a0_4 : Int) (a0_5 : ByteArray) (A0_6 : Option Addr) (c0_6 : Nat) (l0_6 : List ByteArray) (a1 : Int) (a2 : Int) (r1 : Int) (r2 : Int) (r3 : Bool) (r4 : Int) (r5 : Int) (r6 : ByteArray) (r7 : List ByteArray) (w : World) (hr0_6 : Kd.C Kd.string w A0_6 l0_6.length l0_6) (hc0_6 : l0_6.length ≤ c0_6) (h : accept_Promise.f a0_0 a0_1 a0_2 a0_3 a0_4 a0_5 l0_6 a1 a2 = some (r1, r2, r3, r4, r5, r6, r7)) :
    Calls Try.prog 7 #[.agg #[.int .i64 a0_0, .int .i64 a0_1, .bool a0_2, .int .i64 a0_3, .int .i64 a0_4, .string a0_5, .slice A0_6 l0_6.length c0_6], .int .i64 a1, .int .i64 a2] w fun e w' => ∃ v6_ : Value, e = .returned (.tuple #[.agg #[.int .i64 r1, .int .i64 r2, .bool r3, .int .i64 r4, .int .i64 r5, .string r6], v6_]) ∧ Kd.R Kd.string 9 w' w.heap.size (fun _ => True) v6_ r7 ∧ Below w.heap.size w w' := by
  unfold accept_Promise.f at h
  split at h
  case isFalse => cases h
  rename_i hlen
  simp only [Option.some.injEq, Prod.mk.injEq] at h
  obtain ⟨rfl, rfl, rfl, rfl, rfl, rfl, rfl⟩ := h
  have HR := Aside0.mk hr0_6
  have HL := Aside0.mk hlen
  have hm := Kd.C_max hr0_6
  clear hr0_6 hlen
  have hu27 := Try.underlying27
  have hu42 := Try.underlying42
  have hu24 := Try.underlying24
  go_enter Try.func7, Try.ntmps7
  go_wp2_with fail
  have hb0 : Below w.heap.size w ((w.alloc (Obj.cells #[.int .i64 a0_0, .int .i64 a0_1, .bool a0_2, .int .i64 a0_3, .int .i64 a0_4, .string a0_5, .slice A0_6 l0_6.length c0_6] 27)).alloc (Obj.cells #[.int .i64 0, .int .i64 0, .bool false, .int .i64 0, .int .i64 0, .string ⟨#[]⟩] 42)) := ((Below.refl _ w).alloc (Nat.le_refl _) _).alloc (by simp) _
  have hC0 := Aside0.mk (Kd.C_below HR.out hb0)
  go_region_held3 (fun w' => w'.cell? ⟨w.heap.size, 0, none⟩ = some (.int .i64 a0_0) ∧ w'.cell? ⟨w.heap.size, 1, none⟩ = some (.int .i64 a0_1) ∧ w'.cell? ⟨w.heap.size, 2, none⟩ = some (.bool a0_2) ∧ w'.cell? ⟨w.heap.size, 3, none⟩ = some (.int .i64 a0_3) ∧ w'.cell? ⟨w.heap.size, 4, none⟩ = some (.int .i64 a0_4) ∧ w'.cell? ⟨w.heap.size, 5, none⟩ = some (.string a0_5) ∧ w'.cell? ⟨w.heap.size, 6, none⟩ = some (.slice A0_6 l0_6.length c0_6))
    (first | go_keep | (refine ⟨?_, ?_, ?_, ?_, ?_, ?_, ?_⟩ <;> (refine (hbv.cell (by first | (simp; done) | (simp; omega))).trans ?_; first | assumption | go_simp)))
    (first | (go_at_call 29; refine (from_calls _ rfl _ _).mono ?_; rintro e w' ⟨rfl, rfl⟩) | (go_at_call 28; refine (collect_at _ _ A0_6 c0_6 l0_6 HL.out a2 _ ?q1 ?q2 ?q3 ?q4 ?q5 hc0_6).mono ?_; (case q1 => simp); (case q2 => simp); (case q3 => go_simp); (case q4 => go_simp); (case q5 => exact Kd.C_below HR.out (by repeat (first | (with_reducible first | exact Below.refl _ _ | apply below_alloc | apply below_drew) | exact Below.refl _ _))); rintro e w' ⟨v, rfl, hv, hbv⟩; have hkz := (hbv.block (w.heap.size + 1) (by simp)).trans (show _ = some (Obj.cells #[Value.int .i64 0, Value.int .i64 0, Value.bool false, Value.int .i64 0, Value.int .i64 0, Value.string ⟨#[]⟩] 42 (0, 0)) from blk_drew (blk_alloc (blk_alloc (by have := blk_new (w.alloc (Obj.cells #[.int .i64 a0_0, .int .i64 a0_1, .bool a0_2, .int .i64 a0_3, .int .i64 a0_4, .string a0_5, .slice A0_6 l0_6.length c0_6] 27)) (Obj.cells #[.int .i64 0, .int .i64 0, .bool false, .int .i64 0, .int .i64 0, .string ⟨#[]⟩] 42); rwa [World.size_alloc] at this) _) _)); have y0 := (hbv.cell (p := ⟨w.heap.size + 1, 0, none⟩) (by simp)).trans (show _ = some (Value.int .i64 0) by go_simp); have f0 := (hbv.frozen (p := ⟨w.heap.size + 1, 0, none⟩) (by simp)).trans (show _ = false by go_simp); have y1 := (hbv.cell (p := ⟨w.heap.size + 1, 1, none⟩) (by simp)).trans (show _ = some (Value.int .i64 0) by go_simp); have f1 := (hbv.frozen (p := ⟨w.heap.size + 1, 1, none⟩) (by simp)).trans (show _ = false by go_simp); have y2 := (hbv.cell (p := ⟨w.heap.size + 1, 2, none⟩) (by simp)).trans (show _ = some (Value.bool false) by go_simp); have f2 := (hbv.frozen (p := ⟨w.heap.size + 1, 2, none⟩) (by simp)).trans (show _ = false by go_simp); have y3 := (hbv.cell (p := ⟨w.heap.size + 1, 3, none⟩) (by simp)).trans (show _ = some (Value.int .i64 0) by go_simp); have f3 := (hbv.frozen (p := ⟨w.heap.size + 1, 3, none⟩) (by simp)).trans (show _ = false by go_simp); have y4 := (hbv.cell (p := ⟨w.heap.size + 1, 4, none⟩) (by simp)).trans (show _ = some (Value.int .i64 0) by go_simp); have f4 := (hbv.frozen (p := ⟨w.heap.size + 1, 4, none⟩) (by simp)).trans (show _ = false by go_simp); have y5 := (hbv.cell (p := ⟨w.heap.size + 1, 5, none⟩) (by simp)).trans (show _ = some (Value.string ⟨#[]⟩) by go_simp); have f5 := (hbv.frozen (p := ⟨w.heap.size + 1, 5, none⟩) (by simp)).trans (show _ = false by go_simp)))
  go_wp2
  have hk6 := blk_set (blk_set (blk_set (blk_set (blk_set (blk_set hkz 0 (.int .i64 a1)) 1 (.int .i64 (l0_6.length : Int))) 2 (.bool a0_2)) 3 (.int .i64 a0_3)) 4 (.int .i64 a0_4)) 5 (.string a0_5)
  simp only [List.setIfInBounds_toArray, List.set_cons_zero, List.set_cons_succ] at hk6
  refine bodyPost_ret (results_ct rfl _ _ (w.heap.size + 1) 42 #[.int .i64 a1, .int .i64 (l0_6.length : Int), .bool a0_2, .int .i64 a0_3, .int .i64 a0_4, .string a0_5] (0, 0) _ rfl hk6 Try.underlying42 rfl (by kernel_rfl)) rfl ?_
  have hz : w.heap.size + 1 < w'.heap.size := blk_lt hkz
  have hvt := Kd.R_types (Kd.R_lower (base' := w.heap.size) hv (by simp; omega)) hkz (by decide)
  have hbe : Below w.heap.size w w' := (below_drew (below_alloc (below_alloc hb0 _) _)).trans (hbv.mono (by simp; omega))
  have hg : w.heap.size ≤ w.heap.size + 1 := by omega
  exact ⟨v, rfl, Kd.R_mono (Kd.R_far (p := ⟨_, 5, none⟩) (Kd.R_far (p := ⟨_, 4, none⟩) (Kd.R_far (p := ⟨_, 3, none⟩) (Kd.R_far (p := ⟨_, 2, none⟩) (Kd.R_far (p := ⟨_, 1, none⟩) (Kd.R_far (p := ⟨_, 0, none⟩) hvt (fun _ hk => hk.2) _) (fun _ hk => hk.2) _) (fun _ hk => hk.2) _) (fun _ hk => hk.2) _) (fun _ hk => hk.2) _) (fun _ hk => hk.2) _) (fun _ _ => trivial),
    (((((hbe.setCell hg _).setCell hg _).setCell hg _).setCell hg _).setCell hg _).setCell hg _⟩
end Go.Proofs.Ytkbdicedckmdkaa.P
