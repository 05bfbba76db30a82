/- slices.Insert of a row's own: what stands behind stands behind what is put in. (So far: at a row's end.) -/
import Derived.Test.YtpdpjcpmpppadaaClones
namespace Go.Proofs.Ytpdpjcpmpppadaa.P
open Go.RowKit Go.Proofs.YtpdpjcpmpppadaaW.PrintWords Go.Proofs.YtpdpjcpmpppadaaW.PrintLast Go.Proofs.YtpdpjcpmpppadaaW.PrintMore
set_option linter.unusedVariables false
set_option linter.unusedSimpArgs false

def api_Promise_44.f (l0 : List S39) (a1 : Int) (l2 : List S39) : Option (List S39) := if 0 < l2.length ∧ a1 = (l0.length : Int) ∧ (l0.length + l2.length) * 56 ≤ 140737488355328 then some (l0 ++ l2) else none
set_option maxHeartbeats 8000000 in
set_option maxRecDepth 100000 in
theorem api_Promise_44.own (A0 : Option Addr) (c0 : Nat) (l0 : List S39) (a1 : Int) (A2 : Option Addr) (c2 : Nat) (l2 : List S39) (r : List S39) (w : World) {base : Nat} (hv : Kd.R k39 39 w base (fun _ => True) (.slice A0 l0.length c0) l0) (hbase : base ≤ w.heap.size) (hB : Kd.C k39 w A2 l2.length l2) (hc2 : l2.length ≤ c2) (h : api_Promise_44.f l0 a1 l2 = some r) :
    Calls Try.prog 44 #[.slice A0 l0.length c0, .int .i64 a1, .slice A2 l2.length c2] w fun e w' => ∃ v1, e = .returned v1 ∧ Kd.R k39 39 w' base (fun _ => True) v1 r ∧ Below base w w' ∧ w.grownBy w' (Value.slice A0 l0.length c0).ownBlock := by
  unfold api_Promise_44.f at h
  split at h
  case isFalse => cases h
  rename_i hh
  obtain ⟨hl2, rfl, hl⟩ := hh
  obtain rfl := Option.some.inj h
  clear h
  obtain ⟨_, hc, hC⟩ := Kd.R_reads' hv
  obtain ⟨i0, hi0, hi1⟩ := Option.map_eq_some_iff.1 info39
  simp only [Prod.mk.injEq] at hi1
  have hsl0 := cut_from (P := Try.prog) 34 39 .i64 Try.underlying34 hi0 6 hi1.2.1 A0 l0.length c0 (l0.length : Int) (by omega) (by omega)
  obtain ⟨sv, hsl⟩ : ∃ sv, ∀ W : World, (Instr.slice 34 (.slice A0 l0.length c0) (some (.int .i64 (l0.length : Int))) none none).run Try.prog W = .ok sv W := ⟨_, hsl0⟩
  clear hsl0 hi1 hi0
  have hm0 : ((l2.length : Int) == 0) = false := by simp; intro h0; rw [h0] at hl2; simp at hl2
  have hm1 : l2 ≠ [] := by intro h0; rw [h0] at hl2; simp at hl2
  have hm2 : (l2 = []) = False := by simp [hm1]
  have HV := Aside0.mk hv
  have HBB := Aside0.mk hB
  have HL := Aside0.mk hl
  have HC := Aside0.mk hC
  have HE := Aside0.mk hbase
  clear hv hB hl hC hbase hl2 hm1
  go_enter Try.func44, Try.ntmps44
  go_wp2_with ((with_reducible refine gate_builtin (b := .append) rfl ?_); refine Kd.R_append_rows k39 (w0 := w) base rfl (.tmp 23) (.tmp 24) 34 39 (.agg #[(.int .i64 0), (.int .i64 0), (.bool false), (.int .i64 0), (.int .i64 0), (.string ⟨#[]⟩)]) 56 rfl Try.underlying34 info39 rfl (by decide) (by omega) (.slice A0 l0.length c0) l0 l2 _ _ _ (fun _ => True) (fun _ => False) rfl rfl ?aO ?aR (fun _ _ h => h) (fun _ h => h.elim) (fun _ _ => trivial) ?aB ?aS ?aL ?_; (case aO => exact HV.out); (case aR => exact HBB.out); (case aB => exact Below.refl _ _); (case aS => exact HE.out); (case aL => exact HL.out); intro v1 w1 ho hb hg hat)
  go_ret
  exact ⟨v1, rfl, ho, hb, hg⟩
theorem ints_apart {W : World} {base bu : Nat} {oku okv : Nat → Prop} {u v : Value} {ys : List Int} {xs : List S39} (hu : Kd.R (Kd.int .i64) 3 W bu oku u ys) (hv : Kd.R k39 39 W base okv v xs) : Kd.R (Kd.int .i64) 3 W bu (fun k => oku k ∧ some k ≠ v.ownBlock) u ys := by
  obtain ⟨inner, hown⟩ := Kd.R_own hv
  rcases hown.2 with ⟨h0, _⟩ | ⟨g, cap, cur, h0, hb, hh, _⟩
  · rw [h0]; exact Kd.R_mono hu (fun k hk => ⟨hk, by simp [Value.ownBlock]⟩)
  · rw [h0]; exact Kd.R_mono (Kd.R_types hu hh (by decide)) (fun k hk => ⟨hk.1, by simpa [Value.ownBlock] using hk.2⟩)
theorem blk_grow {W w1 : World} {g t base : Nat} {cs : Array Value} {okv : Nat → Prop} {v : Value} {xs : List S39} (hv : Kd.R k39 39 W base okv v xs) (hg : W.grownBy w1 v.ownBlock) (ht : 39 ≠ t) (hB : W.heap[g]? = some (.cells cs t (0, 0))) : w1.heap[g]? = some (.cells cs t (0, 0)) := by
  obtain ⟨inner, ho⟩ := Kd.R_own hv
  exact blk_grown hB hg (own_ne ho hB ht)
end Go.Proofs.Ytpdpjcpmpppadaa.P
