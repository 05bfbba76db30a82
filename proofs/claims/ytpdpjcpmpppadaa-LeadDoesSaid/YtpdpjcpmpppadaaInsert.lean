-- left of the seat's texts by prune.py, a program of this session
import Derived.Test.YtpdpjcpmpppadaaClones
import Derived.WalkSpells
import Derived.StillTailTactics
import Derived.Lib.AppendZeros
import Derived.Lib.AppendZerosOnto
import Derived.Lib.Overlaps
import Derived.Laws.Externs
import Derived.Laws.NewBlocks
namespace Go.Proofs.Ytpdpjcpmpppadaa.P
open Go.RowKit Go.Proofs.YtpdpjcpmpppadaaW.PrintWords Go.Proofs.YtpdpjcpmpppadaaW.PrintLast Go.Proofs.YtpdpjcpmpppadaaW.PrintMore
set_option linter.unusedVariables false
set_option linter.unusedSimpArgs false
def One1 : Nat := 1
theorem run_copy_sz {P : Program} (w : World) (dT sT ty elem : TypeId) (b o dLen dCap : Nat) (a : Addr) (sLen sCap : Nat) (cs : List Value) (sz : Nat)
    (hu : P.underlying dT = some (.slice elem)) (hs : (P.info? elem).map (·.size) = some sz) (hn : cs.length = Nat.min sLen dLen * sz)
    (hsrc : ∀ j v, cs[j]? = some v → w.cell? (a.add j) = some v) (hc : ∀ j, j < cs.length → (w.cell? ⟨b, o + j, none⟩).isSome = true) (hf : ∀ j, j < cs.length → w.frozen? ⟨b, o + j, none⟩ = false) (h1 : ∀ v ∈ cs, v.oneCell' = true) :
    (Builtin.copy_ #[dT, sT] ty #[.slice (some ⟨b, o, none⟩) dLen dCap, .slice (some a) sLen sCap]).run P w = .ok (goInt (Nat.min sLen dLen)) (w.setCells b o cs) := by
  have hl := run_loadCells_list (P := P) w a cs hsrc
  have hst := run_storeCells_cells (P := P) b o cs 0 w (by simpa using hc) (by simpa using hf) h1
  cases hq : P.info? elem with
  | none => simp [hq] at hs
  | some i =>
    have hi : i.size = sz := by simpa [hq] using hs
    simp [Builtin.copy_, run_underlying hu, Builtin.lenOf, Builtin.firstCells, sizeOf, typeInfo, hq, hi, ← hn, hl, hst]
section
variable {P : Program} {ops : Array Oper} {rest : List Oper} {o : Oper} {a : Act} {Q : Exit → Act → World → Prop}
theorem copy_raw {W : World} (hgd : o.guard = none) (s x : Operand) (t t' e : TypeId) (ho : o.op = .call { callee := .builtin .copy, args := #[s, x], argTypes := #[t, t'] }) (ht : P.underlying t = some (.slice e)) (sz : Nat) (hinfo : (P.info? e).map (·.size) = some sz)
    (g off dLen dCap : Nat) (ad : Addr) (sLen sCap : Nat) (cs : List Value) (hn : cs.length = Nat.min sLen dLen * sz) (hs : a.eval s = .slice (some ⟨g, off, none⟩) dLen dCap) (hx : a.eval x = .slice (some ad) sLen sCap)
    (cur : Array Value) (te : TypeId) (hh : W.heap[g]? = some (.cells cur te (0, 0))) (hsrc : ∀ j v, cs[j]? = some v → W.cell? (ad.add j) = some v) (hfit : off + cs.length ≤ cur.size) (h1 : ∀ v ∈ cs, v.oneCell' = true)
    (h : ∀ W' cur', Aside0 (W'.heap[g]? = some (.cells cur' te (0, 0))) → Aside0 (cur'.toList = cur.toList.take off ++ (cs ++ cur.toList.drop (off + cs.length))) → Aside0 (cur'.size = cur.size) → Aside0 (W.grownBy W' (some g)) → wpList P ops Q rest (a.put o.dst (goInt (Nat.min sLen dLen))) W') :
    wpList P ops Q (o :: rest) a W := by
  have hr := run_copy_sz (P := P) W t t' o.type e g off dLen dCap ad sLen sCap cs sz ht hinfo hn hsrc (fun j hj => by rw [cell_of_row W g _ cur te (0, 0) hh]; simp; omega) (fun j _ => blk_frozen hh _) h1
  obtain ⟨cur', h3, h4, h5⟩ := setCells_row cs off W cur hh hfit
  obtain ⟨s1, s2, s3, s4⟩ := setCells_same g cs off W
  refine wpList_plain hgd fun K hK => ?_
  unfold Oper.wp execOp
  simp only [ho, resolve, invoke, builtin, Sem.run_bind, Sem.run_pure, Result.andThen_ok, List.map_toArray, List.map_cons, List.map_nil, hs, hx, hr]
  exact hK _ _ (h _ cur' ⟨h3⟩ ⟨by rw [h5, List.append_assoc]⟩ ⟨h4⟩ ⟨s1, s2, s3, by rw [s4]; exact Nat.le_refl _, fun k _ hk => setCells_far _ _ k (fun he => hk (by rw [he]))⟩)
end
theorem reps_one {α : Type} {d : Kd α} {w : World} {base : Nat} {ok : Nat → Prop} {xs : List α} {cs : List Value} (h : Reps (d.M w base ok) d.sz xs cs) : ∀ u ∈ cs, u.oneCell' = true := by
  intro u hu
  obtain ⟨j, hj, rfl⟩ := List.mem_iff_getElem.1 hu
  by_cases hz : d.sz = 0
  · have := h.1; rw [hz, Nat.mul_zero] at this; omega
  have hp : 0 < d.sz := by omega
  have hlt : j / d.sz < xs.length := by
    have := h.1
    rw [Nat.div_lt_iff_lt_mul hp]; omega
  have hm := h.2 (j / d.sz) xs[j / d.sz] (List.getElem?_eq_getElem hlt)
  have hk := d.K_of_M hm
  refine d.K_one hk _ ?_
  refine List.mem_iff_getElem?.2 ⟨j % d.sz, ?_⟩
  have hmod := Nat.mod_lt j hp
  rw [List.getElem?_take, if_pos hmod, List.getElem?_drop, Nat.mul_comm, Nat.div_add_mod, List.getElem?_eq_getElem hj]
theorem cells_shift (cur cur1 cur2 inner ys : List Value) (n m i c sz : Nat) (hi : i ≤ n) (hc : n + m ≤ c) (hcur : cur.length = c * sz) (hin : cur.take (n * sz) = inner) (hy : ys.length = m * sz)
    (h1 : cur1 = cur.take ((i + m) * sz) ++ (inner.drop (i * sz) ++ cur.drop ((i + m) * sz + (inner.drop (i * sz)).length)))
    (h2 : cur2 = cur1.take (i * sz) ++ (ys ++ cur1.drop (i * sz + ys.length))) : cur2.take ((n + m) * sz) = inner.take (i * sz) ++ (ys ++ inner.drop (i * sz)) := by
  have a1 : i * sz ≤ n * sz := Nat.mul_le_mul_right _ hi
  have a2 : (n + m) * sz ≤ c * sz := Nat.mul_le_mul_right _ hc
  have a3 : (n + m) * sz = n * sz + m * sz := Nat.add_mul _ _ _
  have a4 : (i + m) * sz = i * sz + m * sz := Nat.add_mul _ _ _
  rw [a3] at a2 ⊢
  rw [a4] at h1
  obtain ⟨I, hI⟩ : ∃ I, i * sz = I := ⟨_, rfl⟩
  obtain ⟨N', hN⟩ : ∃ I, n * sz = I := ⟨_, rfl⟩
  obtain ⟨M', hM⟩ : ∃ I, m * sz = I := ⟨_, rfl⟩
  obtain ⟨C', hC⟩ : ∃ I, c * sz = I := ⟨_, rfl⟩
  rw [hI, hN] at a1; rw [hN, hM, hC] at a2; rw [hC] at hcur; rw [hN] at hin; rw [hM] at hy; rw [hI, hM] at h1; rw [hI] at h2
  rw [hI, hN, hM]
  clear hI hN hM hC a3 a4 hi hc
  have l1 : inner.length = N' := by rw [← hin, List.length_take]; omega
  have l2 : (inner.drop I).length = N' - I := by rw [List.length_drop, l1]
  have t1 : (cur.take (I + M')).length = I + M' := by rw [List.length_take]; omega
  have e1 : cur1.take I = inner.take I := by
    rw [h1, List.take_append_of_le_length (by omega), List.take_take, Nat.min_eq_left (by omega), ← hin, List.take_take, Nat.min_eq_left a1]
  have e2 : cur1.drop (I + M') = inner.drop I ++ cur.drop (I + M' + (inner.drop I).length) := by
    rw [h1, List.drop_append, t1, Nat.sub_self, List.drop_zero, List.drop_eq_nil_of_le (by omega), List.nil_append]
  have l3 : (inner.take I).length = I := by rw [List.length_take]; omega
  rw [h2, e1, hy, e2, show inner.take I ++ (ys ++ (inner.drop I ++ cur.drop (I + M' + (inner.drop I).length))) = (inner.take I ++ (ys ++ inner.drop I)) ++ cur.drop (I + M' + (inner.drop I).length) by simp only [List.append_assoc]]
  refine List.take_left' ?_
  rw [List.length_append, List.length_append, l3, hy, l2]
  omega
theorem ints_apart {α β : Type} {d2 : Kd β} {d : Kd α} {e2 e : Nat} {W : World} {base bu : Nat} {oku okv : Nat → Prop} {u v : Value} {ys : List β} {xs : List α} (hu : Kd.R d2 e2 W bu oku u ys) (hv : Kd.R d e W base okv v xs) (ht : ∀ q, q ∈ e2 :: d2.E → q ≠ e := by decide) : Kd.R d2 e2 W bu (fun k => oku k ∧ some k ≠ v.ownBlock) u ys := by
  obtain ⟨inner, hown⟩ := Kd.R_own hv
  rcases hown.2 with ⟨h0, _⟩ | ⟨g, cap, cur, h0, hb, hh, _⟩
  · rw [h0]; exact Kd.R_mono hu (fun k hk => ⟨hk, by simp [Value.ownBlock]⟩)
  · rw [h0]; exact Kd.R_mono (Kd.R_types hu hh ht) (fun k hk => ⟨hk.1, by simpa [Value.ownBlock] using hk.2⟩)
theorem blk_grow {α : Type} {d : Kd α} {e : Nat} {W w1 : World} {g t base : Nat} {cs : Array Value} {okv : Nat → Prop} {v : Value} {xs : List α} (hv : Kd.R d e W base okv v xs) (hg : W.grownBy w1 v.ownBlock) (ht : e ≠ t) (hB : W.heap[g]? = some (.cells cs t (0, 0))) : w1.heap[g]? = some (.cells cs t (0, 0)) := by
  obtain ⟨inner, ho⟩ := Kd.R_own hv
  exact blk_grown hB hg (own_ne ho hB ht)
theorem cells_grow (cur cur1 cur2 X ys tl : List Value) (I : Nat) (hX : cur.take I = X) (hI : X.length = I) (hc : I + ys.length + tl.length ≤ cur.length)
    (h1 : cur1 = cur.take I ++ (ys ++ cur.drop (I + ys.length))) (h2 : cur2 = cur1.take (I + ys.length) ++ (tl ++ cur1.drop (I + ys.length + tl.length))) : cur2.take (I + ys.length + tl.length) = X ++ (ys ++ tl) := by
  have e1 : cur1.take (I + ys.length) = X ++ ys := by
    rw [h1, hX, ← List.append_assoc]
    exact List.take_left' (by rw [List.length_append, hI])
  rw [h2, e1, show (X ++ ys) ++ (tl ++ cur1.drop (I + ys.length + tl.length)) = (X ++ (ys ++ tl)) ++ cur1.drop (I + ys.length + tl.length) by simp only [List.append_assoc]]
  refine List.take_left' ?_
  rw [List.length_append, List.length_append, hI]
  omega
theorem grown_new {A B C : World} {N : Nat} (h : A.grownBy B none) (k : B.grownBy C (some N)) (hN : A.heap.size ≤ N) : A.grownBy C none := by
  obtain ⟨h1, h2, h3, h4, h5⟩ := h
  obtain ⟨k1, k2, k3, k4, k5⟩ := k
  exact ⟨k1.trans h1, k2.trans h2, k3.trans h3, Nat.le_trans h4 k4, fun q hq hr => (k5 q (Nat.lt_of_lt_of_le hq h4) (fun e => by cases e; omega)).trans (h5 q hq hr)⟩
theorem grown_any {A B : World} (h : A.grownBy B none) (r : Option Nat) : A.grownBy B r := by
  obtain ⟨h1, h2, h3, h4, h5⟩ := h
  exact ⟨h1, h2, h3, h4, fun q hq _ => h5 q hq (by simp)⟩
theorem grownBy_trans' {A B C : World} {r : Option Nat} (h : A.grownBy B r) (k : B.grownBy C r) : A.grownBy C r := by
  obtain ⟨h1, h2, h3, h4, h5⟩ := h
  obtain ⟨k1, k2, k3, k4, k5⟩ := k
  exact ⟨k1.trans h1, k2.trans h2, k3.trans h3, Nat.le_trans h4 k4, fun q hq hr => (k5 q (Nat.lt_of_lt_of_le hq h4) hr).trans (h5 q hq hr)⟩
def api_Promise_44.f (l0 : List S39) (a1 : Int) (l2 : List S39) : Option (List S39) := if 0 < l2.length ∧ 0 ≤ a1 ∧ a1 ≤ (l0.length : Int) ∧ (l0.length + l2.length) * 56 ≤ 140737488355328 then some (l0.take a1.toNat ++ (l2 ++ l0.drop a1.toNat)) else none
set_option maxHeartbeats 8000000 in
set_option maxRecDepth 100000 in
theorem api_Promise_44.at_end (A0 : Option Addr) (c0 : Nat) (l0 : List S39) (A2 : Option Addr) (c2 : Nat) (l2 : List S39) (w : World) {base : Nat} (hv : Kd.R k39 39 w base (fun _ => True) (.slice A0 l0.length c0) l0) (hbase : base ≤ w.heap.size) {ok2 : Nat → Prop} (hL : Kd.R k39 39 w base ok2 (.slice A2 l2.length c2) l2) (hap : ∀ k, ok2 k → some k ≠ (Value.slice A0 l0.length c0).ownBlock) (hl2 : 0 < l2.length) (hl : (l0.length + l2.length) * 56 ≤ 140737488355328) :
    Calls Try.prog 44 #[.slice A0 l0.length c0, .int .i64 (l0.length : Int), .slice A2 l2.length c2] w fun e w' => ∃ v1, e = .returned v1 ∧ Kd.R k39 39 w' base (fun _ => True) v1 (l0 ++ l2) ∧ Below base w w' ∧ w.grownBy w' (Value.slice A0 l0.length c0).ownBlock := by
  obtain ⟨_, hc, hC⟩ := Kd.R_reads' hv
  have hB := (Kd.R_reads' hL).2.2
  obtain ⟨i0, hi0, hi1⟩ := Option.map_eq_some_iff.1 info39
  simp only [Prod.mk.injEq] at hi1
  have hsl0 := cut_from (P := Try.prog) 34 39 .i64 Try.underlying34 hi0 6 hi1.2.1 A0 l0.length c0 (l0.length : Int) (by omega) (by omega)
  obtain ⟨sv, hsl⟩ : ∃ sv, ∀ W : World, (Instr.slice 34 (.slice A0 l0.length c0) (some (.int .i64 (l0.length : Int))) none none).run Try.prog W = .ok sv W := ⟨_, hsl0⟩
  clear hsl0 hi1 hi0
  have hm0 : ((l2.length : Int) == 0) = false := by simp; intro h0; rw [h0] at hl2; simp at hl2
  have hm1 : l2 ≠ [] := by intro h0; rw [h0] at hl2; simp at hl2
  have hm2 : (l2 = []) = False := by simp [hm1]
  have HV := Aside0.mk hv
  have HBB := Aside0.mk hB
  have HL := Aside0.mk hl
  have HC := Aside0.mk hC
  have HE := Aside0.mk hbase
  clear hv hB hl hC hbase hl2 hm1 hL hap
  go_enter Try.func44, Try.ntmps44
  go_wp2_with ((with_reducible refine gate_builtin (b := .append) rfl ?_); refine Kd.R_append_rows k39 (w0 := w) base rfl (.tmp 23) (.tmp 24) 34 39 (.agg #[(.int .i64 0), (.int .i64 0), (.bool false), (.int .i64 0), (.int .i64 0), (.string ⟨#[]⟩)]) 56 rfl Try.underlying34 info39 rfl (by decide) (by omega) (.slice A0 l0.length c0) l0 l2 _ _ _ (fun _ => True) (fun _ => False) rfl rfl ?aO ?aR (fun _ _ h => h) (fun _ h => h.elim) (fun _ _ => trivial) ?aB ?aS ?aL ?_; (case aO => exact HV.out); (case aR => exact HBB.out); (case aB => exact Below.refl _ _); (case aS => exact HE.out); (case aL => exact HL.out); intro v1 w1 ho hb hg hat)
  go_ret
  exact ⟨v1, rfl, ho, hb, hg⟩
set_option maxHeartbeats 8000000 in
set_option maxRecDepth 100000 in
theorem api_Promise_44.shift (A0 : Option Addr) (c0 : Nat) (l0 : List S39) (i : Nat) (A2 : Option Addr) (c2 : Nat) (l2 : List S39) (w : World) {base : Nat} (hv : Kd.R k39 39 w base (fun _ => True) (.slice A0 l0.length c0) l0) (hbase : base ≤ w.heap.size) {ok2 : Nat → Prop} (hL : Kd.R k39 39 w base ok2 (.slice A2 l2.length c2) l2) (hap : ∀ k, ok2 k → some k ≠ (Value.slice A0 l0.length c0).ownBlock) (hl2 : 0 < l2.length) (hi : i < l0.length) (hroom : l0.length + l2.length ≤ c0) :
    Calls Try.prog 44 #[.slice A0 l0.length c0, .int .i64 (i : Int), .slice A2 l2.length c2] w fun e w' => ∃ v1, e = .returned v1 ∧ Kd.R k39 39 w' base (fun _ => True) v1 (l0.take i ++ (l2 ++ l0.drop i)) ∧ Below base w w' ∧ w.grownBy w' (Value.slice A0 l0.length c0).ownBlock := by
  obtain ⟨-, inner, hown, hreps⟩ := hv
  obtain ⟨hok2, ys, hown2, hreps2⟩ := hL
  have hbb := own_base hown
  obtain ⟨hl1, hown⟩ := hown
  obtain ⟨hly, hown2⟩ := hown2
  rcases hown with ⟨h0, _⟩ | ⟨g, cap, cur, hv, hb, hh, hnc, hcm, hcs, htake⟩
  · simp only [Value.slice.injEq] at h0; omega
  rcases hown2 with ⟨h0, _⟩ | ⟨g2, cap2, cur2, hv2, hb2, hh2, hnc2, hcm2, hcs2, htake2⟩
  · simp only [Value.slice.injEq] at h0; omega
  simp only [Value.slice.injEq] at hv hv2
  obtain ⟨rfl, -, rfl⟩ := hv
  obtain ⟨rfl, -, rfl⟩ := hv2
  have hne : g2 ≠ g := fun e => hap g2 (hok2 g2 (by simp [Value.ownBlock])) (by rw [e]; rfl)
  have hk6 : k39.sz = 6 := rfl
  rw [hk6] at hl1 hcs htake hly hcs2 htake2
  obtain ⟨n, hn⟩ : ∃ n, l0.length = n := ⟨_, rfl⟩
  obtain ⟨m, hm⟩ : ∃ m, l2.length = m := ⟨_, rfl⟩
  rw [hn] at hi hroom hnc htake hl1 ⊢
  rw [hm] at hl2 hroom hnc2 htake2 hly ⊢
  have hc63 : c0 ≤ 9223372036854775807 := by have := hcm; unfold maxLen at this; omega
  obtain ⟨i0, hi0, hi1⟩ := Option.map_eq_some_iff.1 info39
  simp only [Prod.mk.injEq] at hi1
  have hsz : (Try.prog.info? 39).map (·.size) = some 6 := by rw [hi0]; first | (simp [hi1.2.1]; done) | (simp [hi1.2.1]; rfl)
  have hzz : ∀ w, (Go.sizeOf 39).run Try.prog w = .ok 6 w := fun w => by first | (simp [sizeOf, typeInfo, hi0, hi1.2.1]; done) | (simp [sizeOf, typeInfo, hi0, hi1.2.1]; rfl)
  have hsl : ∀ (k l c : Nat), k ≤ l → k < c → ∀ W : World, (Instr.slice 34 (.slice (some ⟨g, 0, none⟩) l c) (some (.int .i64 (k : Int))) none none).run Try.prog W = .ok (.slice (some ⟨g, k * 6, none⟩) (l - k) (c - k)) W := fun k l c h1 h2 W => by
    have := cut_from (P := Try.prog) 34 39 .i64 Try.underlying34 hi0 6 hi1.2.1 (some ⟨g, 0, none⟩) l c (k : Int) (by omega) (by omega) W
    rw [Int.toNat_natCast, if_neg (by omega)] at this
    simp only [Option.map_some] at this
    rw [this, show Addr.add ⟨g, 0, none⟩ (k * 6) = ⟨g, k * 6, none⟩ by simp [Addr.add]; (try omega)]
  have s1 := hsl i n c0 (by omega) (by omega)
  have s2 := hsl i (n + m) c0 (by omega) (by omega)
  have s3 := hsl (i + m) (n + m) c0 (by omega) (by omega)
  rw [show ((i + m : Nat) : Int) = (i : Int) + (m : Int) by omega] at s3
  have hg0 : ∀ k, w.cell? ⟨g, k, none⟩ = cur[k]? := fun k => cell_of_row w g k cur 39 (0, 0) hh
  have hi1' : inner.length = n * 6 := hl1
  have hcell : ∀ k v, inner[k]? = some v → w.cell? ⟨g, k, none⟩ = some v := fun k v hk => by
    rw [hg0, ← hk, ← htake, List.getElem?_take]
    have : k < n * 6 := by rw [← hi1']; exact (List.getElem?_eq_some_iff.1 hk).1
    rw [if_pos this, Array.getElem?_toList]
  have hcell2 : ∀ W' : World, W'.heap[g2]? = some (.cells cur2 39 (0, 0)) → ∀ j v, ys[j]? = some v → W'.cell? (Addr.add ⟨g2, 0, none⟩ j) = some v := fun W' hW k v hk => by
    rw [show Addr.add ⟨g2, 0, none⟩ k = ⟨g2, k, none⟩ by simp [Addr.add]; (try omega)]
    rw [cell_of_row W' g2 k cur2 39 (0, 0) hW, ← hk, ← htake2, List.getElem?_take]
    have : k < m * 6 := by rw [← hly]; exact (List.getElem?_eq_some_iff.1 hk).1
    rw [if_pos this, Array.getElem?_toList]
  have hov : ∀ lb cb, (callFunc 60 #[.slice (some ⟨g2, 0, none⟩) m c2, .slice (some ⟨g, (i + m) * 6, none⟩) lb cb]).run Try.prog w = .ok (.value (.bool false)) w := fun lb cb => by
    rw [run_callFunc_extern Try.func60 (by kernel_rfl) (by kernel_rfl) (by kernel_rfl) (e := Extern.SlicesOverlaps.overlaps #[34, 34] #[4]) (by kernel_rfl),
      Lib.run_overlaps_apart w 34 4 39 Try.underlying34 6 hzz ⟨g2, 0, none⟩ ⟨g, (i + m) * 6, none⟩ m c2 lb cb hne 39 39 cur2.size cur.size (by simp [World.shape?, hh2]) (by simp [World.shape?, hh]) (by first | omega | (clear hsl; simp only [One1] at *; omega)) (blk_frozen hh2 _) (blk_frozen hh2 _)]
    rfl
  have e1 := reps_one hreps
  have e2 := reps_one hreps2
  have hin : inner.drop (i * 6) = inner.drop (i * 6) := rfl
  obtain ⟨tl, htl⟩ : ∃ tl, inner.drop (i * 6) = tl := ⟨_, rfl⟩
  have htll : tl.length = (n - i) * 6 := by rw [← htl, List.length_drop, hi1', Nat.sub_mul]
  have hsrc1 : ∀ j v, tl[j]? = some v → w.cell? (Addr.add ⟨g, i * 6, none⟩ j) = some v := fun j v hj => by
    rw [← htl, List.getElem?_drop] at hj
    rw [show Addr.add ⟨g, i * 6, none⟩ j = ⟨g, i * 6 + j, none⟩ by simp [Addr.add]; (try omega)]
    exact hcell _ v hj
  have HH := Aside0.mk hh
  have HH2 := Aside0.mk hh2
  have HSZ := Aside0.mk hsz
  have HR := Aside0.mk hreps
  have HR2 := Aside0.mk hreps2
  have HSR := Aside0.mk hsrc1
  have HC2 := Aside0.mk hcell2
  have HT := Aside0.mk htake
  have HL1 := Aside0.mk hi1'
  have HLY := Aside0.mk hly
  have HTL := Aside0.mk htl
  have HLL := Aside0.mk htll
  have HE1 := Aside0.mk (fun u (hu : u ∈ tl) => e1 u (List.mem_of_mem_drop (by rw [htl]; exact hu)))
  have HE2 := Aside0.mk e2
  have HN := Aside0.mk hn
  have HM := Aside0.mk hm
  have HX := Aside0.mk hcs
  have HAP := Aside0.mk hap
  have HE := Aside0.mk hbase
  clear hsz hh hh2 hreps hreps2 hsrc1 hcell hcell2 htake htake2 hi1' hly htl htll e1 e2 hn hm hcs hcs2 hg0 hl1 hok2 hap hbb hi0 hi1 hin hsl hzz
  have q1 : ((m : Int) = 0) = False := eq_false (by omega)
  have q1b : ((m : Int) == 0) = false := beq_eq_false_iff_ne.2 (by omega)
  have q2 : ((i : Int) = (n : Int)) = False := eq_false (by omega)
  have q2b : ((i : Int) == (n : Int)) = false := beq_eq_false_iff_ne.2 (by omega)
  have q3 : decide ((c0 : Int) < (n : Int) + (m : Int)) = false := decide_eq_false (by omega)
  go_enter Try.func44, Try.ntmps44
  go_wp2_with (simp only [hov])
  have hwi : IntKind.i64.wrap ((i : Int) + (m : Int)) = (i : Int) + (m : Int) := IntWalk.i64_in _ (by omega)
  refine wp_region_still_tail 8 (by kernel_rfl) (by kernel_rfl) ?_
  simp only [List.take_succ_cons, List.take_zero, List.drop_succ_cons, List.drop_zero]
  change wpStill _ _ (World.drew _) _ _ _
  repeat still_step
  clear hwi
  refine wpStill_nil ?_
  change wpList _ _ _ _ _ (World.drew _)
  refine copy_raw rfl (.tmp 73) (.tmp 76) 34 34 39 rfl Try.underlying34 6 HSZ.out g ((i + m) * 6) (n + m - (i + m)) (c0 - (i + m)) ⟨g, i * 6, none⟩ (n + m - i) (c0 - i) tl ?n1 ?x1 ?x2 cur 39 HH.out HSR.out ?f1 HE1.out ?_
  case n1 => rw [HLL.out]; congr 1; simp only [Nat.min_def]; split <;> omega
  case x1 => first | rfl | (simp; done) | (go_simp; done)
  case x2 => first | rfl | (simp; done) | (go_simp; done)
  case f1 => rw [HLL.out, HX.out, ← Nat.add_mul]; exact Nat.mul_le_mul_right _ (by omega)
  intro W1 cur1 P1 P2 P3 P4
  have G1 : Aside0 (w.grownBy W1 (some g)) := ⟨grownBy_trans' (⟨rfl, rfl, rfl, Nat.le_refl _, fun _ _ _ => rfl⟩ : w.grownBy w.drew (some g)) P4.out⟩
  have B1 : Aside0 (W1.heap[g2]? = some (.cells cur2 39 (0, 0))) := ⟨(G1.out.block g2 (blk_lt HH2.out) (fun e => hne (Option.some.inj e))).trans HH2.out⟩
  clear P4
  go_wp2_with ((with_reducible refine gate_builtin (b := .copy) rfl ?_); refine copy_raw rfl (.tmp 80) (.tmp 81) 34 34 39 rfl Try.underlying34 6 HSZ.out g (i * 6) (n + m - i) (c0 - i) ⟨g2, 0, none⟩ m c2 ys ?n2 rfl rfl cur1 39 P1.out (HC2.out W1 B1.out) ?f2 HE2.out ?_; (case n2 => rw [HLY.out]; congr 1; simp only [Nat.min_def]; split <;> omega); (case f2 => rw [HLY.out, P3.out, HX.out, ← Nat.add_mul]; exact Nat.mul_le_mul_right _ (by omega)); intro W2 cur3 K1 K2 K3 K4; have G2 := Aside0.mk (grownBy_trans' G1.out K4.out); clear K4)
  go_ret
  refine ⟨_, rfl, ⟨fun _ _ => trivial, inner.take (i * 6) ++ (ys ++ inner.drop (i * 6)), ?_, ?_⟩, ?_, ?_⟩
  · have hlen : (l0.take i ++ (l2 ++ l0.drop i)).length = n + m := by rw [List.length_append, List.length_append, List.length_take, List.length_drop, HN.out, HM.out]; omega
    rw [hlen]
    refine ⟨?_, .inr ⟨g, c0, cur3, rfl, hb, K1.out, by omega, hcm, by rw [K3.out, P3.out, HX.out]; rfl, ?_⟩⟩
    · rw [List.length_append, List.length_append, List.length_take, HTL.out, HLL.out, HLY.out, HL1.out, Nat.min_eq_left (Nat.mul_le_mul_right _ (by omega)), ← Nat.add_mul, ← Nat.add_mul]
      congr 1
      omega
    · exact cells_shift cur.toList cur1.toList cur3.toList inner ys n m i c0 6 (by omega) (by omega) (by rw [Array.length_toList]; exact HX.out) HT.out HLY.out (by rw [HTL.out]; exact P2.out) K2.out
  · have r1 := HR.out.imp_ (fun x c h => Kd.M_grown h G2.out (fun k hk => hk.2))
    have r2 : Reps (k39.M W2 base (fun k => True ∧ some k ≠ (Value.slice (some ⟨g, 0, none⟩) (n + m) c0).ownBlock)) 6 l2 ys := HR2.out.imp_ (fun x c h => Kd.M_mono _ (fun k hk => ⟨trivial, HAP.out k hk.1⟩) (Kd.M_grown h G2.out (fun k hk => HAP.out k hk.1)))
    exact Kd.reps_append (Kd.reps_take r1 (by rw [HN.out]; omega)) (Kd.reps_append r2 (Kd.reps_drop r1))
  · exact (Below.refl _ _).grown G2.out HE.out (fun k e => by cases e; exact hb)
  · exact G2.out
set_option maxHeartbeats 8000000 in
set_option maxRecDepth 100000 in
theorem api_Promise_44.grow (A0 : Option Addr) (c0 : Nat) (l0 : List S39) (i : Nat) (A2 : Option Addr) (c2 : Nat) (l2 : List S39) (w : World) {base : Nat} (hv : Kd.R k39 39 w base (fun _ => True) (.slice A0 l0.length c0) l0) (hbase : base ≤ w.heap.size) {ok2 : Nat → Prop} (hL : Kd.R k39 39 w base ok2 (.slice A2 l2.length c2) l2) (hap : ∀ k, ok2 k → some k ≠ (Value.slice A0 l0.length c0).ownBlock) (hl2 : 0 < l2.length) (hi : i < l0.length) (hroom : c0 < l0.length + l2.length) (hbig : (l0.length + l2.length) * 56 ≤ 140737488355328) :
    Calls Try.prog 44 #[.slice A0 l0.length c0, .int .i64 (i : Int), .slice A2 l2.length c2] w fun e w' => ∃ v1, e = .returned v1 ∧ Kd.R k39 39 w' base (fun _ => True) v1 (l0.take i ++ (l2 ++ l0.drop i)) ∧ Below base w w' ∧ w.grownBy w' (Value.slice A0 l0.length c0).ownBlock := by
  obtain ⟨-, inner, hown, hreps⟩ := hv
  obtain ⟨hok2, ys, hown2, hreps2⟩ := hL
  have hbb := own_base hown
  obtain ⟨hl1, hown⟩ := hown
  obtain ⟨hly, hown2⟩ := hown2
  rcases hown with ⟨h0, _⟩ | ⟨g, cap, cur, hv, hb, hh, hnc, hcm, hcs, htake⟩
  · simp only [Value.slice.injEq] at h0; omega
  rcases hown2 with ⟨h0, _⟩ | ⟨g2, cap2, cur2, hv2, hb2, hh2, hnc2, hcm2, hcs2, htake2⟩
  · simp only [Value.slice.injEq] at h0; omega
  simp only [Value.slice.injEq] at hv hv2
  obtain ⟨rfl, -, rfl⟩ := hv
  obtain ⟨rfl, -, rfl⟩ := hv2
  have hne : g2 ≠ g := fun e => hap g2 (hok2 g2 (by simp [Value.ownBlock])) (by rw [e]; rfl)
  have hk6 : k39.sz = 6 := rfl
  rw [hk6] at hl1 hcs htake hly hcs2 htake2
  obtain ⟨n, hn⟩ : ∃ n, l0.length = n := ⟨_, rfl⟩
  obtain ⟨m, hm⟩ : ∃ m, l2.length = m := ⟨_, rfl⟩
  rw [hn] at hi hroom hnc htake hl1 hbig ⊢
  rw [hm] at hl2 hroom hnc2 htake2 hly hbig ⊢
  have hc63 : c0 ≤ 9223372036854775807 := by have := hcm; unfold maxLen at this; omega
  obtain ⟨i0, hi0, hi1⟩ := Option.map_eq_some_iff.1 info39
  simp only [Prod.mk.injEq] at hi1
  have hsz : (Try.prog.info? 39).map (·.size) = some 6 := by rw [hi0]; first | (simp [hi1.2.1]; done) | (simp [hi1.2.1]; rfl)
  have hzz : ∀ w, (Go.sizeOf 39).run Try.prog w = .ok 6 w := fun w => by first | (simp [sizeOf, typeInfo, hi0, hi1.2.1]; done) | (simp [sizeOf, typeInfo, hi0, hi1.2.1]; rfl)
  have hsl : ∀ (G k l c : Nat), k ≤ l → k < c → ∀ W : World, (Instr.slice 34 (.slice (some ⟨G, 0, none⟩) l c) (some (.int .i64 (k : Int))) none none).run Try.prog W = .ok (.slice (some ⟨G, k * 6, none⟩) (l - k) (c - k)) W := fun G k l c h1 h2 W => by
    have := cut_from (P := Try.prog) 34 39 .i64 Try.underlying34 hi0 6 hi1.2.1 (some ⟨G, 0, none⟩) l c (k : Int) (by omega) (by omega) W
    rw [Int.toNat_natCast, if_neg (by omega)] at this
    simp only [Option.map_some] at this
    rw [this, show Addr.add ⟨G, 0, none⟩ (k * 6) = ⟨G, k * 6, none⟩ by simp [Addr.add]; (try omega)]
  obtain ⟨G, hG⟩ : ∃ G, grownCap w (n + m) c0 39 = G := ⟨_, rfl⟩
  have hGn : n + m ≤ G := by rw [← hG]; exact grownCap_ge w _ _ _
  have hGm : G ≤ maxLen := by rw [← hG]; exact grownCap_le_maxLen w (n + m) c0 39 (by unfold maxLen; omega)
  obtain ⟨N, hN0⟩ : ∃ N, w.heap.size = N := ⟨_, rfl⟩
  have s1 := hsl g i n c0 (by omega) (by omega)
  have s2 := hsl N i (n + m) G (by omega) (by omega)
  have s3 := hsl N (i + m) (n + m) G (by omega) (by omega)
  rw [show ((i + m : Nat) : Int) = (i : Int) + (m : Int) by omega] at s3
  have hg0 : ∀ k, w.cell? ⟨g, k, none⟩ = cur[k]? := fun k => cell_of_row w g k cur 39 (0, 0) hh
  have hi1' : inner.length = n * 6 := hl1
  have hcell : ∀ k v, inner[k]? = some v → w.cell? ⟨g, k, none⟩ = some v := fun k v hk => by
    rw [hg0, ← hk, ← htake, List.getElem?_take]
    have : k < n * 6 := by rw [← hi1']; exact (List.getElem?_eq_some_iff.1 hk).1
    rw [if_pos this, Array.getElem?_toList]
  have hcell2 : ∀ W' : World, W'.heap[g2]? = some (.cells cur2 39 (0, 0)) → ∀ j v, ys[j]? = some v → W'.cell? (Addr.add ⟨g2, 0, none⟩ j) = some v := fun W' hW k v hk => by
    rw [show Addr.add ⟨g2, 0, none⟩ k = ⟨g2, k, none⟩ by simp [Addr.add]; (try omega)]
    rw [cell_of_row W' g2 k cur2 39 (0, 0) hW, ← hk, ← htake2, List.getElem?_take]
    have : k < m * 6 := by rw [← hly]; exact (List.getElem?_eq_some_iff.1 hk).1
    rw [if_pos this, Array.getElem?_toList]
  have hold : (Builtin.firstCells i0.size i (.slice (some ⟨g, 0, none⟩) i c0)).run Try.prog w.drew = .ok (inner.take (i * 6)).toArray w.drew := by
    rw [hi1.2.1]
    exact run_firstCells_some w.drew 6 i ⟨g, 0, none⟩ i c0 (inner.take (i * 6)) (by rw [List.length_take, hi1']; exact Nat.min_eq_left (Nat.mul_le_mul_right _ (by omega))) (fun j v hj => by
      rw [show Addr.add ⟨g, 0, none⟩ j = ⟨g, j, none⟩ by simp [Addr.add]; (try omega)]
      rw [List.getElem?_take] at hj
      split at hj
      · exact hcell j v hj
      · cases hj)
  obtain ⟨ROW, hROW⟩ : ∃ ROW : Array Value, (inner.take (i * 6)).toArray ++ Builtin.zeroCells ((.agg #[(.int .i64 0), (.int .i64 0), (.bool false), (.int .i64 0), (.int .i64 0), (.string ⟨#[]⟩)]) : Value).cells (n + m - i) ++ Builtin.zeroCells ((.agg #[(.int .i64 0), (.int .i64 0), (.bool false), (.int .i64 0), (.int .i64 0), (.string ⟨#[]⟩)]) : Value).cells (G - (n + m)) = ROW := ⟨_, rfl⟩
  obtain ⟨W0, hW0⟩ : ∃ W0, w.drew.alloc (.cells ROW 39) = W0 := ⟨_, rfl⟩
  have hrz : ∀ ty, (Builtin.append_ #[34, 3] ty #[.slice (some ⟨g, 0, none⟩) i c0, .int .i64 ((n : Int) + (m : Int) - (i : Int))]).run Try.prog w = .ok (.slice (some ⟨N, 0, none⟩) (n + m) G) W0 := fun ty => by
    have h := Lib.run_append_grow_zeros w 34 3 ty 39 i0 _ .i64 .i64 Try.underlying34 Try.underlying3 hi0 hi1.1 (some ⟨g, 0, none⟩) i c0 (inner.take (i * 6)) hold (n + m - i) (by omega) (by rw [hi1.2.1]; decide) (by omega) (by omega) (by rw [hi1.2.2]; omega) (by rw [hi1.2.2, show i + (n + m - i) = n + m by omega]; exact growslice_fits hroom hbig)
    rw [show i + (n + m - i) = n + m by omega, hG, hN0, hROW, hW0] at h
    rw [show (n : Int) + (m : Int) - (i : Int) = ((n + m - i : Nat) : Int) by omega]
    exact h
  have hlt : (inner.take (i * 6)).length = i * 6 := by rw [List.length_take, hi1']; exact Nat.min_eq_left (Nat.mul_le_mul_right _ (by omega))
  have hRs : ROW.size = G * 6 := by
    rw [← hROW]
    simp only [Array.size_append, List.size_toArray, hlt, Builtin.zeroCells, Value.cells]
    simp
    first | omega | (simp only [One1]; omega)
  have hRt : ROW.toList.take (i * 6) = inner.take (i * 6) := by
    rw [← hROW, Array.toList_append, Array.toList_append, List.append_assoc]
    exact List.take_left' hlt
  have P0 : Aside0 (W0.heap[N]? = some (.cells ROW 39 (0, 0))) := ⟨by rw [← hW0, ← hN0]; exact blk_new w.drew _⟩
  have G0 : Aside0 (w.grownBy W0 none) := ⟨by rw [← hW0]; exact grownBy_trans' (⟨rfl, rfl, rfl, Nat.le_refl _, fun _ _ _ => rfl⟩ : w.grownBy w.drew none) (World.grownBy_alloc w.drew _ _)⟩
  clear hold hROW hW0 hG
  have e1 := reps_one hreps
  have e2 := reps_one hreps2
  have hin : inner.drop (i * 6) = inner.drop (i * 6) := rfl
  obtain ⟨tl, htl⟩ : ∃ tl, inner.drop (i * 6) = tl := ⟨_, rfl⟩
  have htll : tl.length = (n - i) * 6 := by rw [← htl, List.length_drop, hi1', Nat.sub_mul]
  have hsrc1 : ∀ j v, tl[j]? = some v → w.cell? (Addr.add ⟨g, i * 6, none⟩ j) = some v := fun j v hj => by
    rw [← htl, List.getElem?_drop] at hj
    rw [show Addr.add ⟨g, i * 6, none⟩ j = ⟨g, i * 6 + j, none⟩ by simp [Addr.add]; (try omega)]
    exact hcell _ v hj
  have HH := Aside0.mk hh
  have HH2 := Aside0.mk hh2
  have HSZ := Aside0.mk hsz
  have HRS := Aside0.mk hRs
  have HRT := Aside0.mk hRt
  have HLT := Aside0.mk hlt
  have HN0 := Aside0.mk hN0
  have HCL := Aside0.mk (fun (W : World) (hW : w.grownBy W none) j v (hj : tl[j]? = some v) => (show W.cell? (Addr.add ⟨g, i * 6, none⟩ j) = some v from (by rw [show Addr.add ⟨g, i * 6, none⟩ j = ⟨g, i * 6 + j, none⟩ by simp [Addr.add]; (try omega)]; rw [World.cell?_of_block (a := ⟨g, i * 6 + j, none⟩) (hW.block g (blk_lt hh) (by simp))]; rw [← htl, List.getElem?_drop] at hj; exact hcell _ v hj)))
  have HR := Aside0.mk hreps
  have HR2 := Aside0.mk hreps2
  have HSR := Aside0.mk hsrc1
  have HC2 := Aside0.mk hcell2
  have HT := Aside0.mk htake
  have HL1 := Aside0.mk hi1'
  have HLY := Aside0.mk hly
  have HTL := Aside0.mk htl
  have HLL := Aside0.mk htll
  have HE1 := Aside0.mk (fun u (hu : u ∈ tl) => e1 u (List.mem_of_mem_drop (by rw [htl]; exact hu)))
  have HE2 := Aside0.mk e2
  have HN := Aside0.mk hn
  have HM := Aside0.mk hm
  have HX := Aside0.mk hcs
  have HAP := Aside0.mk hap
  have HE := Aside0.mk hbase
  clear hsz hRs hRt hlt hN0 hh hh2 hreps hreps2 hsrc1 hcell hcell2 htake htake2 hi1' hly htl htll e1 e2 hn hm hcs hcs2 hg0 hl1 hok2 hap hbb hi0 hi1 hin hsl hzz
  have q1 : ((m : Int) = 0) = False := eq_false (by omega)
  have q1b : ((m : Int) == 0) = false := beq_eq_false_iff_ne.2 (by omega)
  have q2 : ((i : Int) = (n : Int)) = False := eq_false (by omega)
  have q2b : ((i : Int) == (n : Int)) = false := beq_eq_false_iff_ne.2 (by omega)
  have q3 : decide ((c0 : Int) < (n : Int) + (m : Int)) = true := decide_eq_true (by omega)
  have q4 : (i : Int) ≤ (c0 : Int) := by omega
  go_enter Try.func44, Try.ntmps44
  go_wp2_with (first
    | ((with_reducible refine gate_builtin (b := .append) rfl ?_); refine Lib.wpList_append_run _ rfl _ _ _ _ rfl _ _ rfl rfl _ _ (hrz _) ?_)
    | ((with_reducible refine gate_builtin (b := .copy) rfl ?_); refine copy_raw rfl (.tmp 43) (.tmp 44) 34 34 39 rfl Try.underlying34 6 HSZ.out N (i * 6) (n + m - i) (G - i) ⟨g2, 0, none⟩ m c2 ys ?n2 rfl rfl ROW 39 P0.out (HC2.out W0 ((G0.out.block g2 (blk_lt HH2.out) (by simp)).trans HH2.out)) ?f2 HE2.out ?_; (case n2 => rw [HLY.out]; congr 1; simp only [Nat.min_def]; split <;> omega); (case f2 => rw [HLY.out, HRS.out, ← Nat.add_mul]; exact Nat.mul_le_mul_right _ (by omega)); intro W1 cur1 K1 K2 K3 K4; have G1 := Aside0.mk (grown_new G0.out K4.out (Nat.le_of_eq HN0.out)); clear K4))
  have hwi : IntKind.i64.wrap ((i : Int) + (m : Int)) = (i : Int) + (m : Int) := IntWalk.i64_in _ (by omega)
  refine wp_region_still_tail 8 (by kernel_rfl) (by kernel_rfl) ?_
  simp only [List.take_succ_cons, List.take_zero, List.drop_succ_cons, List.drop_zero]
  change wpStill _ _ (World.drew _) _ _ _
  repeat still_step
  clear hwi
  refine wpStill_nil ?_
  change wpList _ _ _ _ _ (World.drew _)
  refine copy_raw rfl (.tmp 50) (.tmp 53) 34 34 39 rfl Try.underlying34 6 HSZ.out N ((i + m) * 6) (n + m - (i + m)) (G - (i + m)) ⟨g, i * 6, none⟩ (n - i) (c0 - i) tl ?n1 ?x1 ?x2 cur1 39 K1.out (HCL.out W1 G1.out) ?f1 HE1.out ?_
  case n1 => rw [HLL.out]; congr 1; simp only [Nat.min_def]; split <;> omega
  case x1 => first | rfl | (simp; done) | (go_simp; done)
  case x2 => first | rfl | (simp; done) | (go_simp; done)
  case f1 => rw [HLL.out, K3.out, HRS.out, ← Nat.add_mul]; exact Nat.mul_le_mul_right _ (by omega)
  intro W2 cur3 P1 P2 P3 P4
  have G2 : Aside0 (w.grownBy W2 none) := ⟨grown_new (grown_new G1.out (⟨rfl, rfl, rfl, Nat.le_refl _, fun _ _ _ => rfl⟩ : W1.grownBy W1.drew (some N)) (Nat.le_of_eq HN0.out)) P4.out (Nat.le_of_eq HN0.out)⟩
  clear P4
  go_wp2
  go_ret
  refine ⟨_, rfl, ⟨fun _ _ => trivial, inner.take (i * 6) ++ (ys ++ tl), ?_, ?_⟩, ?_, ?_⟩
  · have hlen : (l0.take i ++ (l2 ++ l0.drop i)).length = n + m := by rw [List.length_append, List.length_append, List.length_take, List.length_drop, HN.out, HM.out]; omega
    have hll : i * 6 + ys.length + tl.length = (n + m) * 6 := by
      rw [HLY.out, HLL.out, ← Nat.add_mul, ← Nat.add_mul]
      congr 1
      omega
    rw [hlen]
    refine ⟨?_, .inr ⟨N, G, cur3, rfl, by rw [← HN0.out]; exact HE.out, P1.out, hGn, hGm, by rw [P3.out, K3.out, HRS.out]; rfl, ?_⟩⟩
    · rw [List.length_append, List.length_append, HLT.out, ← Nat.add_assoc]
      exact hll
    · have := cells_grow ROW.toList cur1.toList cur3.toList (inner.take (i * 6)) ys tl (i * 6) HRT.out HLT.out (by rw [hll, Array.length_toList, HRS.out]; exact Nat.mul_le_mul_right _ hGn) K2.out (by have := P2.out; rw [Nat.add_mul, ← HLY.out] at this; exact this)
      rw [hll] at this
      exact this
  · have r1 : Reps (k39.M W2 base (fun k => True ∧ some k ≠ (Value.slice (some ⟨N, 0, none⟩) (n + m) G).ownBlock)) 6 l0 inner := HR.out.imp_ (fun x c h => Kd.M_mono _ (fun k hk => ⟨trivial, fun e => by simp [Value.ownBlock] at e; have := hk.2.2.1; have := HN0.out; omega⟩) (Kd.M_grown (Kd.M_bound _ h) G2.out (fun k hk => by simp)))
    have r2 : Reps (k39.M W2 base (fun k => True ∧ some k ≠ (Value.slice (some ⟨N, 0, none⟩) (n + m) G).ownBlock)) 6 l2 ys := HR2.out.imp_ (fun x c h => Kd.M_mono _ (fun k hk => ⟨trivial, fun e => by simp [Value.ownBlock] at e; have := hk.2.2.1; have := HN0.out; omega⟩) (Kd.M_grown (Kd.M_bound _ h) G2.out (fun k hk => by simp)))
    have r3 := Kd.reps_drop (m := i) r1
    have e3 : inner.drop (i * 6) = tl := HTL.out
    exact Kd.reps_append (Kd.reps_take r1 (by rw [HN.out]; omega)) (Kd.reps_append r2 (by rw [← e3]; exact r3))
  · exact (Below.refl _ _).grown G2.out HE.out (fun k e => by cases e)
  · exact grown_any G2.out _
theorem api_Promise_44.own (A0 : Option Addr) (c0 : Nat) (l0 : List S39) (a1 : Int) (A2 : Option Addr) (c2 : Nat) (l2 : List S39) (r : List S39) (w : World) {base : Nat} (hv : Kd.R k39 39 w base (fun _ => True) (.slice A0 l0.length c0) l0) (hbase : base ≤ w.heap.size) {ok2 : Nat → Prop} (hL : Kd.R k39 39 w base ok2 (.slice A2 l2.length c2) l2) (hap : ∀ k, ok2 k → some k ≠ (Value.slice A0 l0.length c0).ownBlock) (h : api_Promise_44.f l0 a1 l2 = some r) :
    Calls Try.prog 44 #[.slice A0 l0.length c0, .int .i64 a1, .slice A2 l2.length c2] w fun e w' => ∃ v1, e = .returned v1 ∧ Kd.R k39 39 w' base (fun _ => True) v1 r ∧ Below base w w' ∧ w.grownBy w' (Value.slice A0 l0.length c0).ownBlock := by
  unfold api_Promise_44.f at h
  split at h
  case isFalse => cases h
  rename_i hh
  obtain ⟨hl2, h0, h1, hl⟩ := hh
  obtain ⟨i, rfl⟩ := Int.eq_ofNat_of_zero_le h0
  cases h
  rw [Int.toNat_natCast]
  rcases Nat.lt_or_ge i l0.length with hi | hi
  · rcases Nat.lt_or_ge c0 (l0.length + l2.length) with hr | hr
    · exact api_Promise_44.grow A0 c0 l0 i A2 c2 l2 w hv hbase hL hap hl2 hi hr hl
    · exact api_Promise_44.shift A0 c0 l0 i A2 c2 l2 w hv hbase hL hap hl2 hi hr
  · obtain rfl : i = l0.length := by omega
    rw [List.take_length, List.drop_length, List.append_nil]
    exact api_Promise_44.at_end A0 c0 l0 A2 c2 l2 w hv hbase hL hap hl2 hl
def slices_Insert_int_int.f (l0 : List Int) (a1 : Int) (l2 : List Int) : Option (List Int) := if 0 < l2.length ∧ 0 ≤ a1 ∧ a1 ≤ (l0.length : Int) ∧ (l0.length + l2.length) * 8 ≤ 140737488355328 then some (l0.take a1.toNat ++ (l2 ++ l0.drop a1.toNat)) else none
set_option maxHeartbeats 8000000 in
set_option maxRecDepth 100000 in
theorem slices_Insert_int_int.at_end (A0 : Option Addr) (c0 : Nat) (l0 : List Int) (A2 : Option Addr) (c2 : Nat) (l2 : List Int) (w : World) {base : Nat} (hv : Kd.R (Kd.int .i64) 3 w base (fun _ => True) (.slice A0 l0.length c0) l0) (hbase : base ≤ w.heap.size) {ok2 : Nat → Prop} (hL : Kd.R (Kd.int .i64) 3 w base ok2 (.slice A2 l2.length c2) l2) (hap : ∀ k, ok2 k → some k ≠ (Value.slice A0 l0.length c0).ownBlock) (hl2 : 0 < l2.length) (hl : (l0.length + l2.length) * 8 ≤ 140737488355328) :
    Calls Try.prog 49 #[.slice A0 l0.length c0, .int .i64 (l0.length : Int), .slice A2 l2.length c2] w fun e w' => ∃ v1, e = .returned v1 ∧ Kd.R (Kd.int .i64) 3 w' base (fun _ => True) v1 (l0 ++ l2) ∧ Below base w w' ∧ w.grownBy w' (Value.slice A0 l0.length c0).ownBlock := by
  obtain ⟨_, hc, hC⟩ := Kd.R_reads' hv
  have hB := (Kd.R_reads' hL).2.2
  obtain ⟨i0, hi0, hi1⟩ := Option.map_eq_some_iff.1 info3
  simp only [Prod.mk.injEq] at hi1
  have hsl0 := cut_from (P := Try.prog) 35 3 .i64 Try.underlying35 hi0 One1 hi1.2.1 A0 l0.length c0 (l0.length : Int) (by omega) (by omega)
  obtain ⟨sv, hsl⟩ : ∃ sv, ∀ W : World, (Instr.slice 35 (.slice A0 l0.length c0) (some (.int .i64 (l0.length : Int))) none none).run Try.prog W = .ok sv W := ⟨_, hsl0⟩
  clear hsl0 hi1 hi0
  have hm0 : ((l2.length : Int) == 0) = false := by simp; intro h0; rw [h0] at hl2; simp at hl2
  have hm1 : l2 ≠ [] := by intro h0; rw [h0] at hl2; simp at hl2
  have hm2 : (l2 = []) = False := by simp [hm1]
  have HV := Aside0.mk hv
  have HBB := Aside0.mk hB
  have HL := Aside0.mk hl
  have HC := Aside0.mk hC
  have HE := Aside0.mk hbase
  clear hv hB hl hC hbase hl2 hm1 hL hap
  go_enter Try.func49, Try.ntmps49
  go_wp2_with ((with_reducible refine gate_builtin (b := .append) rfl ?_); refine Kd.R_append_rows (Kd.int .i64) (w0 := w) base rfl (.tmp 23) (.tmp 24) 35 3 (.int .i64 0) 8 rfl Try.underlying35 info3 rfl (by decide) (by omega) (.slice A0 l0.length c0) l0 l2 _ _ _ (fun _ => True) (fun _ => False) rfl rfl ?aO ?aR (fun _ _ h => h) (fun _ h => h.elim) (fun _ _ => trivial) ?aB ?aS ?aL ?_; (case aO => exact HV.out); (case aR => exact HBB.out); (case aB => exact Below.refl _ _); (case aS => exact HE.out); (case aL => exact HL.out); intro v1 w1 ho hb hg hat)
  go_ret
  exact ⟨v1, rfl, ho, hb, hg⟩
set_option maxHeartbeats 8000000 in
set_option maxRecDepth 100000 in
theorem slices_Insert_int_int.shift (A0 : Option Addr) (c0 : Nat) (l0 : List Int) (i : Nat) (A2 : Option Addr) (c2 : Nat) (l2 : List Int) (w : World) {base : Nat} (hv : Kd.R (Kd.int .i64) 3 w base (fun _ => True) (.slice A0 l0.length c0) l0) (hbase : base ≤ w.heap.size) {ok2 : Nat → Prop} (hL : Kd.R (Kd.int .i64) 3 w base ok2 (.slice A2 l2.length c2) l2) (hap : ∀ k, ok2 k → some k ≠ (Value.slice A0 l0.length c0).ownBlock) (hl2 : 0 < l2.length) (hi : i < l0.length) (hroom : l0.length + l2.length ≤ c0) :
    Calls Try.prog 49 #[.slice A0 l0.length c0, .int .i64 (i : Int), .slice A2 l2.length c2] w fun e w' => ∃ v1, e = .returned v1 ∧ Kd.R (Kd.int .i64) 3 w' base (fun _ => True) v1 (l0.take i ++ (l2 ++ l0.drop i)) ∧ Below base w w' ∧ w.grownBy w' (Value.slice A0 l0.length c0).ownBlock := by
  obtain ⟨-, inner, hown, hreps⟩ := hv
  obtain ⟨hok2, ys, hown2, hreps2⟩ := hL
  have hbb := own_base hown
  obtain ⟨hl1, hown⟩ := hown
  obtain ⟨hly, hown2⟩ := hown2
  rcases hown with ⟨h0, _⟩ | ⟨g, cap, cur, hv, hb, hh, hnc, hcm, hcs, htake⟩
  · simp only [Value.slice.injEq] at h0; omega
  rcases hown2 with ⟨h0, _⟩ | ⟨g2, cap2, cur2, hv2, hb2, hh2, hnc2, hcm2, hcs2, htake2⟩
  · simp only [Value.slice.injEq] at h0; omega
  simp only [Value.slice.injEq] at hv hv2
  obtain ⟨rfl, -, rfl⟩ := hv
  obtain ⟨rfl, -, rfl⟩ := hv2
  have hne : g2 ≠ g := fun e => hap g2 (hok2 g2 (by simp [Value.ownBlock])) (by rw [e]; rfl)
  have hk6 : (Kd.int .i64).sz = One1 := rfl
  rw [hk6] at hl1 hcs htake hly hcs2 htake2
  obtain ⟨n, hn⟩ : ∃ n, l0.length = n := ⟨_, rfl⟩
  obtain ⟨m, hm⟩ : ∃ m, l2.length = m := ⟨_, rfl⟩
  rw [hn] at hi hroom hnc htake hl1 ⊢
  rw [hm] at hl2 hroom hnc2 htake2 hly ⊢
  have hc63 : c0 ≤ 9223372036854775807 := by have := hcm; unfold maxLen at this; omega
  obtain ⟨i0, hi0, hi1⟩ := Option.map_eq_some_iff.1 info3
  simp only [Prod.mk.injEq] at hi1
  have hsz : (Try.prog.info? 3).map (·.size) = some One1 := by rw [hi0]; first | (simp [hi1.2.1]; done) | (simp [hi1.2.1]; rfl)
  have hzz : ∀ w, (Go.sizeOf 3).run Try.prog w = .ok One1 w := fun w => by first | (simp [sizeOf, typeInfo, hi0, hi1.2.1]; done) | (simp [sizeOf, typeInfo, hi0, hi1.2.1]; rfl)
  have hsl : ∀ (k l c : Nat), k ≤ l → k < c → ∀ W : World, (Instr.slice 35 (.slice (some ⟨g, 0, none⟩) l c) (some (.int .i64 (k : Int))) none none).run Try.prog W = .ok (.slice (some ⟨g, k * One1, none⟩) (l - k) (c - k)) W := fun k l c h1 h2 W => by
    have := cut_from (P := Try.prog) 35 3 .i64 Try.underlying35 hi0 One1 hi1.2.1 (some ⟨g, 0, none⟩) l c (k : Int) (by omega) (by omega) W
    rw [Int.toNat_natCast, if_neg (by omega)] at this
    simp only [Option.map_some] at this
    rw [this, show Addr.add ⟨g, 0, none⟩ (k * One1) = ⟨g, k * One1, none⟩ by simp [Addr.add]; (try omega)]
  have s1 := hsl i n c0 (by omega) (by omega)
  have s2 := hsl i (n + m) c0 (by omega) (by omega)
  have s3 := hsl (i + m) (n + m) c0 (by omega) (by omega)
  rw [show ((i + m : Nat) : Int) = (i : Int) + (m : Int) by omega] at s3
  have hg0 : ∀ k, w.cell? ⟨g, k, none⟩ = cur[k]? := fun k => cell_of_row w g k cur 3 (0, 0) hh
  have hi1' : inner.length = n * One1 := hl1
  have hcell : ∀ k v, inner[k]? = some v → w.cell? ⟨g, k, none⟩ = some v := fun k v hk => by
    rw [hg0, ← hk, ← htake, List.getElem?_take]
    have : k < n * One1 := by rw [← hi1']; exact (List.getElem?_eq_some_iff.1 hk).1
    rw [if_pos this, Array.getElem?_toList]
  have hcell2 : ∀ W' : World, W'.heap[g2]? = some (.cells cur2 3 (0, 0)) → ∀ j v, ys[j]? = some v → W'.cell? (Addr.add ⟨g2, 0, none⟩ j) = some v := fun W' hW k v hk => by
    rw [show Addr.add ⟨g2, 0, none⟩ k = ⟨g2, k, none⟩ by simp [Addr.add]; (try omega)]
    rw [cell_of_row W' g2 k cur2 3 (0, 0) hW, ← hk, ← htake2, List.getElem?_take]
    have : k < m * One1 := by rw [← hly]; exact (List.getElem?_eq_some_iff.1 hk).1
    rw [if_pos this, Array.getElem?_toList]
  have hov : ∀ lb cb, (callFunc 64 #[.slice (some ⟨g2, 0, none⟩) m c2, .slice (some ⟨g, (i + m) * One1, none⟩) lb cb]).run Try.prog w = .ok (.value (.bool false)) w := fun lb cb => by
    rw [run_callFunc_extern Try.func64 (by kernel_rfl) (by kernel_rfl) (by kernel_rfl) (e := Extern.SlicesOverlaps.overlaps #[35, 35] #[4]) (by kernel_rfl),
      Lib.run_overlaps_apart w 35 4 3 Try.underlying35 One1 hzz ⟨g2, 0, none⟩ ⟨g, (i + m) * One1, none⟩ m c2 lb cb hne 3 3 cur2.size cur.size (by simp [World.shape?, hh2]) (by simp [World.shape?, hh]) (by first | omega | (clear hsl; simp only [One1] at *; omega)) (blk_frozen hh2 _) (blk_frozen hh2 _)]
    rfl
  have e1 := reps_one hreps
  have e2 := reps_one hreps2
  have hin : inner.drop (i * One1) = inner.drop (i * One1) := rfl
  obtain ⟨tl, htl⟩ : ∃ tl, inner.drop (i * One1) = tl := ⟨_, rfl⟩
  have htll : tl.length = (n - i) * One1 := by rw [← htl, List.length_drop, hi1', Nat.sub_mul]
  have hsrc1 : ∀ j v, tl[j]? = some v → w.cell? (Addr.add ⟨g, i * One1, none⟩ j) = some v := fun j v hj => by
    rw [← htl, List.getElem?_drop] at hj
    rw [show Addr.add ⟨g, i * One1, none⟩ j = ⟨g, i * One1 + j, none⟩ by simp [Addr.add]; (try omega)]
    exact hcell _ v hj
  have HH := Aside0.mk hh
  have HH2 := Aside0.mk hh2
  have HSZ := Aside0.mk hsz
  have HR := Aside0.mk hreps
  have HR2 := Aside0.mk hreps2
  have HSR := Aside0.mk hsrc1
  have HC2 := Aside0.mk hcell2
  have HT := Aside0.mk htake
  have HL1 := Aside0.mk hi1'
  have HLY := Aside0.mk hly
  have HTL := Aside0.mk htl
  have HLL := Aside0.mk htll
  have HE1 := Aside0.mk (fun u (hu : u ∈ tl) => e1 u (List.mem_of_mem_drop (by rw [htl]; exact hu)))
  have HE2 := Aside0.mk e2
  have HN := Aside0.mk hn
  have HM := Aside0.mk hm
  have HX := Aside0.mk hcs
  have HAP := Aside0.mk hap
  have HE := Aside0.mk hbase
  clear hsz hh hh2 hreps hreps2 hsrc1 hcell hcell2 htake htake2 hi1' hly htl htll e1 e2 hn hm hcs hcs2 hg0 hl1 hok2 hap hbb hi0 hi1 hin hsl hzz
  have q1 : ((m : Int) = 0) = False := eq_false (by omega)
  have q1b : ((m : Int) == 0) = false := beq_eq_false_iff_ne.2 (by omega)
  have q2 : ((i : Int) = (n : Int)) = False := eq_false (by omega)
  have q2b : ((i : Int) == (n : Int)) = false := beq_eq_false_iff_ne.2 (by omega)
  have q3 : decide ((c0 : Int) < (n : Int) + (m : Int)) = false := decide_eq_false (by omega)
  go_enter Try.func49, Try.ntmps49
  go_wp2_with (simp only [hov])
  have hwi : IntKind.i64.wrap ((i : Int) + (m : Int)) = (i : Int) + (m : Int) := IntWalk.i64_in _ (by omega)
  refine wp_region_still_tail 8 (by kernel_rfl) (by kernel_rfl) ?_
  simp only [List.take_succ_cons, List.take_zero, List.drop_succ_cons, List.drop_zero]
  change wpStill _ _ (World.drew _) _ _ _
  repeat still_step
  clear hwi
  refine wpStill_nil ?_
  change wpList _ _ _ _ _ (World.drew _)
  refine copy_raw rfl (.tmp 73) (.tmp 76) 35 35 3 rfl Try.underlying35 One1 HSZ.out g ((i + m) * One1) (n + m - (i + m)) (c0 - (i + m)) ⟨g, i * One1, none⟩ (n + m - i) (c0 - i) tl ?n1 ?x1 ?x2 cur 3 HH.out HSR.out ?f1 HE1.out ?_
  case n1 => rw [HLL.out]; congr 1; simp only [Nat.min_def]; split <;> omega
  case x1 => first | rfl | (simp; done) | (go_simp; done)
  case x2 => first | rfl | (simp; done) | (go_simp; done)
  case f1 => rw [HLL.out, HX.out, ← Nat.add_mul]; exact Nat.mul_le_mul_right _ (by omega)
  intro W1 cur1 P1 P2 P3 P4
  have G1 : Aside0 (w.grownBy W1 (some g)) := ⟨grownBy_trans' (⟨rfl, rfl, rfl, Nat.le_refl _, fun _ _ _ => rfl⟩ : w.grownBy w.drew (some g)) P4.out⟩
  have B1 : Aside0 (W1.heap[g2]? = some (.cells cur2 3 (0, 0))) := ⟨(G1.out.block g2 (blk_lt HH2.out) (fun e => hne (Option.some.inj e))).trans HH2.out⟩
  clear P4
  go_wp2_with ((with_reducible refine gate_builtin (b := .copy) rfl ?_); refine copy_raw rfl (.tmp 80) (.tmp 81) 35 35 3 rfl Try.underlying35 One1 HSZ.out g (i * One1) (n + m - i) (c0 - i) ⟨g2, 0, none⟩ m c2 ys ?n2 rfl rfl cur1 3 P1.out (HC2.out W1 B1.out) ?f2 HE2.out ?_; (case n2 => rw [HLY.out]; congr 1; simp only [Nat.min_def]; split <;> omega); (case f2 => rw [HLY.out, P3.out, HX.out, ← Nat.add_mul]; exact Nat.mul_le_mul_right _ (by omega)); intro W2 cur3 K1 K2 K3 K4; have G2 := Aside0.mk (grownBy_trans' G1.out K4.out); clear K4)
  go_ret
  refine ⟨_, rfl, ⟨fun _ _ => trivial, inner.take (i * One1) ++ (ys ++ inner.drop (i * One1)), ?_, ?_⟩, ?_, ?_⟩
  · have hlen : (l0.take i ++ (l2 ++ l0.drop i)).length = n + m := by rw [List.length_append, List.length_append, List.length_take, List.length_drop, HN.out, HM.out]; omega
    rw [hlen]
    refine ⟨?_, .inr ⟨g, c0, cur3, rfl, hb, K1.out, by omega, hcm, by rw [K3.out, P3.out, HX.out]; rfl, ?_⟩⟩
    · rw [List.length_append, List.length_append, List.length_take, HTL.out, HLL.out, HLY.out, HL1.out, Nat.min_eq_left (Nat.mul_le_mul_right _ (by omega)), ← Nat.add_mul, ← Nat.add_mul]
      congr 1
      omega
    · exact cells_shift cur.toList cur1.toList cur3.toList inner ys n m i c0 One1 (by omega) (by omega) (by rw [Array.length_toList]; exact HX.out) HT.out HLY.out (by rw [HTL.out]; exact P2.out) K2.out
  · have r1 := HR.out.imp_ (fun x c h => Kd.M_grown h G2.out (fun k hk => hk.2))
    have r2 : Reps ((Kd.int .i64).M W2 base (fun k => True ∧ some k ≠ (Value.slice (some ⟨g, 0, none⟩) (n + m) c0).ownBlock)) One1 l2 ys := HR2.out.imp_ (fun x c h => Kd.M_mono _ (fun k hk => ⟨trivial, HAP.out k hk.1⟩) (Kd.M_grown h G2.out (fun k hk => HAP.out k hk.1)))
    exact Kd.reps_append (Kd.reps_take r1 (by rw [HN.out]; omega)) (Kd.reps_append r2 (Kd.reps_drop r1))
  · exact (Below.refl _ _).grown G2.out HE.out (fun k e => by cases e; exact hb)
  · exact G2.out
set_option maxHeartbeats 8000000 in
set_option maxRecDepth 100000 in
theorem slices_Insert_int_int.grow (A0 : Option Addr) (c0 : Nat) (l0 : List Int) (i : Nat) (A2 : Option Addr) (c2 : Nat) (l2 : List Int) (w : World) {base : Nat} (hv : Kd.R (Kd.int .i64) 3 w base (fun _ => True) (.slice A0 l0.length c0) l0) (hbase : base ≤ w.heap.size) {ok2 : Nat → Prop} (hL : Kd.R (Kd.int .i64) 3 w base ok2 (.slice A2 l2.length c2) l2) (hap : ∀ k, ok2 k → some k ≠ (Value.slice A0 l0.length c0).ownBlock) (hl2 : 0 < l2.length) (hi : i < l0.length) (hroom : c0 < l0.length + l2.length) (hbig : (l0.length + l2.length) * 8 ≤ 140737488355328) :
    Calls Try.prog 49 #[.slice A0 l0.length c0, .int .i64 (i : Int), .slice A2 l2.length c2] w fun e w' => ∃ v1, e = .returned v1 ∧ Kd.R (Kd.int .i64) 3 w' base (fun _ => True) v1 (l0.take i ++ (l2 ++ l0.drop i)) ∧ Below base w w' ∧ w.grownBy w' (Value.slice A0 l0.length c0).ownBlock := by
  obtain ⟨-, inner, hown, hreps⟩ := hv
  obtain ⟨hok2, ys, hown2, hreps2⟩ := hL
  have hbb := own_base hown
  obtain ⟨hl1, hown⟩ := hown
  obtain ⟨hly, hown2⟩ := hown2
  rcases hown with ⟨h0, _⟩ | ⟨g, cap, cur, hv, hb, hh, hnc, hcm, hcs, htake⟩
  · simp only [Value.slice.injEq] at h0; omega
  rcases hown2 with ⟨h0, _⟩ | ⟨g2, cap2, cur2, hv2, hb2, hh2, hnc2, hcm2, hcs2, htake2⟩
  · simp only [Value.slice.injEq] at h0; omega
  simp only [Value.slice.injEq] at hv hv2
  obtain ⟨rfl, -, rfl⟩ := hv
  obtain ⟨rfl, -, rfl⟩ := hv2
  have hne : g2 ≠ g := fun e => hap g2 (hok2 g2 (by simp [Value.ownBlock])) (by rw [e]; rfl)
  have hk6 : (Kd.int .i64).sz = One1 := rfl
  rw [hk6] at hl1 hcs htake hly hcs2 htake2
  obtain ⟨n, hn⟩ : ∃ n, l0.length = n := ⟨_, rfl⟩
  obtain ⟨m, hm⟩ : ∃ m, l2.length = m := ⟨_, rfl⟩
  rw [hn] at hi hroom hnc htake hl1 hbig ⊢
  rw [hm] at hl2 hroom hnc2 htake2 hly hbig ⊢
  have hc63 : c0 ≤ 9223372036854775807 := by have := hcm; unfold maxLen at this; omega
  obtain ⟨i0, hi0, hi1⟩ := Option.map_eq_some_iff.1 info3
  simp only [Prod.mk.injEq] at hi1
  have hsz : (Try.prog.info? 3).map (·.size) = some One1 := by rw [hi0]; first | (simp [hi1.2.1]; done) | (simp [hi1.2.1]; rfl)
  have hzz : ∀ w, (Go.sizeOf 3).run Try.prog w = .ok One1 w := fun w => by first | (simp [sizeOf, typeInfo, hi0, hi1.2.1]; done) | (simp [sizeOf, typeInfo, hi0, hi1.2.1]; rfl)
  have hsl : ∀ (G k l c : Nat), k ≤ l → k < c → ∀ W : World, (Instr.slice 35 (.slice (some ⟨G, 0, none⟩) l c) (some (.int .i64 (k : Int))) none none).run Try.prog W = .ok (.slice (some ⟨G, k * One1, none⟩) (l - k) (c - k)) W := fun G k l c h1 h2 W => by
    have := cut_from (P := Try.prog) 35 3 .i64 Try.underlying35 hi0 One1 hi1.2.1 (some ⟨G, 0, none⟩) l c (k : Int) (by omega) (by omega) W
    rw [Int.toNat_natCast, if_neg (by omega)] at this
    simp only [Option.map_some] at this
    rw [this, show Addr.add ⟨G, 0, none⟩ (k * One1) = ⟨G, k * One1, none⟩ by simp [Addr.add]; (try omega)]
  obtain ⟨G, hG⟩ : ∃ G, grownCap w (n + m) c0 3 = G := ⟨_, rfl⟩
  have hGn : n + m ≤ G := by rw [← hG]; exact grownCap_ge w _ _ _
  have hGm : G ≤ maxLen := by rw [← hG]; exact grownCap_le_maxLen w (n + m) c0 3 (by unfold maxLen; omega)
  obtain ⟨N, hN0⟩ : ∃ N, w.heap.size = N := ⟨_, rfl⟩
  have s1 := hsl g i n c0 (by omega) (by omega)
  have s2 := hsl N i (n + m) G (by omega) (by omega)
  have s3 := hsl N (i + m) (n + m) G (by omega) (by omega)
  rw [show ((i + m : Nat) : Int) = (i : Int) + (m : Int) by omega] at s3
  have hg0 : ∀ k, w.cell? ⟨g, k, none⟩ = cur[k]? := fun k => cell_of_row w g k cur 3 (0, 0) hh
  have hi1' : inner.length = n * One1 := hl1
  have hcell : ∀ k v, inner[k]? = some v → w.cell? ⟨g, k, none⟩ = some v := fun k v hk => by
    rw [hg0, ← hk, ← htake, List.getElem?_take]
    have : k < n * One1 := by rw [← hi1']; exact (List.getElem?_eq_some_iff.1 hk).1
    rw [if_pos this, Array.getElem?_toList]
  have hcell2 : ∀ W' : World, W'.heap[g2]? = some (.cells cur2 3 (0, 0)) → ∀ j v, ys[j]? = some v → W'.cell? (Addr.add ⟨g2, 0, none⟩ j) = some v := fun W' hW k v hk => by
    rw [show Addr.add ⟨g2, 0, none⟩ k = ⟨g2, k, none⟩ by simp [Addr.add]; (try omega)]
    rw [cell_of_row W' g2 k cur2 3 (0, 0) hW, ← hk, ← htake2, List.getElem?_take]
    have : k < m * One1 := by rw [← hly]; exact (List.getElem?_eq_some_iff.1 hk).1
    rw [if_pos this, Array.getElem?_toList]
  have hold : (Builtin.firstCells i0.size i (.slice (some ⟨g, 0, none⟩) i c0)).run Try.prog w.drew = .ok (inner.take (i * One1)).toArray w.drew := by
    rw [hi1.2.1]
    exact run_firstCells_some w.drew One1 i ⟨g, 0, none⟩ i c0 (inner.take (i * One1)) (by rw [List.length_take, hi1']; exact Nat.min_eq_left (Nat.mul_le_mul_right _ (by omega))) (fun j v hj => by
      rw [show Addr.add ⟨g, 0, none⟩ j = ⟨g, j, none⟩ by simp [Addr.add]; (try omega)]
      rw [List.getElem?_take] at hj
      split at hj
      · exact hcell j v hj
      · cases hj)
  obtain ⟨ROW, hROW⟩ : ∃ ROW : Array Value, (inner.take (i * One1)).toArray ++ Builtin.zeroCells ((.int .i64 0) : Value).cells (n + m - i) ++ Builtin.zeroCells ((.int .i64 0) : Value).cells (G - (n + m)) = ROW := ⟨_, rfl⟩
  obtain ⟨W0, hW0⟩ : ∃ W0, w.drew.alloc (.cells ROW 3) = W0 := ⟨_, rfl⟩
  have hrz : ∀ ty, (Builtin.append_ #[35, 3] ty #[.slice (some ⟨g, 0, none⟩) i c0, .int .i64 ((n : Int) + (m : Int) - (i : Int))]).run Try.prog w = .ok (.slice (some ⟨N, 0, none⟩) (n + m) G) W0 := fun ty => by
    have h := Lib.run_append_grow_zeros w 35 3 ty 3 i0 _ .i64 .i64 Try.underlying35 Try.underlying3 hi0 hi1.1 (some ⟨g, 0, none⟩) i c0 (inner.take (i * One1)) hold (n + m - i) (by omega) (by rw [hi1.2.1]; decide) (by omega) (by omega) (by rw [hi1.2.2]; omega) (by rw [hi1.2.2, show i + (n + m - i) = n + m by omega]; exact growslice_fits hroom hbig)
    rw [show i + (n + m - i) = n + m by omega, hG, hN0, hROW, hW0] at h
    rw [show (n : Int) + (m : Int) - (i : Int) = ((n + m - i : Nat) : Int) by omega]
    exact h
  have hlt : (inner.take (i * One1)).length = i * One1 := by rw [List.length_take, hi1']; exact Nat.min_eq_left (Nat.mul_le_mul_right _ (by omega))
  have hRs : ROW.size = G * One1 := by
    rw [← hROW]
    simp only [Array.size_append, List.size_toArray, hlt, Builtin.zeroCells, Value.cells]
    simp
    first | omega | (simp only [One1]; omega)
  have hRt : ROW.toList.take (i * One1) = inner.take (i * One1) := by
    rw [← hROW, Array.toList_append, Array.toList_append, List.append_assoc]
    exact List.take_left' hlt
  have P0 : Aside0 (W0.heap[N]? = some (.cells ROW 3 (0, 0))) := ⟨by rw [← hW0, ← hN0]; exact blk_new w.drew _⟩
  have G0 : Aside0 (w.grownBy W0 none) := ⟨by rw [← hW0]; exact grownBy_trans' (⟨rfl, rfl, rfl, Nat.le_refl _, fun _ _ _ => rfl⟩ : w.grownBy w.drew none) (World.grownBy_alloc w.drew _ _)⟩
  clear hold hROW hW0 hG
  have e1 := reps_one hreps
  have e2 := reps_one hreps2
  have hin : inner.drop (i * One1) = inner.drop (i * One1) := rfl
  obtain ⟨tl, htl⟩ : ∃ tl, inner.drop (i * One1) = tl := ⟨_, rfl⟩
  have htll : tl.length = (n - i) * One1 := by rw [← htl, List.length_drop, hi1', Nat.sub_mul]
  have hsrc1 : ∀ j v, tl[j]? = some v → w.cell? (Addr.add ⟨g, i * One1, none⟩ j) = some v := fun j v hj => by
    rw [← htl, List.getElem?_drop] at hj
    rw [show Addr.add ⟨g, i * One1, none⟩ j = ⟨g, i * One1 + j, none⟩ by simp [Addr.add]; (try omega)]
    exact hcell _ v hj
  have HH := Aside0.mk hh
  have HH2 := Aside0.mk hh2
  have HSZ := Aside0.mk hsz
  have HRS := Aside0.mk hRs
  have HRT := Aside0.mk hRt
  have HLT := Aside0.mk hlt
  have HN0 := Aside0.mk hN0
  have HCL := Aside0.mk (fun (W : World) (hW : w.grownBy W none) j v (hj : tl[j]? = some v) => (show W.cell? (Addr.add ⟨g, i * One1, none⟩ j) = some v from (by rw [show Addr.add ⟨g, i * One1, none⟩ j = ⟨g, i * One1 + j, none⟩ by simp [Addr.add]; (try omega)]; rw [World.cell?_of_block (a := ⟨g, i * One1 + j, none⟩) (hW.block g (blk_lt hh) (by simp))]; rw [← htl, List.getElem?_drop] at hj; exact hcell _ v hj)))
  have HR := Aside0.mk hreps
  have HR2 := Aside0.mk hreps2
  have HSR := Aside0.mk hsrc1
  have HC2 := Aside0.mk hcell2
  have HT := Aside0.mk htake
  have HL1 := Aside0.mk hi1'
  have HLY := Aside0.mk hly
  have HTL := Aside0.mk htl
  have HLL := Aside0.mk htll
  have HE1 := Aside0.mk (fun u (hu : u ∈ tl) => e1 u (List.mem_of_mem_drop (by rw [htl]; exact hu)))
  have HE2 := Aside0.mk e2
  have HN := Aside0.mk hn
  have HM := Aside0.mk hm
  have HX := Aside0.mk hcs
  have HAP := Aside0.mk hap
  have HE := Aside0.mk hbase
  clear hsz hRs hRt hlt hN0 hh hh2 hreps hreps2 hsrc1 hcell hcell2 htake htake2 hi1' hly htl htll e1 e2 hn hm hcs hcs2 hg0 hl1 hok2 hap hbb hi0 hi1 hin hsl hzz
  have q1 : ((m : Int) = 0) = False := eq_false (by omega)
  have q1b : ((m : Int) == 0) = false := beq_eq_false_iff_ne.2 (by omega)
  have q2 : ((i : Int) = (n : Int)) = False := eq_false (by omega)
  have q2b : ((i : Int) == (n : Int)) = false := beq_eq_false_iff_ne.2 (by omega)
  have q3 : decide ((c0 : Int) < (n : Int) + (m : Int)) = true := decide_eq_true (by omega)
  have q4 : (i : Int) ≤ (c0 : Int) := by omega
  go_enter Try.func49, Try.ntmps49
  go_wp2_with (first
    | ((with_reducible refine gate_builtin (b := .append) rfl ?_); refine Lib.wpList_append_run _ rfl _ _ _ _ rfl _ _ rfl rfl _ _ (hrz _) ?_)
    | ((with_reducible refine gate_builtin (b := .copy) rfl ?_); refine copy_raw rfl (.tmp 43) (.tmp 44) 35 35 3 rfl Try.underlying35 One1 HSZ.out N (i * One1) (n + m - i) (G - i) ⟨g2, 0, none⟩ m c2 ys ?n2 rfl rfl ROW 3 P0.out (HC2.out W0 ((G0.out.block g2 (blk_lt HH2.out) (by simp)).trans HH2.out)) ?f2 HE2.out ?_; (case n2 => rw [HLY.out]; congr 1; simp only [Nat.min_def]; split <;> omega); (case f2 => rw [HLY.out, HRS.out, ← Nat.add_mul]; exact Nat.mul_le_mul_right _ (by omega)); intro W1 cur1 K1 K2 K3 K4; have G1 := Aside0.mk (grown_new G0.out K4.out (Nat.le_of_eq HN0.out)); clear K4))
  have hwi : IntKind.i64.wrap ((i : Int) + (m : Int)) = (i : Int) + (m : Int) := IntWalk.i64_in _ (by omega)
  refine wp_region_still_tail 8 (by kernel_rfl) (by kernel_rfl) ?_
  simp only [List.take_succ_cons, List.take_zero, List.drop_succ_cons, List.drop_zero]
  change wpStill _ _ (World.drew _) _ _ _
  repeat still_step
  clear hwi
  refine wpStill_nil ?_
  change wpList _ _ _ _ _ (World.drew _)
  refine copy_raw rfl (.tmp 50) (.tmp 53) 35 35 3 rfl Try.underlying35 One1 HSZ.out N ((i + m) * One1) (n + m - (i + m)) (G - (i + m)) ⟨g, i * One1, none⟩ (n - i) (c0 - i) tl ?n1 ?x1 ?x2 cur1 3 K1.out (HCL.out W1 G1.out) ?f1 HE1.out ?_
  case n1 => rw [HLL.out]; congr 1; simp only [Nat.min_def]; split <;> omega
  case x1 => first | rfl | (simp; done) | (go_simp; done)
  case x2 => first | rfl | (simp; done) | (go_simp; done)
  case f1 => rw [HLL.out, K3.out, HRS.out, ← Nat.add_mul]; exact Nat.mul_le_mul_right _ (by omega)
  intro W2 cur3 P1 P2 P3 P4
  have G2 : Aside0 (w.grownBy W2 none) := ⟨grown_new (grown_new G1.out (⟨rfl, rfl, rfl, Nat.le_refl _, fun _ _ _ => rfl⟩ : W1.grownBy W1.drew (some N)) (Nat.le_of_eq HN0.out)) P4.out (Nat.le_of_eq HN0.out)⟩
  clear P4
  go_wp2
  go_ret
  refine ⟨_, rfl, ⟨fun _ _ => trivial, inner.take (i * One1) ++ (ys ++ tl), ?_, ?_⟩, ?_, ?_⟩
  · have hlen : (l0.take i ++ (l2 ++ l0.drop i)).length = n + m := by rw [List.length_append, List.length_append, List.length_take, List.length_drop, HN.out, HM.out]; omega
    have hll : i * One1 + ys.length + tl.length = (n + m) * One1 := by
      rw [HLY.out, HLL.out, ← Nat.add_mul, ← Nat.add_mul]
      congr 1
      omega
    rw [hlen]
    refine ⟨?_, .inr ⟨N, G, cur3, rfl, by rw [← HN0.out]; exact HE.out, P1.out, hGn, hGm, by rw [P3.out, K3.out, HRS.out]; rfl, ?_⟩⟩
    · rw [List.length_append, List.length_append, HLT.out, ← Nat.add_assoc]
      exact hll
    · have := cells_grow ROW.toList cur1.toList cur3.toList (inner.take (i * One1)) ys tl (i * One1) HRT.out HLT.out (by rw [hll, Array.length_toList, HRS.out]; exact Nat.mul_le_mul_right _ hGn) K2.out (by have := P2.out; rw [Nat.add_mul, ← HLY.out] at this; exact this)
      rw [hll] at this
      exact this
  · have r1 : Reps ((Kd.int .i64).M W2 base (fun k => True ∧ some k ≠ (Value.slice (some ⟨N, 0, none⟩) (n + m) G).ownBlock)) One1 l0 inner := HR.out.imp_ (fun x c h => Kd.M_mono _ (fun k hk => ⟨trivial, fun e => by simp [Value.ownBlock] at e; have := hk.2.2.1; have := HN0.out; omega⟩) (Kd.M_grown (Kd.M_bound _ h) G2.out (fun k hk => by simp)))
    have r2 : Reps ((Kd.int .i64).M W2 base (fun k => True ∧ some k ≠ (Value.slice (some ⟨N, 0, none⟩) (n + m) G).ownBlock)) One1 l2 ys := HR2.out.imp_ (fun x c h => Kd.M_mono _ (fun k hk => ⟨trivial, fun e => by simp [Value.ownBlock] at e; have := hk.2.2.1; have := HN0.out; omega⟩) (Kd.M_grown (Kd.M_bound _ h) G2.out (fun k hk => by simp)))
    have r3 := Kd.reps_drop (m := i) r1
    have e3 : inner.drop (i * One1) = tl := HTL.out
    exact Kd.reps_append (Kd.reps_take r1 (by rw [HN.out]; omega)) (Kd.reps_append r2 (by rw [← e3]; exact r3))
  · exact (Below.refl _ _).grown G2.out HE.out (fun k e => by cases e)
  · exact grown_any G2.out _
theorem slices_Insert_int_int.own (A0 : Option Addr) (c0 : Nat) (l0 : List Int) (a1 : Int) (A2 : Option Addr) (c2 : Nat) (l2 : List Int) (r : List Int) (w : World) {base : Nat} (hv : Kd.R (Kd.int .i64) 3 w base (fun _ => True) (.slice A0 l0.length c0) l0) (hbase : base ≤ w.heap.size) {ok2 : Nat → Prop} (hL : Kd.R (Kd.int .i64) 3 w base ok2 (.slice A2 l2.length c2) l2) (hap : ∀ k, ok2 k → some k ≠ (Value.slice A0 l0.length c0).ownBlock) (h : slices_Insert_int_int.f l0 a1 l2 = some r) :
    Calls Try.prog 49 #[.slice A0 l0.length c0, .int .i64 a1, .slice A2 l2.length c2] w fun e w' => ∃ v1, e = .returned v1 ∧ Kd.R (Kd.int .i64) 3 w' base (fun _ => True) v1 r ∧ Below base w w' ∧ w.grownBy w' (Value.slice A0 l0.length c0).ownBlock := by
  unfold slices_Insert_int_int.f at h
  split at h
  case isFalse => cases h
  rename_i hh
  obtain ⟨hl2, h0, h1, hl⟩ := hh
  obtain ⟨i, rfl⟩ := Int.eq_ofNat_of_zero_le h0
  cases h
  rw [Int.toNat_natCast]
  rcases Nat.lt_or_ge i l0.length with hi | hi
  · rcases Nat.lt_or_ge c0 (l0.length + l2.length) with hr | hr
    · exact slices_Insert_int_int.grow A0 c0 l0 i A2 c2 l2 w hv hbase hL hap hl2 hi hr hl
    · exact slices_Insert_int_int.shift A0 c0 l0 i A2 c2 l2 w hv hbase hL hap hl2 hi hr
  · obtain rfl : i = l0.length := by omega
    rw [List.take_length, List.drop_length, List.append_nil]
    exact slices_Insert_int_int.at_end A0 c0 l0 A2 c2 l2 w hv hbase hL hap hl2 hl
end Go.Proofs.Ytpdpjcpmpppadaa.P
