import Derived.RangeFuncNested
import Derived.RangeFuncBound
import Derived.RangeFuncCalls
import Derived.RangeFuncLeaves
import Derived.RangeFuncBox
import Derived.Shelf.Abstract
import Derived.Shelf.RegionOpen
import Derived.WalkKit
import Derived.OwnWalkIn
import Derived.TacticsInMore
import Derived.LoopNIn
import Derived.LoopIn
import Derived.Maps.AppendAt
import Derived.Lib.Hide
import Derived.Test.YtkbdicedckmdkaaP1
namespace Go.Proofs.Ytkbdicedckmdkaa.P
open Go.RowKit Go.Shelf Go.Proofs Go.Proofs.YtkbdicedckmdkaaW.PrintWords Go.Proofs.YtkbdicedckmdkaaW.PrintLast Go.Proofs.YtkbdicedckmdkaaW.PrintMore
attribute [local go_sem] Oper.semAt_some
set_option linter.unusedVariables false
set_option linter.unusedSimpArgs false

theorem R_of_own {α : Type} {enc : α → Value} {h1 : ∀ x, (enc x).oneCell' = true} {e : Nat} {w : World} {base : Nat} {v : Value} {xs : List α} (h : w.ownsRow base e 1 v xs.length (xs.map enc)) : (Kd.scalar enc h1).R e w base (fun _ => True) v xs := by
  refine ⟨fun _ _ => trivial, xs.map enc, h, by show (xs.map enc).length = xs.length * 1; simp, fun j p hj => ?_⟩
  have hjl : j < xs.length := (List.getElem?_eq_some_iff.1 hj).1
  have e : xs[j] = p := (List.getElem?_eq_some_iff.1 hj).2
  show ((xs.map enc).drop (j * 1)).take 1 = [enc p]
  rw [Nat.mul_one, List.drop_eq_getElem_cons (by simpa using hjl)]
  simp [e]

/-- slices.AppendSeq onto nil, of an iterator over texts. -/
theorem info9' : ∃ i0, Try.prog.info? 9 = some i0 ∧ i0.zero = some (.string ⟨#[]⟩) ∧ i0.size = 1 ∧ i0.bytes = 16 := info_parts info9

set_option maxRecDepth 100000 in
set_option maxHeartbeats 2000000 in
theorem appendSeq_in (F : Fence) (n : Nat) (h38 : F.fn 38) (hro : F.round = none) (hn : 3 ≤ n) (gf : Nat) (lb : Array Value) (hgf : F.fn gf)
    (eg : ∀ args w, (callFunc gf args).run Try.prog w = .ok (.enter gf args) w) (ys : List ByteArray) (Sp : List ByteArray → Prop) (N : Nat) (hN : N * 16 ≤ 140737488355328) (w : World)
    (hseq : SeqStopsK F (n - 1) Try.prog gf lb (fun x : ByteArray => #[Value.string x]) (Below w.heap.size) (fun zs => zs = ys) Sp N w) :
    CallsIn F n Try.prog 38 #[.slice none 0 0, .func (.func gf) #[] lb] w fun e W' => ∃ v, e = .returned v ∧ Kd.string.R 9 W' w.heap.size (fun _ => True) v ys ∧ Below w.heap.size w W' := by
  have h1 : 1 ≤ n := by omega
  obtain ⟨i0, hi, hz0, hz1, hz2⟩ := info9'
  refine callsIn_of_wp_marks Try.func38 rfl h38 ?_ hro
  simp only [Try.ntmps38, List.size_toArray, List.length_cons, List.length_nil, Nat.reduceAdd, Nat.reduceSub, Array.replicate_succ, Array.replicate_zero, List.push_toArray, List.append_toArray, List.nil_append, List.cons_append]
  gi_wp2
  have bO := Boxed.new w 25 (.slice none 0 0)
  have hB0 : Below w.heap.size w (w.alloc (.cells #[.slice none 0 0] 25)) := (Below.refl _ w).alloc (Nat.le_refl _) _
  refine wpIn_rangeFunc_ownG hro h1 (gf := gf) (lb := lb) rfl hgf eg hseq belowK_t (belowK_b (by simp)) hB0 (fun _ => rfl)
    (fun pre W => (∃ v, Boxed W w.heap.size 25 v ∧ W.ownsRow w.heap.size 9 1 v pre.length (pre.map Value.string) ∧ True) ∧ Below w.heap.size w W)
    (fun _ _ _ => False)
    (OwnFrom.and (Own.from (holdsRow_own w.heap.size w.heap.size 25 9 1 (fun pre : List ByteArray => pre.length) (fun pre => pre.map Value.string) (fun pre v => True)) _) (ownFrom_below (Nat.le_refl _) (by simp)))
    (fun _ _ _ _ _ hs _ _ => hs)
    ⟨⟨_, bO, World.ownsRow_nil _ _ _ _, trivial⟩, hB0⟩
    (fun x => { tmps := #[.slice none 0 0, .func (.func gf) #[] lb, .pointer (some ⟨w.heap.size, 0, none⟩), undef, .slice none 0 0, .string x, .func (.func gf) #[] lb, .string x, undef, undef, undef, undef, undef], defers := [] }) ?assign ?body ?done ?stop
  case assign =>
    intro l x W K hK
    gi_wp2
    exact hK
  case body =>
    rintro l pre x W ⟨⟨v, hv, hrow, _⟩, hB⟩ hlt
    have hc := hv.cell
    gi_wp2_with (gi_at_builtin; refine wpListIn_append_own _ rfl _ _ 25 rfl w.heap.size 9 i0 (.string ⟨#[]⟩) 1 16 Try.underlying25 hi hz0 hz1 hz2 rfl (by decide) _ _ _ rfl (hrow.alloc _) ⟨W.heap.size, 0, none⟩ 1 1 [.string x] rfl rfl (cell_one_new _ _ _) (by simp [Value.oneCell']) (by simp only [maxLen]; omega) (by omega) (by have := hB.size; simp; omega) ?_; intro v' w1 hown' hgrow _; obtain ⟨g', cap', rfl⟩ := ownsRow_succ hown'; obtain ⟨hv1, hv2, hr2, hk2, hb2⟩ := hv.appended (by decide) hrow hB.size (Nat.le_refl _) hown' hgrow; have hc1 := hv1.cell; have hf1 := hv1.frozen)
    exact ⟨hk2.from _, hb2, ⟨_, hv2, by simpa using hr2, trivial⟩, hB.trans hb2⟩
  case done =>
    rintro D zs W hD rfl ⟨⟨v, hv, hrow, _⟩, hB⟩ hK
    have hc := hv.cell
    gi_wp2
    refine ⟨by simp, .inl ⟨_, _, rfl, run_takeDeferred hK, ?_⟩⟩
    exact ⟨_, results_tmp rfl _ _ _, v, rfl, R_of_own (ownsRow_putObj hrow _ hK rfl), hB.trans (belowK_b (w := w) (Nat.le_refl _) W D _ _ (by simp at hD; omega) hK rfl rfl)⟩
  case stop =>
    rintro D c pre W _ _ h _
    exact h.elim

set_option maxHeartbeats 1000000 in
theorem collect_in (F : Fence) (n : Nat) (h28 : F.fn 28) (h38 : F.fn 38) (hro : F.round = none) (hn : 4 ≤ n) (gf : Nat) (lb : Array Value) (hgf : F.fn gf)
    (eg : ∀ args w, (callFunc gf args).run Try.prog w = .ok (.enter gf args) w) (ys : List ByteArray) (Sp : List ByteArray → Prop) (N : Nat) (hN : N * 16 ≤ 140737488355328) (w : World)
    (hseq : SeqStopsK F (n - 1 - 1) Try.prog gf lb (fun x : ByteArray => #[Value.string x]) (Below w.heap.size) (fun zs => zs = ys) Sp N w) :
    CallsIn F n Try.prog 28 #[.func (.func gf) #[] lb] w fun e W' => ∃ v, e = .returned v ∧ Kd.string.R 9 W' w.heap.size (fun _ => True) v ys ∧ Below w.heap.size w W' := by
  refine callsIn_of_wp Try.func28 rfl h28 ?_ hro
  simp only [Try.ntmps28, List.size_toArray, List.length_cons, List.length_nil, Nat.reduceAdd, Nat.reduceSub, Array.replicate_succ, Array.replicate_zero, List.push_toArray, List.append_toArray, List.nil_append, List.cons_append]
  have h1 : 1 ≤ n := by omega
  gi_wp2_with (gi_at_call 38; refine (appendSeq_in F (n - 1) h38 hro (by omega) gf lb hgf eg ys Sp N hN w hseq).mono ?_; rintro e w' ⟨v, rfl, hr, hb⟩)
  go_ret
  exact ⟨v, rfl, hr, hb⟩

/-! accept.from -/
set_option maxHeartbeats 1000000 in
theorem from_in (F : Fence) (n : Nat) (h29 : F.fn 29) (hro : F.round = none) (cs : Array Value) (hcs : cs.size = 7) (first : Int) (w : World) :
    CallsIn F n Try.prog 29 #[.agg cs, .int .i64 first] w fun e w' => e = .returned (.func (.func 39) #[] #[.pointer (some ⟨w.heap.size + 1, 0, none⟩), .pointer (some ⟨w.heap.size, 0, none⟩)]) ∧ w' = (w.alloc (.cells cs 27)).alloc (.cells #[.int .i64 first] 2) := by
  refine callsIn_of_wp Try.func29 rfl h29 ?_ hro
  simp only [Try.ntmps29, List.size_toArray, List.length_cons, List.length_nil, Nat.reduceAdd, Nat.reduceSub, Array.replicate_succ, Array.replicate_zero, List.push_toArray, List.append_toArray, List.nil_append, List.cons_append]
  gi_wp2
  go_ret
  exact ⟨rfl, rfl⟩

/-- What from(a, first) hands out. -/
def fromV (l : List ByteArray) (first : Int) : List ByteArray := if 0 ≤ first ∧ first ≤ l.length then l.drop first.toNat else []
theorem fromV_len (l : List ByteArray) (first : Int) : (fromV l first).length ≤ l.length := by
  unfold fromV; split
  · rw [List.length_drop]; omega
  · exact Nat.zero_le _

set_option maxRecDepth 100000 in
set_option maxHeartbeats 4000000 in
theorem from_stops (F : Fence) (n : Nat) (h39 : F.fn 39) (hro : F.round = none) (hn : 1 ≤ n) (B1 B2 : Nat) (A : Option Addr) (c : Nat) (l : List ByteArray) (first : Int) (w : World) (hB1 : B1 < w.heap.size) (hB2 : B2 < w.heap.size)
    (c1 : w.cell? ⟨B1, 0, none⟩ = some (.int .i64 first)) (c2 : w.cell? ⟨B2, 6, none⟩ = some (.slice A l.length c)) (hC : Kd.C Kd.string w A l.length l) (hc : l.length ≤ c) :
    SeqStopsK F n Try.prog 39 #[.pointer (some ⟨B1, 0, none⟩), .pointer (some ⟨B2, 0, none⟩)] (fun x : ByteArray => #[Value.string x]) (Below w.heap.size) (fun ys => ys = fromV l first) (fun pre => ∃ k, 0 < k ∧ k ≤ (fromV l first).length ∧ pre = (fromV l first).take k) l.length w := fun lp J Jx W hW _ _ hY h0 => by
  have c1' := (hW.cell (p := ⟨B1, 0, none⟩) hB1).trans c1
  have c2' := (hW.cell (p := ⟨B2, 6, none⟩) hB2).trans c2
  have HC := Aside0.mk hC
  have hm := Kd.C_max hC
  clear c1 c2 hC
  refine callsIn_of_wp Try.func39 rfl h39 ?_ hro
  simp only [Try.ntmps39, List.size_toArray, List.length_cons, List.length_nil, Nat.reduceAdd, Nat.reduceSub, Array.replicate_succ, Array.replicate_zero, List.push_toArray, List.append_toArray, List.nil_append, List.cons_append]
  by_cases hf0 : first < 0
  · have hV := Lib.hid (show fromV l first = [] by unfold fromV; rw [if_neg (by omega)])
    gi_wp2
    refine bodyPost_ret (results_none rfl _ _ _) rfl ?_
    exact ⟨⟨_, rfl⟩, .inl (by rw [hV.out]; exact h0)⟩
  · have hf0b : decide (first < 0) = false := decide_eq_false hf0
    by_cases hf1 : (l.length : Int) < first
    · have hV := Lib.hid (show fromV l first = [] by unfold fromV; rw [if_neg (by omega)])
      have hf1b : decide ((l.length : Int) < first) = true := decide_eq_true hf1
      gi_wp2
      refine bodyPost_ret (results_none rfl _ _ _) rfl ?_
      exact ⟨⟨_, rfl⟩, .inl (by rw [hV.out]; exact h0)⟩
    · have hf1b : decide ((l.length : Int) < first) = false := decide_eq_false hf1
      obtain ⟨m, rfl⟩ := Int.eq_ofNat_of_zero_le (show 0 ≤ first by omega)
      have hV : fromV l (m : Int) = l.drop m := by unfold fromV; rw [if_pos (by omega)]; rfl
      have hml : m ≤ l.length := by omega
      obtain ⟨i0, hi, _, hsz, _⟩ := info9'
      have hcut := cut_from (P := Try.prog) 25 9 .i64 Try.underlying25 hi 1 hsz A l.length c (m : Int) (by omega) (by omega)
      have hD := Kd.C_drop HC.out hml hc
      rw [Int.toNat_natCast] at hcut
      have hsz1 : Kd.string.sz = 1 := rfl
      rw [hsz1] at hD
      obtain ⟨A', hA'⟩ : ∃ A', (if c = m then A else A.map (·.add (m * 1))) = A' := ⟨_, rfl⟩
      rw [hA'] at hcut hD
      have HD := Aside0.mk hD
      have hlen : (l.drop m).length = l.length - m := List.length_drop
      obtain ⟨q, hq⟩ : ∃ q, l.drop m = q := ⟨_, rfl⟩
      rw [hV, hq]
      rw [hq] at HD hlen
      rw [← hlen] at hcut
      have hql : q.length ≤ l.length := by omega
      clear hA' hD hV hsz hsz1
      have HQ := Lib.hid hq
      have HL := Lib.hid hlen
      clear hq hlen
      gi_wp2
      gi_loopw [20] (fun i wr => ∃ k : Nat, k ≤ q.length ∧ i = .int .i64 k ∧ J (q.take k) wr ∧ Below w.heap.size W wr)
        (fun i _ => q.length - (intOf i).toNat)
      case atStart => exact ⟨0, Nat.zero_le _, rfl, h0, Below.refl _ _⟩
      case round =>
        obtain ⟨k, hk, rfl, hJs, hnx⟩ := hrel
        by_cases hlt : k < q.length
        · obtain ⟨ad, e0, hcx⟩ := Kd.at_string (Kd.C_below HD.out (hW.trans hnx)) (k : Int) (by omega) (by omega)
          cases e0
          simp only [Int.toNat_natCast] at hcx
          obtain ⟨fn, tmps, assign, body, hy, hR⟩ := hY (q.take k) (rdOf ByteArray.empty q (k : Int)) wr hJs (by rw [List.length_take]; omega)
          have htk : q.take k ++ [rdOf ByteArray.empty q (k : Int)] = q.take (k + 1) := by
            rw [List.take_succ_eq_append_getElem hlt]; simp [rdOf, hlt]
          rw [htk] at hR
          have HT := Lib.hid htk
          clear htk
          gi_wp2
          refine hR.mono ?_
          rintro e W3 (⟨rfl, hJ3, hk3⟩ | ⟨rfl, hJx3⟩)
          · gi_wp2
            go_roundw
            case rel => exact ⟨k + 1, by omega, by simp, hJ3, hnx.trans hk3⟩
            case measure => simp [intOf]; omega
          · gi_wp2
            refine bodyPost_ret (results_none rfl _ _ _) rfl ?_
            exact ⟨⟨_, rfl⟩, .inr ⟨_, ⟨k + 1, by omega, by omega, rfl⟩, hJx3⟩⟩
        · obtain rfl : k = q.length := by omega
          rw [List.take_length] at hJs
          gi_wp2
          go_end0
          exact ⟨⟨_, rfl⟩, .inl ⟨_, rfl, hJs⟩⟩

def KeepS (S : Nat → Prop) (W W' : World) : Prop := W.heap.size ≤ W'.heap.size ∧ ∀ k, S k → W'.heap[k]? = W.heap[k]?
theorem KeepS.refl (S : Nat → Prop) (W : World) : KeepS S W W := ⟨Nat.le_refl _, fun _ _ => rfl⟩
theorem KeepS.trans {S : Nat → Prop} {A B C : World} (h : KeepS S A B) (k : KeepS S B C) : KeepS S A C := ⟨Nat.le_trans h.1 k.1, fun i hi => (k.2 i hi).trans (h.2 i hi)⟩
theorem KeepS.of_below {S : Nat → Prop} {n : Nat} {W W' : World} (h : Below n W W') (hS : ∀ k, S k → k < n) : KeepS S W W' := ⟨h.size, fun k hk => h.block k (hS k hk)⟩
theorem SeqStopsK.mono' {α : Type} {F : Fence} {n : Nat} {P : Program} {g : Nat} {lb : Array Value} {encs : α → Array Value} {Kp Kp' : World → World → Prop} {S Sp : List α → Prop} {N : Nat} {w : World} (h : SeqStopsK F n P g lb encs Kp S Sp N w) (hk : ∀ W W', Kp' W W' → Kp W W') : SeqStopsK F n P g lb encs Kp' S Sp N w :=
  fun l J Jx W hW a b hY h0 => h l J Jx W hW a b (fun pre x W1 hj hl => (hY pre x W1 hj hl).mono fun e W' hh => hh.imp (fun ⟨h1, h2, h3⟩ => ⟨h1, h2, hk _ _ h3⟩) id) h0
set_option maxRecDepth 100000 in
set_option maxHeartbeats 4000000 in
theorem from_stopsS (F : Fence) (n : Nat) (h39 : F.fn 39) (hro : F.round = none) (hn : 1 ≤ n) (B1 B2 : Nat) (A : Option Addr) (c : Nat) (l : List ByteArray) (first : Int) (S : Nat → Prop) (w : World) (hS : ∀ k, S k → k < w.heap.size) (hB1 : S B1) (hB2 : S B2)
    (c1 : w.heap[B1]? = some (.cells #[.int .i64 first] 2 (0, 0))) (cs : Array Value) (hcs : cs[6]? = some (.slice A l.length c)) (c2 : w.heap[B2]? = some (.cells cs 27 (0, 0))) (hC : ∀ W', KeepS S w W' → Kd.C Kd.string W' A l.length l) (hc : l.length ≤ c) :
    SeqStopsK F n Try.prog 39 #[.pointer (some ⟨B1, 0, none⟩), .pointer (some ⟨B2, 0, none⟩)] (fun x : ByteArray => #[Value.string x]) (KeepS S) (fun ys => ys = fromV l first) (fun pre => ∃ k, 0 < k ∧ k ≤ (fromV l first).length ∧ pre = (fromV l first).take k) l.length w := fun lp J Jx W hW _ _ hY h0 => by
  have hWS : KeepS S w W := ⟨hW.size, fun k hk => hW.block k (hS k hk)⟩
  have c1' : W.cell? ⟨B1, 0, none⟩ = some (.int .i64 first) := by have := blk_cell ((hWS.2 B1 hB1).trans c1) 0; simpa using this
  have c2' : W.cell? ⟨B2, 6, none⟩ = some (.slice A l.length c) := (blk_cell ((hWS.2 B2 hB2).trans c2) 6).trans hcs
  have HC := Aside0.mk (hC W hWS)
  have HF := Aside0.mk hC
  have hm := Kd.C_max (hC W hWS)
  clear c1 c2 hC hcs
  refine callsIn_of_wp Try.func39 rfl h39 ?_ hro
  simp only [Try.ntmps39, List.size_toArray, List.length_cons, List.length_nil, Nat.reduceAdd, Nat.reduceSub, Array.replicate_succ, Array.replicate_zero, List.push_toArray, List.append_toArray, List.nil_append, List.cons_append]
  by_cases hf0 : first < 0
  · have hV := Lib.hid (show fromV l first = [] by unfold fromV; rw [if_neg (by omega)])
    gi_wp2
    refine bodyPost_ret (results_none rfl _ _ _) rfl ?_
    exact ⟨⟨_, rfl⟩, .inl (by rw [hV.out]; exact h0)⟩
  · have hf0b : decide (first < 0) = false := decide_eq_false hf0
    by_cases hf1 : (l.length : Int) < first
    · have hV := Lib.hid (show fromV l first = [] by unfold fromV; rw [if_neg (by omega)])
      have hf1b : decide ((l.length : Int) < first) = true := decide_eq_true hf1
      gi_wp2
      refine bodyPost_ret (results_none rfl _ _ _) rfl ?_
      exact ⟨⟨_, rfl⟩, .inl (by rw [hV.out]; exact h0)⟩
    · have hf1b : decide ((l.length : Int) < first) = false := decide_eq_false hf1
      obtain ⟨m, rfl⟩ := Int.eq_ofNat_of_zero_le (show 0 ≤ first by omega)
      have hV : fromV l (m : Int) = l.drop m := by unfold fromV; rw [if_pos (by omega)]; rfl
      have hml : m ≤ l.length := by omega
      obtain ⟨i0, hi, _, hsz, _⟩ := info9'
      have hcut := cut_from (P := Try.prog) 25 9 .i64 Try.underlying25 hi 1 hsz A l.length c (m : Int) (by omega) (by omega)
      have hD := fun W' (hk : KeepS S W W') => Kd.C_drop (HF.out W' (hWS.trans hk)) hml hc
      rw [Int.toNat_natCast] at hcut
      have hsz1 : Kd.string.sz = 1 := rfl
      simp only [hsz1] at hD
      obtain ⟨A', hA'⟩ : ∃ A', (if c = m then A else A.map (·.add (m * 1))) = A' := ⟨_, rfl⟩
      simp only [hA'] at hcut hD
      have HD := Aside0.mk hD
      have hlen : (l.drop m).length = l.length - m := List.length_drop
      obtain ⟨q, hq⟩ : ∃ q, l.drop m = q := ⟨_, rfl⟩
      rw [hV, hq]
      simp only [hq] at HD hlen
      rw [← hlen] at hcut
      have hql : q.length ≤ l.length := by omega
      clear hA' hD hV hsz hsz1
      have HQ := Lib.hid hq
      have HL := Lib.hid hlen
      clear hq hlen
      gi_wp2
      gi_loopw [20] (fun i wr => ∃ k : Nat, k ≤ q.length ∧ i = .int .i64 k ∧ J (q.take k) wr ∧ KeepS S W wr)
        (fun i _ => q.length - (intOf i).toNat)
      case atStart => exact ⟨0, Nat.zero_le _, rfl, h0, KeepS.refl _ _⟩
      case round =>
        obtain ⟨k, hk, rfl, hJs, hnx⟩ := hrel
        by_cases hlt : k < q.length
        · obtain ⟨ad, e0, hcx⟩ := Kd.at_string (HD.out wr hnx) (k : Int) (by omega) (by omega)
          cases e0
          simp only [Int.toNat_natCast] at hcx
          obtain ⟨fn, tmps, assign, body, hy, hR⟩ := hY (q.take k) (rdOf ByteArray.empty q (k : Int)) wr hJs (by rw [List.length_take]; omega)
          have htk : q.take k ++ [rdOf ByteArray.empty q (k : Int)] = q.take (k + 1) := by
            rw [List.take_succ_eq_append_getElem hlt]; simp [rdOf, hlt]
          rw [htk] at hR
          have HT := Lib.hid htk
          clear htk
          gi_wp2
          refine hR.mono ?_
          rintro e W3 (⟨rfl, hJ3, hk3⟩ | ⟨rfl, hJx3⟩)
          · gi_wp2
            go_roundw
            case rel => exact ⟨k + 1, by omega, by simp, hJ3, hnx.trans hk3⟩
            case measure => simp [intOf]; omega
          · gi_wp2
            refine bodyPost_ret (results_none rfl _ _ _) rfl ?_
            exact ⟨⟨_, rfl⟩, .inr ⟨_, ⟨k + 1, by omega, by omega, rfl⟩, hJx3⟩⟩
        · obtain rfl : k = q.length := by omega
          rw [List.take_length] at hJs
          gi_wp2
          go_end0
          exact ⟨⟨_, rfl⟩, .inl ⟨_, rfl, hJs⟩⟩
end Go.Proofs.Ytkbdicedckmdkaa.P
