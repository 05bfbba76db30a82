import Derived.RangeFuncNested
import Derived.RangeFuncBound
import Derived.RangeFuncCalls
import Derived.RangeFuncLeaves
import Derived.Shelf.Abstract
import Derived.Shelf.RegionOpen
import Derived.WalkKit
import Derived.OwnWalkIn
import Derived.TacticsInMore
import Derived.LoopNIn
import Derived.LoopIn
import Derived.Lib.Hide
import Derived.Test.YthfeigheeloeaaaProg
namespace Go.Proofs.Ythfeigheeloeaaa.Hash
open Go.RowKit Go.Shelf Go.Proofs
set_option linter.unusedVariables false
attribute [local go_sem] Oper.semAt_some

def stp32 (fac h b : Int) : Int := ((Go.bits .xor .u32 h (b % 4294967296)) * fac) % 4294967296
def mixl32 (fac h : Int) (l : List Int) : Int := l.foldl (stp32 fac) h
theorem mixl32_snoc (fac h : Int) (l : List Int) (b : Int) : mixl32 fac h (l ++ [b]) = stp32 fac (mixl32 fac h l) b := by simp [mixl32]
def stp64 (fac h b : Int) : Int := IntKind.u64.wrap ((Go.bits .xor .u64 h (IntKind.u64.wrap b)) * fac)
def mixl64 (fac h : Int) (l : List Int) : Int := l.foldl (stp64 fac) h
theorem mixl64_snoc (fac h : Int) (l : List Int) (b : Int) : mixl64 fac h (l ++ [b]) = stp64 fac (mixl64 fac h l) b := by simp [mixl64]
/-- What has come when k rounds are over. -/
def upto (f : Nat → Int) (k : Nat) : List Int := (List.range k).map f
theorem upto_succ (f : Nat → Int) (k : Nat) : upto f (k + 1) = upto f k ++ [f k] := by simp [upto, List.range_succ]
theorem upto_length (f : Nat → Int) (k : Nat) : (upto f k).length = k := by simp [upto]

set_option maxRecDepth 100000 in
set_option maxHeartbeats 2000000 in
theorem mix32_in (F : Fence) (n : Nat) (h18 : F.fn 18) (hro : F.round = none) (hn : 3 ≤ n) (h fac : Int) (gf : Nat) (lb : Array Value) (hgf : F.fn gf)
    (eg : ∀ args w, (callFunc gf args).run Try.prog w = .ok (.enter gf args) w) (ys : List Int) (N : Nat) (w : World)
    (hseq : SeqStopsK F (n - 1) Try.prog gf lb (fun x : Int => #[Value.int .u8 x]) (Below w.heap.size) (fun zs => zs = ys) (fun _ => True) N w) :
    CallsIn F n Try.prog 18 #[.int .u32 h, .int .u32 fac, .func (.func gf) #[] lb] w fun e W' => e = .returned (.int .u32 (mixl32 fac h ys)) ∧ Below w.heap.size w W' := by
  have h1 : 1 ≤ n := by omega
  refine callsIn_of_wp_marks Try.func18 rfl h18 ?_ hro
  simp only [Try.ntmps18, List.size_toArray, List.length_cons, List.length_nil, Nat.reduceAdd, Nat.reduceSub, Array.replicate_succ, Array.replicate_zero, List.push_toArray, List.append_toArray, List.nil_append, List.cons_append]
  gi_wp2
  have bH := Boxed.new w 24 (.int .u32 h)
  have bF := Boxed.new (w.alloc (.cells #[.int .u32 h] 24)) 24 (.int .u32 fac)
  rw [World.size_alloc] at bF
  have hB0 : Below w.heap.size w ((w.alloc (.cells #[.int .u32 h] 24)).alloc (.cells #[.int .u32 fac] 24)) := ((Below.refl _ w).alloc (Nat.le_refl _) _).alloc (by simp) _
  refine wpIn_rangeFunc_ownG hro h1 (gf := gf) (lb := lb) rfl hgf eg hseq belowK_t (belowK_b (by simp; omega)) hB0 (fun _ => rfl)
    (fun pre W => ((W.cell? ⟨w.heap.size, 0, none⟩ = some (.int .u32 (mixl32 fac h pre)) ∧ W.frozen? ⟨w.heap.size, 0, none⟩ = false) ∧ W.cell? ⟨w.heap.size + 1, 0, none⟩ = some (.int .u32 fac)) ∧ Below w.heap.size w W)
    (fun _ _ _ => False)
    (OwnFrom.and (Own.from (fun s A B row hs hg hr => ⟨⟨cell_kept hs.1.1 hg hr, (frozen_kept hs.1.1 hg hr).trans hs.1.2⟩, cell_kept hs.2 hg hr⟩) _) (ownFrom_below (Nat.le_refl _) (by simp; omega)))
    (fun _ _ _ _ _ hs _ _ => hs)
    ⟨⟨⟨(bH.alloc _).cell, (bH.alloc _).frozen⟩, bF.cell⟩, hB0⟩
    (fun x => { tmps := #[.int .u32 h, .int .u32 fac, .func (.func gf) #[] lb, .pointer (some ⟨w.heap.size, 0, none⟩), .pointer (some ⟨w.heap.size + 1, 0, none⟩), undef, .int .u32 0, .int .u8 x, .func (.func gf) #[] lb, .int .u8 x, undef, undef, undef, undef, undef, undef, undef], defers := [] }) ?assign ?body ?done ?stop
  case assign =>
    intro l x W K hK
    gi_wp2
    exact hK
  case body =>
    rintro l pre x W ⟨⟨⟨hc, hf⟩, hfc⟩, hB⟩ _
    gi_wp2
    exact ⟨(KeepsOthers.setCell _ _ _).from _, (Below.refl w.heap.size W).setCell (p := ⟨w.heap.size, 0, none⟩) (Nat.le_refl _) _,
      ⟨⟨by rw [mixl32_snoc]; exact World.cell?_setCell_same' _ _ _ (by rw [hc]; rfl), by rw [World.frozen?_setCell]; exact hf⟩, (World.cell?_setCell_other _ _ _ _ (by simp)).trans hfc⟩, hB.setCell (p := ⟨w.heap.size, 0, none⟩) (Nat.le_refl _) _⟩
  case done =>
    rintro D ys W hD rfl ⟨⟨⟨hc, _⟩, _⟩, hB⟩ hK
    gi_wp2
    refine ⟨by simp, .inl ⟨_, _, rfl, run_takeDeferred hK, ?_⟩⟩
    exact ⟨_, results_tmp rfl _ _ _, rfl, hB.trans (belowK_b (w := w) (Nat.le_refl _) W D _ _ (by simp at hD; omega) hK rfl rfl)⟩
  case stop =>
    rintro D c pre W _ _ h _
    exact h.elim

set_option maxRecDepth 100000 in
set_option maxHeartbeats 2000000 in
theorem mix64_in (F : Fence) (n : Nat) (h18 : F.fn 25) (hro : F.round = none) (hn : 3 ≤ n) (h fac : Int) (gf : Nat) (lb : Array Value) (hgf : F.fn gf)
    (eg : ∀ args w, (callFunc gf args).run Try.prog w = .ok (.enter gf args) w) (ys : List Int) (N : Nat) (w : World)
    (hseq : SeqStopsK F (n - 1) Try.prog gf lb (fun x : Int => #[Value.int .u8 x]) (Below w.heap.size) (fun zs => zs = ys) (fun _ => True) N w) :
    CallsIn F n Try.prog 25 #[.int .u64 h, .int .u64 fac, .func (.func gf) #[] lb] w fun e W' => e = .returned (.int .u64 (mixl64 fac h ys)) ∧ Below w.heap.size w W' := by
  have h1 : 1 ≤ n := by omega
  refine callsIn_of_wp_marks Try.func25 rfl h18 ?_ hro
  simp only [Try.ntmps25, List.size_toArray, List.length_cons, List.length_nil, Nat.reduceAdd, Nat.reduceSub, Array.replicate_succ, Array.replicate_zero, List.push_toArray, List.append_toArray, List.nil_append, List.cons_append]
  gi_wp2
  have bH := Boxed.new w 28 (.int .u64 h)
  have bF := Boxed.new (w.alloc (.cells #[.int .u64 h] 28)) 28 (.int .u64 fac)
  rw [World.size_alloc] at bF
  have hB0 : Below w.heap.size w ((w.alloc (.cells #[.int .u64 h] 28)).alloc (.cells #[.int .u64 fac] 28)) := ((Below.refl _ w).alloc (Nat.le_refl _) _).alloc (by simp) _
  refine wpIn_rangeFunc_ownG hro h1 (gf := gf) (lb := lb) rfl hgf eg hseq belowK_t (belowK_b (by simp; omega)) hB0 (fun _ => rfl)
    (fun pre W => ((W.cell? ⟨w.heap.size, 0, none⟩ = some (.int .u64 (mixl64 fac h pre)) ∧ W.frozen? ⟨w.heap.size, 0, none⟩ = false) ∧ W.cell? ⟨w.heap.size + 1, 0, none⟩ = some (.int .u64 fac)) ∧ Below w.heap.size w W)
    (fun _ _ _ => False)
    (OwnFrom.and (Own.from (fun s A B row hs hg hr => ⟨⟨cell_kept hs.1.1 hg hr, (frozen_kept hs.1.1 hg hr).trans hs.1.2⟩, cell_kept hs.2 hg hr⟩) _) (ownFrom_below (Nat.le_refl _) (by simp; omega)))
    (fun _ _ _ _ _ hs _ _ => hs)
    ⟨⟨⟨(bH.alloc _).cell, (bH.alloc _).frozen⟩, bF.cell⟩, hB0⟩
    (fun x => { tmps := #[.int .u64 h, .int .u64 fac, .func (.func gf) #[] lb, .pointer (some ⟨w.heap.size, 0, none⟩), .pointer (some ⟨w.heap.size + 1, 0, none⟩), undef, .int .u64 0, .int .u8 x, .func (.func gf) #[] lb, .int .u8 x, undef, undef, undef, undef, undef, undef, undef], defers := [] }) ?assign ?body ?done ?stop
  case assign =>
    intro l x W K hK
    gi_wp2
    exact hK
  case body =>
    rintro l pre x W ⟨⟨⟨hc, hf⟩, hfc⟩, hB⟩ _
    gi_wp2
    exact ⟨(KeepsOthers.setCell _ _ _).from _, (Below.refl w.heap.size W).setCell (p := ⟨w.heap.size, 0, none⟩) (Nat.le_refl _) _,
      ⟨⟨by rw [mixl64_snoc]; exact World.cell?_setCell_same' _ _ _ (by rw [hc]; rfl), by rw [World.frozen?_setCell]; exact hf⟩, (World.cell?_setCell_other _ _ _ _ (by simp)).trans hfc⟩, hB.setCell (p := ⟨w.heap.size, 0, none⟩) (Nat.le_refl _) _⟩
  case done =>
    rintro D ys W hD rfl ⟨⟨⟨hc, _⟩, _⟩, hB⟩ hK
    gi_wp2
    refine ⟨by simp, .inl ⟨_, _, rfl, run_takeDeferred hK, ?_⟩⟩
    exact ⟨_, results_tmp rfl _ _ _, rfl, hB.trans (belowK_b (w := w) (Nat.le_refl _) W D _ _ (by simp at hD; omega) hK rfl rfl)⟩
  case stop =>
    rintro D c pre W _ _ h _
    exact h.elim

def lowb32 (x : Int) (j : Nat) : Int := (x / 2 ^ (8 * j)) % 256
set_option maxHeartbeats 1000000 in
theorem low32_in (F : Fence) (n : Nat) (h : F.fn 19) (hro : F.round = none) (x : Int) (size : Int) (w : World) :
    CallsIn F n Try.prog 19 #[.int .u32 x, .int .i64 size] w fun e w' => e = .returned (.func (.func 27) #[] #[.pointer (some ⟨w.heap.size + 1, 0, none⟩), .pointer (some ⟨w.heap.size, 0, none⟩)]) ∧ w' = (w.alloc (.cells #[.int .u32 x] 24)).alloc (.cells #[.int .i64 size] 3) := by
  refine callsIn_of_wp Try.func19 rfl h ?_ hro
  simp only [Try.ntmps19, List.size_toArray, List.length_cons, List.length_nil, Nat.reduceAdd, Nat.reduceSub, Array.replicate_succ, Array.replicate_zero, List.push_toArray, List.append_toArray, List.nil_append, List.cons_append]
  gi_wp2
  go_ret
  exact ⟨rfl, rfl⟩

set_option maxRecDepth 100000 in
set_option maxHeartbeats 2000000 in
theorem low32_stops (F : Fence) (n : Nat) (h : F.fn 27) (hro : F.round = none) (hn : 1 ≤ n) (B1 B2 n₀ : Nat) (x : Int) (size : Nat) (hs : size ≤ 4) (w : World) (hB1 : B1 < n₀) (hB2 : B2 < n₀) (hn₀ : n₀ ≤ w.heap.size)
    (c1 : w.cell? ⟨B1, 0, none⟩ = some (.int .i64 size)) (c2 : w.cell? ⟨B2, 0, none⟩ = some (.int .u32 x)) :
    SeqStopsK F n Try.prog 27 #[.pointer (some ⟨B1, 0, none⟩), .pointer (some ⟨B2, 0, none⟩)] (fun x : Int => #[Value.int .u8 x]) (Below n₀) (fun ys => ys = upto (lowb32 x) size) (fun _ => True) size w := fun l J Jx W hW _ _ hY h0 => by
  have c1' := (hW.cell (p := ⟨B1, 0, none⟩) (Nat.lt_of_lt_of_le hB1 hn₀)).trans c1
  have c2' := (hW.cell (p := ⟨B2, 0, none⟩) (Nat.lt_of_lt_of_le hB2 hn₀)).trans c2
  clear c1 c2
  refine callsIn_of_wp Try.func27 rfl h ?_ hro
  simp only [Try.ntmps27, List.size_toArray, List.length_cons, List.length_nil, Nat.reduceAdd, Nat.reduceSub, Array.replicate_succ, Array.replicate_zero, List.push_toArray, List.append_toArray, List.nil_append, List.cons_append]
  gi_wp2
  gi_loopw [6] (fun i wr => ∃ k : Nat, k ≤ size ∧ i = .int .i64 k ∧ J (upto (lowb32 x) k) wr ∧ Below n₀ W wr)
    (fun i _ => size - (intOf i).toNat)
  case atStart => exact ⟨0, Nat.zero_le _, rfl, h0, Below.refl _ _⟩
  case round =>
    obtain ⟨k, hk, rfl, hJs, hnx⟩ := hrel
    have hcx : wr.cell? ⟨B2, 0, none⟩ = some (.int .u32 x) := (hnx.cell (p := ⟨B2, 0, none⟩) hB2).trans c2'
    by_cases hlt : k < size
    · obtain ⟨fn, tmps, assign, body, hy, hR⟩ := hY _ (lowb32 x k) wr hJs (by rw [upto_length]; exact hlt)
      simp only [lowb32] at hy
      have hsh : (0:Int) ≤ 8 * (k : Int) := by omega
      gi_wp2
      refine hR.mono ?_
      rintro e W3 (⟨rfl, hJ3, hk3⟩ | ⟨rfl, hJx3⟩)
      · gi_wp2
        go_roundw
        case rel => exact ⟨k + 1, by omega, by simp, by rw [upto_succ]; exact hJ3, hnx.trans hk3⟩
        case measure => simp [intOf]; omega
      · gi_wp2
        refine bodyPost_ret (results_none rfl _ _ _) rfl ?_
        exact ⟨⟨_, rfl⟩, .inr ⟨_, trivial, hJx3⟩⟩
    · obtain rfl : k = size := by omega
      gi_wp2
      go_end0
      exact ⟨⟨_, rfl⟩, .inl ⟨_, rfl, hJs⟩⟩

def lowb64 (x : Int) (j : Nat) : Int := (x / 2 ^ (8 * j)) % 256
set_option maxHeartbeats 1000000 in
theorem low64_in (F : Fence) (n : Nat) (h : F.fn 26) (hro : F.round = none) (x : Int) (size : Int) (w : World) :
    CallsIn F n Try.prog 26 #[.int .u64 x, .int .i64 size] w fun e w' => e = .returned (.func (.func 29) #[] #[.pointer (some ⟨w.heap.size + 1, 0, none⟩), .pointer (some ⟨w.heap.size, 0, none⟩)]) ∧ w' = (w.alloc (.cells #[.int .u64 x] 28)).alloc (.cells #[.int .i64 size] 3) := by
  refine callsIn_of_wp Try.func26 rfl h ?_ hro
  simp only [Try.ntmps26, List.size_toArray, List.length_cons, List.length_nil, Nat.reduceAdd, Nat.reduceSub, Array.replicate_succ, Array.replicate_zero, List.push_toArray, List.append_toArray, List.nil_append, List.cons_append]
  gi_wp2
  go_ret
  exact ⟨rfl, rfl⟩

set_option maxRecDepth 100000 in
set_option maxHeartbeats 2000000 in
theorem low64_stops (F : Fence) (n : Nat) (h : F.fn 29) (hro : F.round = none) (hn : 1 ≤ n) (B1 B2 n₀ : Nat) (x : Int) (size : Nat) (hs : size ≤ 8) (w : World) (hB1 : B1 < n₀) (hB2 : B2 < n₀) (hn₀ : n₀ ≤ w.heap.size)
    (c1 : w.cell? ⟨B1, 0, none⟩ = some (.int .i64 size)) (c2 : w.cell? ⟨B2, 0, none⟩ = some (.int .u64 x)) :
    SeqStopsK F n Try.prog 29 #[.pointer (some ⟨B1, 0, none⟩), .pointer (some ⟨B2, 0, none⟩)] (fun x : Int => #[Value.int .u8 x]) (Below n₀) (fun ys => ys = upto (lowb64 x) size) (fun _ => True) size w := fun l J Jx W hW _ _ hY h0 => by
  have c1' := (hW.cell (p := ⟨B1, 0, none⟩) (Nat.lt_of_lt_of_le hB1 hn₀)).trans c1
  have c2' := (hW.cell (p := ⟨B2, 0, none⟩) (Nat.lt_of_lt_of_le hB2 hn₀)).trans c2
  clear c1 c2
  refine callsIn_of_wp Try.func29 rfl h ?_ hro
  simp only [Try.ntmps29, List.size_toArray, List.length_cons, List.length_nil, Nat.reduceAdd, Nat.reduceSub, Array.replicate_succ, Array.replicate_zero, List.push_toArray, List.append_toArray, List.nil_append, List.cons_append]
  gi_wp2
  gi_loopw [6] (fun i wr => ∃ k : Nat, k ≤ size ∧ i = .int .i64 k ∧ J (upto (lowb64 x) k) wr ∧ Below n₀ W wr)
    (fun i _ => size - (intOf i).toNat)
  case atStart => exact ⟨0, Nat.zero_le _, rfl, h0, Below.refl _ _⟩
  case round =>
    obtain ⟨k, hk, rfl, hJs, hnx⟩ := hrel
    have hcx : wr.cell? ⟨B2, 0, none⟩ = some (.int .u64 x) := (hnx.cell (p := ⟨B2, 0, none⟩) hB2).trans c2'
    by_cases hlt : k < size
    · obtain ⟨fn, tmps, assign, body, hy, hR⟩ := hY _ (lowb64 x k) wr hJs (by rw [upto_length]; exact hlt)
      simp only [lowb64] at hy
      have hsh : (0:Int) ≤ 8 * (k : Int) := by omega
      gi_wp2
      refine hR.mono ?_
      rintro e W3 (⟨rfl, hJ3, hk3⟩ | ⟨rfl, hJx3⟩)
      · gi_wp2
        go_roundw
        case rel => exact ⟨k + 1, by omega, by simp, by rw [upto_succ]; exact hJ3, hnx.trans hk3⟩
        case measure => simp [intOf]; omega
      · gi_wp2
        refine bodyPost_ret (results_none rfl _ _ _) rfl ?_
        exact ⟨⟨_, rfl⟩, .inr ⟨_, trivial, hJx3⟩⟩
    · obtain rfl : k = size := by omega
      gi_wp2
      go_end0
      exact ⟨⟨_, rfl⟩, .inl ⟨_, rfl, hJs⟩⟩

set_option maxHeartbeats 1000000 in
theorem text_in (F : Fence) (n : Nat) (h : F.fn 23) (hro : F.round = none) (s : ByteArray) (w : World) :
    CallsIn F n Try.prog 23 #[.string s] w fun e w' => e = .returned (.func (.func 28) #[] #[.pointer (some ⟨w.heap.size, 0, none⟩)]) ∧ w' = w.alloc (.cells #[.string s] 9) := by
  refine callsIn_of_wp Try.func23 rfl h ?_ hro
  simp only [Try.ntmps23, List.size_toArray, List.length_cons, List.length_nil, Nat.reduceAdd, Nat.reduceSub, Array.replicate_succ, Array.replicate_zero, List.push_toArray, List.append_toArray, List.nil_append, List.cons_append]
  gi_wp2
  go_ret
  exact ⟨rfl, rfl⟩

def byteAt (s : ByteArray) (k : Nat) : Int := if h : k < s.size then ((s[k]'h).toNat : Int) else 0

set_option maxRecDepth 100000 in
set_option maxHeartbeats 2000000 in
theorem text_stops (F : Fence) (n : Nat) (h : F.fn 28) (hro : F.round = none) (hn : 1 ≤ n) (B1 n₀ : Nat) (s : ByteArray) (hs : s.size ≤ 9223372036854775807) (w : World) (hB1 : B1 < n₀) (hn₀ : n₀ ≤ w.heap.size)
    (c1 : w.cell? ⟨B1, 0, none⟩ = some (.string s)) :
    SeqStopsK F n Try.prog 28 #[.pointer (some ⟨B1, 0, none⟩)] (fun x : Int => #[Value.int .u8 x]) (Below n₀) (fun ys => ys = upto (byteAt s) s.size) (fun _ => True) s.size w := fun l J Jx W hW _ _ hY h0 => by
  have c1' := (hW.cell (p := ⟨B1, 0, none⟩) (Nat.lt_of_lt_of_le hB1 hn₀)).trans c1
  clear c1
  refine callsIn_of_wp Try.func28 rfl h ?_ hro
  simp only [Try.ntmps28, List.size_toArray, List.length_cons, List.length_nil, Nat.reduceAdd, Nat.reduceSub, Array.replicate_succ, Array.replicate_zero, List.push_toArray, List.append_toArray, List.nil_append, List.cons_append]
  gi_wp2
  gi_loopw [6] (fun i wr => ∃ k : Nat, k ≤ s.size ∧ i = .int .i64 k ∧ J (upto (byteAt s) k) wr ∧ Below n₀ W wr)
    (fun i _ => s.size - (intOf i).toNat)
  case atStart => exact ⟨0, Nat.zero_le _, rfl, h0, Below.refl _ _⟩
  case round =>
    obtain ⟨k, hk, rfl, hJs, hnx⟩ := hrel
    have hcx : wr.cell? ⟨B1, 0, none⟩ = some (.string s) := (hnx.cell (p := ⟨B1, 0, none⟩) hB1).trans c1'
    by_cases hlt : k < s.size
    · obtain ⟨fn, tmps, assign, body, hy, hR⟩ := hY _ (byteAt s k) wr hJs (by rw [upto_length]; exact hlt)
      have hbk : byteAt s k = ((s[k]'hlt).toNat : Int) := by simp [byteAt, hlt]
      rw [hbk] at hy
      have HB := hbk
      clear hbk
      have HB := Lib.hid HB
      gi_wp2
      refine hR.mono ?_
      rintro e W3 (⟨rfl, hJ3, hk3⟩ | ⟨rfl, hJx3⟩)
      · gi_wp2
        go_roundw
        case rel => exact ⟨k + 1, by omega, by simp, by rw [upto_succ]; exact hJ3, hnx.trans hk3⟩
        case measure => simp [intOf]; omega
      · gi_wp2
        refine bodyPost_ret (results_none rfl _ _ _) rfl ?_
        exact ⟨⟨_, rfl⟩, .inr ⟨_, trivial, hJx3⟩⟩
    · obtain rfl : k = s.size := by omega
      gi_wp2
      go_end0
      exact ⟨⟨_, rfl⟩, .inl ⟨_, rfl, hJs⟩⟩

theorem low32_calls (x : Int) (size : Int) (w : World) : Calls Try.prog 19 #[.int .u32 x, .int .i64 size] w fun e w' => e = .returned (.func (.func 27) #[] #[.pointer (some ⟨w.heap.size + 1, 0, none⟩), .pointer (some ⟨w.heap.size, 0, none⟩)]) ∧ w' = (w.alloc (.cells #[.int .u32 x] 24)).alloc (.cells #[.int .i64 size] 3) :=
  callsIn_wide.1 (low32_in Fence.wide 3 trivial rfl x size w)
theorem low64_calls (x : Int) (size : Int) (w : World) : Calls Try.prog 26 #[.int .u64 x, .int .i64 size] w fun e w' => e = .returned (.func (.func 29) #[] #[.pointer (some ⟨w.heap.size + 1, 0, none⟩), .pointer (some ⟨w.heap.size, 0, none⟩)]) ∧ w' = (w.alloc (.cells #[.int .u64 x] 28)).alloc (.cells #[.int .i64 size] 3) :=
  callsIn_wide.1 (low64_in Fence.wide 3 trivial rfl x size w)
theorem text_calls (s : ByteArray) (w : World) : Calls Try.prog 23 #[.string s] w fun e w' => e = .returned (.func (.func 28) #[] #[.pointer (some ⟨w.heap.size, 0, none⟩)]) ∧ w' = w.alloc (.cells #[.string s] 9) :=
  callsIn_wide.1 (text_in Fence.wide 3 trivial rfl s w)
theorem mix32_low (h fac x : Int) (w : World) : Calls Try.prog 18 #[.int .u32 h, .int .u32 fac, .func (.func 27) #[] #[.pointer (some ⟨w.heap.size + 1, 0, none⟩), .pointer (some ⟨w.heap.size, 0, none⟩)]] ((w.alloc (.cells #[.int .u32 x] 24)).alloc (.cells #[.int .i64 4] 3))
    fun e w' => e = .returned (.int .u32 (mixl32 fac h (upto (lowb32 x) 4))) ∧ Below w.heap.size w w' := by
  have bX := (Boxed.new w 24 (.int .u32 x)).alloc (.cells #[.int .i64 4] 3)
  have bS := Boxed.new (w.alloc (.cells #[.int .u32 x] 24)) 3 (.int .i64 4)
  rw [World.size_alloc] at bS
  have hB : Below w.heap.size w ((w.alloc (.cells #[.int .u32 x] 24)).alloc (.cells #[.int .i64 4] 3)) := ((Below.refl _ w).alloc (Nat.le_refl _) _).alloc (by simp) _
  refine (callsIn_wide.1 (mix32_in Fence.wide 5 trivial rfl (by omega) h fac 27 _ trivial (enters_of Try.func27 (by kernel_rfl) rfl) (upto (lowb32 x) 4) 4 _
    (low32_stops Fence.wide 4 trivial rfl (by omega) (w.heap.size + 1) w.heap.size _ x 4 (by omega) _ (by simp) (by simp; omega) (Nat.le_refl _) bS.cell bX.cell))).mono ?_
  rintro e w' ⟨he, hb⟩
  exact ⟨he, hB.trans (hb.mono hB.size)⟩
theorem mix64_low (h fac x : Int) (w : World) : Calls Try.prog 25 #[.int .u64 h, .int .u64 fac, .func (.func 29) #[] #[.pointer (some ⟨w.heap.size + 1, 0, none⟩), .pointer (some ⟨w.heap.size, 0, none⟩)]] ((w.alloc (.cells #[.int .u64 x] 28)).alloc (.cells #[.int .i64 8] 3))
    fun e w' => e = .returned (.int .u64 (mixl64 fac h (upto (lowb64 x) 8))) ∧ Below w.heap.size w w' := by
  have bX := (Boxed.new w 28 (.int .u64 x)).alloc (.cells #[.int .i64 8] 3)
  have bS := Boxed.new (w.alloc (.cells #[.int .u64 x] 28)) 3 (.int .i64 8)
  rw [World.size_alloc] at bS
  have hB : Below w.heap.size w ((w.alloc (.cells #[.int .u64 x] 28)).alloc (.cells #[.int .i64 8] 3)) := ((Below.refl _ w).alloc (Nat.le_refl _) _).alloc (by simp) _
  refine (callsIn_wide.1 (mix64_in Fence.wide 5 trivial rfl (by omega) h fac 29 _ trivial (enters_of Try.func29 (by kernel_rfl) rfl) (upto (lowb64 x) 8) 8 _
    (low64_stops Fence.wide 4 trivial rfl (by omega) (w.heap.size + 1) w.heap.size _ x 8 (by omega) _ (by simp) (by simp; omega) (Nat.le_refl _) bS.cell bX.cell))).mono ?_
  rintro e w' ⟨he, hb⟩
  exact ⟨he, hB.trans (hb.mono hB.size)⟩
theorem mix32_text (h fac : Int) (s : ByteArray) (hs : s.size ≤ 9223372036854775807) (w : World) : Calls Try.prog 18 #[.int .u32 h, .int .u32 fac, .func (.func 28) #[] #[.pointer (some ⟨w.heap.size, 0, none⟩)]] (w.alloc (.cells #[.string s] 9))
    fun e w' => e = .returned (.int .u32 (mixl32 fac h (upto (byteAt s) s.size))) ∧ Below w.heap.size w w' := by
  have bX := Boxed.new w 9 (.string s)
  have hB : Below w.heap.size w (w.alloc (.cells #[.string s] 9)) := (Below.refl _ w).alloc (Nat.le_refl _) _
  refine (callsIn_wide.1 (mix32_in Fence.wide 5 trivial rfl (by omega) h fac 28 _ trivial (enters_of Try.func28 (by kernel_rfl) rfl) (upto (byteAt s) s.size) s.size _
    (text_stops Fence.wide 4 trivial rfl (by omega) w.heap.size _ s hs _ (by simp) (Nat.le_refl _) bX.cell))).mono ?_
  rintro e w' ⟨he, hb⟩
  exact ⟨he, hB.trans (hb.mono hB.size)⟩
theorem mix64_text (h fac : Int) (s : ByteArray) (hs : s.size ≤ 9223372036854775807) (w : World) : Calls Try.prog 25 #[.int .u64 h, .int .u64 fac, .func (.func 28) #[] #[.pointer (some ⟨w.heap.size, 0, none⟩)]] (w.alloc (.cells #[.string s] 9))
    fun e w' => e = .returned (.int .u64 (mixl64 fac h (upto (byteAt s) s.size))) ∧ Below w.heap.size w w' := by
  have bX := Boxed.new w 9 (.string s)
  have hB : Below w.heap.size w (w.alloc (.cells #[.string s] 9)) := (Below.refl _ w).alloc (Nat.le_refl _) _
  refine (callsIn_wide.1 (mix64_in Fence.wide 5 trivial rfl (by omega) h fac 28 _ trivial (enters_of Try.func28 (by kernel_rfl) rfl) (upto (byteAt s) s.size) s.size _
    (text_stops Fence.wide 4 trivial rfl (by omega) w.heap.size _ s hs _ (by simp) (Nat.le_refl _) bX.cell))).mono ?_
  rintro e w' ⟨he, hb⟩
  exact ⟨he, hB.trans (hb.mono hB.size)⟩

end Go.Proofs.Ythfeigheeloeaaa.Hash
