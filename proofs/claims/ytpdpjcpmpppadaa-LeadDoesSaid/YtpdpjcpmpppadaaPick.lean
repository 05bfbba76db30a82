-- left of the seat's texts by prune.py, a program of this session
import Derived.RangeFuncNested
import Derived.RangeFuncBound
import Derived.RangeFuncCalls
import Derived.RangeFuncLeaves
import Derived.RangeFuncBox
import Derived.Shelf.Abstract
import Derived.Shelf.RegionOpen
import Derived.WalkKit
import Derived.OwnWalkIn
import Derived.TacticsInMore
import Derived.LoopNIn
import Derived.LoopIn
import Derived.Maps.AppendAt
import Derived.Lib.Hide
import Derived.RegionIn
import Derived.Test.YtpdpjcpmpppadaaP1
import Derived.Test.YtpdpjcpmpppadaaP6
namespace Go.Proofs.Ytpdpjcpmpppadaa.P
open Go.RowKit Go.Shelf Go.Proofs Go.Proofs.YtpdpjcpmpppadaaW.PrintWords Go.Proofs.YtpdpjcpmpppadaaW.PrintLast Go.Proofs.YtpdpjcpmpppadaaW.PrintMore
attribute [local go_sem] Oper.semAt_some
set_option linter.unusedVariables false
set_option linter.unusedSimpArgs false
def KeepS (S : Nat → Prop) (W W' : World) : Prop := W.heap.size ≤ W'.heap.size ∧ ∀ k, S k → W'.heap[k]? = W.heap[k]?
theorem KeepS.refl (S : Nat → Prop) (W : World) : KeepS S W W := ⟨Nat.le_refl _, fun _ _ => rfl⟩
theorem KeepS.trans {S : Nat → Prop} {A B C : World} (h : KeepS S A B) (k : KeepS S B C) : KeepS S A C := ⟨Nat.le_trans h.1 k.1, fun i hi => (k.2 i hi).trans (h.2 i hi)⟩
def encP (x : S39) : Array Value := #[.int .i64 x.f0, .int .i64 x.f1, .bool x.f2, .int .i64 x.f3.f0, .int .i64 x.f3.f1, .string x.f4]
def sel (l : List S39) (count : Int) : List S39 := l.filter fun x => x.f1 == count && x.f2
theorem sel_succ (l : List S39) (count : Int) (k : Nat) (h : k < l.length) : sel (l.take (k + 1)) count = sel (l.take k) count ++ (if (rd_T39 l (k : Int)).f1 == count && (rd_T39 l (k : Int)).f2 then [rd_T39 l (k : Int)] else []) := by
  have e : rd_T39 l (k : Int) = l[k] := by simp [rd_T39, h]
  rw [List.take_succ_eq_append_getElem h, e]
  simp only [sel, List.filter_append]
  congr 1
  simp [List.filter_cons]
theorem sel_len (l : List S39) (count : Int) (k : Nat) : (sel (l.take k) count).length ≤ k := by
  refine Nat.le_trans (List.length_filter_le _ _) ?_
  rw [List.length_take]; omega
set_option maxRecDepth 100000 in
set_option maxHeartbeats 4000000 in
theorem values_stops (F : Fence) (n : Nat) (h62 : F.fn 62) (hro : F.round = none) (hn : 1 ≤ n) (B1 B2 : Nat) (A : Option Addr) (c : Nat) (l : List S39) (count : Int) (S : Nat → Prop) (w : World) (hS : ∀ k, S k → k < w.heap.size) (hB1 : S B1) (hB2 : S B2)
    (cs : Array Value) (hcs : cs[3]? = some (.slice A l.length c)) (c1 : w.heap[B1]? = some (.cells cs 37 (0, 0))) (c2 : w.heap[B2]? = some (.cells #[.int .i64 count] 2 (0, 0))) (hC : ∀ W', KeepS S w W' → Kd.C k39 W' A l.length l) (hc : l.length ≤ c) :
    SeqStopsK F n Try.prog 62 #[.pointer (some ⟨B1, 0, none⟩), .pointer (some ⟨B2, 0, none⟩)] (fun x : S39 => #[Value.agg (encP x)]) (KeepS S) (fun ys => ys = sel l count) (fun pre => True) l.length w := fun lp J Jx W hW hJ _ hY h0 => by
  have hWS : KeepS S w W := ⟨hW.size, fun k hk => hW.block k (hS k hk)⟩
  have c1' : W.cell? ⟨B1, 3, none⟩ = some (.slice A l.length c) := (blk_cell ((hWS.2 B1 hB1).trans c1) 3).trans hcs
  have hC2 : ∀ W', KeepS S w W' → W'.cell? ⟨B2, 0, none⟩ = some (.int .i64 count) := fun W' h => by have := blk_cell ((h.2 B2 hB2).trans c2) 0; simpa using this
  have HF := Aside0.mk hC
  have HC2 := Aside0.mk hC2
  have HJ := Aside0.mk hJ
  have hm := Kd.C_max (hC W hWS)
  have hu39 := Try.underlying39
  have hu37 := Try.underlying37
  clear c1 c2 hC hcs hC2 hJ
  refine callsIn_of_wp Try.func62 rfl h62 ?_ hro
  simp only [Try.ntmps62, List.size_toArray, List.length_cons, List.length_nil, Nat.reduceAdd, Nat.reduceSub, Array.replicate_succ, Array.replicate_zero, List.push_toArray, List.append_toArray, List.nil_append, List.cons_append]
  gi_wp2
  gi_loopw [9] (fun i wr => ∃ k : Nat, k ≤ l.length ∧ i = .int .i64 k ∧ J (sel (l.take k) count) wr ∧ KeepS S W wr)
    (fun i _ => l.length - (intOf i).toNat)
  case atStart => exact ⟨0, Nat.zero_le _, rfl, h0, KeepS.refl _ _⟩
  case round =>
    obtain ⟨k, hk, rfl, hJs, hnx⟩ := hrel
    by_cases hlt : k < l.length
    · obtain ⟨ad, e0, x0, x1, x2, x3, x4, x5⟩ := at_T39 (HF.out wr (hWS.trans hnx)) (k : Int) (by omega) (by omega)
      cases e0
      simp only [Int.toNat_natCast] at x0 x1 x2 x3 x4 x5
      obtain ⟨⟨p0, p1, p2, ⟨p3, p4⟩, p5⟩, hx⟩ : ∃ x, rd_T39 l (k : Int) = x := ⟨_, rfl⟩
      rw [hx] at x0 x1 x2 x3 x4 x5
      have hsu := sel_succ l count k hlt
      rw [hx] at hsu
      have hsl := sel_len l count k
      have hsz : ∀ q, S q → q < wr.heap.size := fun q hq => Nat.lt_of_lt_of_le (hS q hq) (Nat.le_trans hW.size hnx.1)
      have hka : KeepS S wr (wr.alloc (Obj.cells #[.int .i64 p0, .int .i64 p1, .bool p2, .int .i64 p3, .int .i64 p4, .string p5] 39)) := ⟨by simp, fun q hq => Below.heap_alloc _ _ _ (hsz q hq)⟩
      have hcc := HC2.out _ (hWS.trans (hnx.trans hka))
      have hJ1 : J (sel (l.take k) count) (wr.alloc (Obj.cells #[.int .i64 p0, .int .i64 p1, .bool p2, .int .i64 p3, .int .i64 p4, .string p5] 39)) := HJ.out _ _ _ none hJs (World.grownBy_alloc _ _ _) (fun r e => by cases e)
      clear hx
      by_cases h1 : p1 = count
      · subst h1
        cases p2 with
        | true =>
          simp only [beq_self_eq_true, Bool.and_self, if_true] at hsu
          obtain ⟨fn, tmps, assign, body, hy, hR⟩ := hY (sel (l.take k) p1) ⟨p0, p1, true, ⟨p3, p4⟩, p5⟩ _ hJ1 (by omega)
          rw [← hsu] at hR
          simp only [encP] at hy
          have HSU := Lib.hid hsu
          clear hsu hsl
          gi_wp2
          refine hR.mono ?_
          rintro e W3 (⟨rfl, hJ3, hk3⟩ | ⟨rfl, hJx3⟩)
          · gi_wp2
            go_roundw
            case rel => exact ⟨k + 1, by omega, by simp, hJ3, hnx.trans (hka.trans hk3)⟩
            case measure => simp [intOf]; omega
          · gi_wp2
            refine bodyPost_ret (results_none rfl _ _ _) rfl ?_
            exact ⟨⟨_, rfl⟩, .inr ⟨_, trivial, hJx3⟩⟩
        | false =>
          simp only [Bool.and_false, Bool.false_eq_true, if_false, List.append_nil] at hsu
          rw [← hsu] at hJ1
          have HSU := Lib.hid hsu
          clear hsu hsl
          gi_wp2
          refine ⟨fun f hf => by (cases hf), ?_⟩
          gi_wp2
          go_roundw
          case rel => exact ⟨k + 1, by omega, by simp, hJ1, hnx.trans hka⟩
          case measure => simp [intOf]; omega
      · have h1b : (p1 == count) = false := beq_eq_false_iff_ne.mpr h1
        have h1c : decide (p1 = count) = false := decide_eq_false h1
        simp only [h1b, Bool.false_and, Bool.false_eq_true, if_false, List.append_nil] at hsu
        rw [← hsu] at hJ1
        have HSU := Lib.hid hsu
        clear hsu hsl
        gi_wp2
        refine ⟨fun f hf => by (cases hf), ?_⟩
        gi_wp2
        go_roundw
        case rel => exact ⟨k + 1, by omega, by simp, hJ1, hnx.trans hka⟩
        case measure => simp [intOf]; omega
    · obtain rfl : k = l.length := by omega
      rw [List.take_length] at hJs
      gi_wp2
      go_end0
      exact ⟨⟨_, rfl⟩, .inl ⟨_, rfl, hJs⟩⟩
theorem heap_k39 : Kd.Heap k39 := Kd.heap_iso _ (Kd.heap_pair (Kd.heap_int _) (Kd.heap_pair (Kd.heap_int _) (Kd.heap_pair Kd.heap_bool (Kd.heap_pair (Kd.heap_iso _ (Kd.heap_pair (Kd.heap_int _) (Kd.heap_int _))) Kd.heap_string))))
set_option maxHeartbeats 1000000 in
theorem values_in (F : Fence) (n : Nat) (h46 : F.fn 46) (hro : F.round = none) (cs : Array Value) (hcs : cs.size = 7) (count : Int) (w : World) :
    CallsIn F n Try.prog 46 #[.agg cs, .int .i64 count] w fun e w' => e = .returned (.func (.func 62) #[] #[.pointer (some ⟨w.heap.size, 0, none⟩), .pointer (some ⟨w.heap.size + 1, 0, none⟩)]) ∧ w' = (w.alloc (.cells cs 37)).alloc (.cells #[.int .i64 count] 2) := by
  refine callsIn_of_wp Try.func46 rfl h46 ?_ hro
  simp only [Try.ntmps46, List.size_toArray, List.length_cons, List.length_nil, Nat.reduceAdd, Nat.reduceSub, Array.replicate_succ, Array.replicate_zero, List.push_toArray, List.append_toArray, List.nil_append, List.cons_append]
  gi_wp2
  go_ret
  exact ⟨rfl, rfl⟩
theorem grown_refl (W : World) (r : Option Nat) : W.grownBy W r := ⟨rfl, rfl, rfl, Nat.le_refl _, fun _ _ _ => rfl⟩
theorem grown_row {W W1 : World} {b o : Nat} (h : W.grownBy W1 (some b)) (v : Value) : W.grownBy (W1.setCell ⟨b, o, none⟩ v) (some b) := by
  obtain ⟨h1, h2, h3, h4, h5⟩ := h
  exact ⟨h1, h2, h3, by rw [World.size_setCell]; exact h4, fun k hk hn => (Below.heap_setCell _ _ _ k (by show k ≠ b; intro e; exact hn (by rw [e]))).trans (h5 k hk hn)⟩
theorem ownFrom_size {β : Type} (B m : Nat) : OwnFrom B (fun (_ : β) W => m ≤ W.heap.size) := fun s W W' row hs hg _ => Nat.le_trans hs hg.size
theorem keeps_below {B : Nat} {W W' : World} (hb : Below W.heap.size W W') : KeepsFrom B W W' := ⟨hb.size, fun k o _ ho _ => (hb.block k (blk_lt ho)).trans ho⟩
def laterB (a b : S23) : Bool := (accept_Later.f a.f0 a.f1 b.f0 b.f1).getD false
theorem laterB_some (a b : S23) : accept_Later.f a.f0 a.f1 b.f0 b.f1 = some (laterB a b) := by
  unfold laterB accept_Later.f; repeat' split
  all_goals rfl
def better (b x : S39) : S39 := if !b.f2 || laterB x.f3 b.f3 then x else b
def bestOf (l : List S39) : S39 := l.foldl better z39
theorem bestOf_snoc (l : List S39) (x : S39) : bestOf (l ++ [x]) = better (bestOf l) x := by simp [bestOf]
theorem cells_own' {β : Type} (B : Nat) (t : TypeId) (cs : β → Array Value) : Own (fun (s : β) W => W.heap[B]? = some (.cells (cs s) t (0, 0))) := fun s X Y row hs hg hrow => by
  refine (hg.block B (blk_lt hs) (fun e => ?_)).trans hs
  obtain ⟨o, ho, hc⟩ := hrow B e.symm
  rw [hs] at ho; cases ho; cases hc
set_option maxHeartbeats 8000000 in
set_option maxRecDepth 100000 in
theorem pick_in (F : Fence) (n : Nat) (h24 : F.fn 24) (h47 : F.fn 47) (h46 : F.fn 46) (h62 : F.fn 62) (hro : F.round = none) (hn : 5 ≤ n)
    (hL : ∀ (lp : Nat) (a b : S23) (w : World), CallsIn (F.inRound lp) (n - 1 - 1 - 1) Try.prog 47 #[.agg #[.int .i64 a.f0, .int .i64 a.f1], .agg #[.int .i64 b.f0, .int .i64 b.f1]] w fun e w' => e = .returned (.bool (laterB a b)) ∧ Below w.heap.size w w')
    (a0_0 : Int) (a0_1 : Int) (a0_2 : Int) (A : Option Addr) (c : Nat) (l : List S39) (a0_4 : Bool) (a0_5 : ByteArray) (v6 : Value) (count : Int) (w : World) (hr : Kd.C k39 w A l.length l) (hc : l.length ≤ c) :
    CallsIn F n Try.prog 24 #[.agg #[.int .i64 a0_0, .int .i64 a0_1, .int .i64 a0_2, .slice A l.length c, .bool a0_4, .string a0_5, v6], .int .i64 count] w fun e w' => e = .returned (.tuple #[.string (bestOf (sel l count)).f4, .bool (bestOf (sel l count)).f2]) ∧ Below w.heap.size w w' := by
  have HR := Aside0.mk hr
  clear hr
  have hu37 := Try.underlying37
  have hu39 := Try.underlying39
  have h1 : 1 ≤ n := by omega
  refine callsIn_of_wp_marks Try.func24 rfl h24 ?_ hro
  simp only [Try.ntmps24, List.size_toArray, List.length_cons, List.length_nil, Nat.reduceAdd, Nat.reduceSub, Array.replicate_succ, Array.replicate_zero, List.push_toArray, List.append_toArray, List.nil_append, List.cons_append]
  gi_wp2_with (gi_at_call 46; refine (values_in F (n - 1) h46 hro #[.int .i64 a0_0, .int .i64 a0_1, .int .i64 a0_2, .slice A l.length c, .bool a0_4, .string a0_5, v6] rfl count _).mono ?_; rintro e w' ⟨rfl, rfl⟩)
  obtain ⟨W0, hW0⟩ : ∃ W0, ((((w.alloc (Obj.cells #[.int .i64 a0_0, .int .i64 a0_1, .int .i64 a0_2, .slice A l.length c, .bool a0_4, .string a0_5, v6] 37)).alloc (Obj.cells #[.int .i64 0, .int .i64 0, .bool false, .int .i64 0, .int .i64 0, .string ⟨#[]⟩] 39)).alloc (Obj.cells #[.int .i64 a0_0, .int .i64 a0_1, .int .i64 a0_2, .slice A l.length c, .bool a0_4, .string a0_5, v6] 37)).alloc (Obj.cells #[Value.int IntKind.i64 count] 2)) = W0 := ⟨_, rfl⟩
  have hz0 : W0.heap.size = w.heap.size + 4 := by rw [← hW0]; simp
  have hb0 : Below w.heap.size w W0 := by rw [← hW0]; repeat (first | exact Below.refl _ _ | apply below_alloc)
  have k6 : W0.heap[w.heap.size + 1]? = some (.cells (encP (bestOf [])) 39 (0, 0)) := by
    rw [← hW0]; have := blk_alloc (blk_alloc (blk_new (w.alloc (Obj.cells #[.int .i64 a0_0, .int .i64 a0_1, .int .i64 a0_2, .slice A l.length c, .bool a0_4, .string a0_5, v6] 37)) (Obj.cells #[.int .i64 0, .int .i64 0, .bool false, .int .i64 0, .int .i64 0, .string ⟨#[]⟩] 39)) (Obj.cells #[.int .i64 a0_0, .int .i64 a0_1, .int .i64 a0_2, .slice A l.length c, .bool a0_4, .string a0_5, v6] 37)) (Obj.cells #[Value.int IntKind.i64 count] 2); rw [World.size_alloc] at this; exact this
  have k1 : W0.heap[w.heap.size + 1 + 1]? = some (.cells #[.int .i64 a0_0, .int .i64 a0_1, .int .i64 a0_2, .slice A l.length c, .bool a0_4, .string a0_5, v6] 37 (0, 0)) := by
    rw [← hW0]; have := blk_alloc (blk_new ((w.alloc (Obj.cells #[.int .i64 a0_0, .int .i64 a0_1, .int .i64 a0_2, .slice A l.length c, .bool a0_4, .string a0_5, v6] 37)).alloc (Obj.cells #[.int .i64 0, .int .i64 0, .bool false, .int .i64 0, .int .i64 0, .string ⟨#[]⟩] 39)) (Obj.cells #[.int .i64 a0_0, .int .i64 a0_1, .int .i64 a0_2, .slice A l.length c, .bool a0_4, .string a0_5, v6] 37)) (Obj.cells #[Value.int IntKind.i64 count] 2); simp only [World.size_alloc] at this; exact this
  have k2 : W0.heap[w.heap.size + 1 + 1 + 1]? = some (.cells #[.int .i64 count] 2 (0, 0)) := by
    rw [← hW0]; have := blk_new (((w.alloc (Obj.cells #[.int .i64 a0_0, .int .i64 a0_1, .int .i64 a0_2, .slice A l.length c, .bool a0_4, .string a0_5, v6] 37)).alloc (Obj.cells #[.int .i64 0, .int .i64 0, .bool false, .int .i64 0, .int .i64 0, .string ⟨#[]⟩] 39)).alloc (Obj.cells #[.int .i64 a0_0, .int .i64 a0_1, .int .i64 a0_2, .slice A l.length c, .bool a0_4, .string a0_5, v6] 37)) (Obj.cells #[Value.int IntKind.i64 count] 2); simp only [World.size_alloc] at this; exact this
  rw [hW0]
  have hCF : ∀ W', KeepS (fun k => k < w.heap.size ∨ k = w.heap.size + 1 + 1 ∨ k = w.heap.size + 1 + 1 + 1) W0 W' → Kd.C k39 W' A l.length l := fun W' hk => Kd.C_F heap_k39 HR.out W' (fun k hk1 _ => (hk.2 k (.inl hk1)).trans (hb0.block k hk1))
  clear hW0
  refine wpIn_rangeFunc_ownH hro h1 (gf := 62) (lb := #[.pointer (some ⟨w.heap.size + 1 + 1, 0, none⟩), .pointer (some ⟨w.heap.size + 1 + 1 + 1, 0, none⟩)]) rfl h62 (enters_of Try.func62 (by kernel_rfl) rfl)
    (values_stops F (n - 1) h62 hro (by omega) _ _ A c l count _ W0 (fun k hk => by rcases hk with hk | hk | hk <;> omega) (.inr (.inl rfl)) (.inr (.inr rfl)) _ rfl k1 k2 hCF hc) KeepS.trans (fun W lo o o' hlo _ _ _ => ⟨by simp [World.putObj], fun k hk => World.putObj_heap_other (by rcases hk with hk | hk | hk <;> omega)⟩) (Below.refl _ _) (fun _ => rfl)
    (fun (pre : List S39) W => W.heap[w.heap.size + 1]? = some (.cells (encP (bestOf pre)) 39 (0, 0)) ∧ w.heap.size + 4 ≤ W.heap.size ∧ Below w.heap.size w W)
    (fun cd (pre : List S39) W => False)
    ?hI ?hIx ?h0
    (fun x a' W => ∃ g, a' = { tmps := #[.agg #[.int .i64 a0_0, .int .i64 a0_1, .int .i64 a0_2, .slice A l.length c, .bool a0_4, .string a0_5, v6], .int .i64 count, .pointer (some ⟨w.heap.size, 0, none⟩), undef, .string ⟨#[]⟩, .bool false, .pointer (some ⟨w.heap.size + 1, 0, none⟩), .pointer (some ⟨g, 0, none⟩), .agg #[.int .i64 a0_0, .int .i64 a0_1, .int .i64 a0_2, .slice A l.length c, .bool a0_4, .string a0_5, v6], .int .i64 count, .func (.func 62) #[] #[.pointer (some ⟨w.heap.size + 1 + 1, 0, none⟩), .pointer (some ⟨w.heap.size + 1 + 1 + 1, 0, none⟩)], .agg (encP x), undef, undef, undef, undef, undef, undef, undef, undef, undef, undef, undef, undef, undef, undef, undef], defers := [] } ∧ W.heap[g]? = some (.cells (encP x) 39 (0, 0)) ∧ w.heap.size + 1 < g) ?hAx ?assign ?body ?done ?stop
  case hI => exact OwnFrom.and (Own.from (cells_own' _ _ (fun pre => encP (bestOf pre))) _) (OwnFrom.and (ownFrom_size _ _) (ownFrom_below (Nat.le_refl _) (by omega)))
  case hIx => exact fun _ _ _ _ _ hs _ _ => hs
  case h0 => exact ⟨k6, by omega, hb0⟩
  case hAx =>
    rintro x a' s X Y row ⟨g, e, hg, hlt⟩ hgr hrow
    refine ⟨g, e, (hgr.block g (blk_lt hg) (fun e => ?_)).trans hg, hlt⟩
    obtain ⟨_, o, ho, hc⟩ := hrow g e.symm
    rw [hg] at ho; cases ho; cases hc
  case assign =>
    rintro lp pre ⟨p0, p1, p2, ⟨p3, p4⟩, p5⟩ W K ⟨hbox, hsz, hB⟩ hK
    have hWs : w.heap.size + 1 < W.heap.size := blk_lt hbox
    have hfin := hK _ _ (KeepsFrom.of_grownBy (World.grownBy_alloc W (Obj.cells #[.int .i64 p0, .int .i64 p1, .bool p2, .int .i64 p3, .int .i64 p4, .string p5] 39) none) (by simp)) ⟨by simp, fun q hq => Below.heap_alloc _ _ _ (by rcases hq with hq | hq | hq <;> omega)⟩ ⟨blk_alloc hbox _, by simp; omega, below_alloc hB _⟩ ⟨W.heap.size, rfl, blk_new W _, hWs⟩
    simp only [encP] at hfin ⊢
    gi_wp2
    exact hfin
  case body =>
    rintro lp pre ⟨p0, p1, p2, ⟨p3, p4⟩, p5⟩ a' W hlp hrr ⟨hbox, hsz, hB⟩ ⟨g, rfl, hg, hgl⟩ hlt
    have h47' : (F.inRound lp).fn 47 := h47
    have hn3 : 1 ≤ n - 1 - 1 := by omega
    obtain ⟨⟨q0, q1, q2, ⟨q3, q4⟩, q5⟩, hq⟩ : ∃ q, bestOf pre = q := ⟨_, rfl⟩
    rw [hq] at hbox
    have hbs := bestOf_snoc pre ⟨p0, p1, p2, ⟨p3, p4⟩, p5⟩
    rw [hq] at hbs
    simp only [encP] at hbox hg
    have taken : ∀ W_ : World, KeepsFrom W0.heap.size W W_ → KeepS (fun k => k < w.heap.size ∨ k = w.heap.size + 1 + 1 ∨ k = w.heap.size + 1 + 1 + 1) W W_ → W_.heap[w.heap.size + 1]? = some (.cells #[.int .i64 q0, .int .i64 q1, .bool q2, .int .i64 q3, .int .i64 q4, .string q5] 39 (0, 0)) → w.heap.size + 4 ≤ W_.heap.size → Below w.heap.size w W_ →
        bestOf (pre ++ [⟨p0, p1, p2, ⟨p3, p4⟩, p5⟩]) = ⟨p0, p1, p2, ⟨p3, p4⟩, p5⟩ →
        KeepsFrom W0.heap.size W ((((((W_.setCell ⟨w.heap.size + 1, 0, none⟩ (.int .i64 p0)).setCell ⟨w.heap.size + 1, 1, none⟩ (.int .i64 p1)).setCell ⟨w.heap.size + 1, 2, none⟩ (.bool p2)).setCell ⟨w.heap.size + 1, 3, none⟩ (.int .i64 p3)).setCell ⟨w.heap.size + 1, 4, none⟩ (.int .i64 p4)).setCell ⟨w.heap.size + 1, 5, none⟩ (.string p5)) ∧ KeepS (fun k => k < w.heap.size ∨ k = w.heap.size + 1 + 1 ∨ k = w.heap.size + 1 + 1 + 1) W ((((((W_.setCell ⟨w.heap.size + 1, 0, none⟩ (.int .i64 p0)).setCell ⟨w.heap.size + 1, 1, none⟩ (.int .i64 p1)).setCell ⟨w.heap.size + 1, 2, none⟩ (.bool p2)).setCell ⟨w.heap.size + 1, 3, none⟩ (.int .i64 p3)).setCell ⟨w.heap.size + 1, 4, none⟩ (.int .i64 p4)).setCell ⟨w.heap.size + 1, 5, none⟩ (.string p5)) ∧ ((((((W_.setCell ⟨w.heap.size + 1, 0, none⟩ (.int .i64 p0)).setCell ⟨w.heap.size + 1, 1, none⟩ (.int .i64 p1)).setCell ⟨w.heap.size + 1, 2, none⟩ (.bool p2)).setCell ⟨w.heap.size + 1, 3, none⟩ (.int .i64 p3)).setCell ⟨w.heap.size + 1, 4, none⟩ (.int .i64 p4)).setCell ⟨w.heap.size + 1, 5, none⟩ (.string p5)).heap[w.heap.size + 1]? = some (.cells (encP (bestOf (pre ++ [⟨p0, p1, p2, ⟨p3, p4⟩, p5⟩]))) 39 (0, 0)) ∧ w.heap.size + 4 ≤ ((((((W_.setCell ⟨w.heap.size + 1, 0, none⟩ (.int .i64 p0)).setCell ⟨w.heap.size + 1, 1, none⟩ (.int .i64 p1)).setCell ⟨w.heap.size + 1, 2, none⟩ (.bool p2)).setCell ⟨w.heap.size + 1, 3, none⟩ (.int .i64 p3)).setCell ⟨w.heap.size + 1, 4, none⟩ (.int .i64 p4)).setCell ⟨w.heap.size + 1, 5, none⟩ (.string p5)).heap.size ∧ Below w.heap.size w ((((((W_.setCell ⟨w.heap.size + 1, 0, none⟩ (.int .i64 p0)).setCell ⟨w.heap.size + 1, 1, none⟩ (.int .i64 p1)).setCell ⟨w.heap.size + 1, 2, none⟩ (.bool p2)).setCell ⟨w.heap.size + 1, 3, none⟩ (.int .i64 p3)).setCell ⟨w.heap.size + 1, 4, none⟩ (.int .i64 p4)).setCell ⟨w.heap.size + 1, 5, none⟩ (.string p5)) := by
      intro W_ h1 h2 h3 h4 h5 h6
      have G := grown_row (o := 5) (grown_row (o := 4) (grown_row (o := 3) (grown_row (o := 2) (grown_row (o := 1) (grown_row (o := 0) (grown_refl W_ (some (w.heap.size + 1))) (.int .i64 p0)) (.int .i64 p1)) (.bool p2)) (.int .i64 p3)) (.int .i64 p4)) (.string p5)
      have hs := blk_set (blk_set (blk_set (blk_set (blk_set (blk_set h3 0 (.int .i64 p0)) 1 (.int .i64 p1)) 2 (.bool p2)) 3 (.int .i64 p3)) 4 (.int .i64 p4)) 5 (.string p5)
      simp only [List.setIfInBounds_toArray, List.set_cons_zero, List.set_cons_succ] at hs
      have hg1 : w.heap.size ≤ w.heap.size + 1 := by omega
      refine ⟨h1.trans (KeepsFrom.of_grownBy G (fun j e => by cases e; omega)), h2.trans ⟨G.size, fun q hq => G.block q (by rcases hq with hq | hq | hq <;> omega) (by intro e; cases e; rcases hq with hq | hq | hq <;> omega)⟩, ?_, Nat.le_trans h4 G.size, (((((h5.setCell hg1 _).setCell hg1 _).setCell hg1 _).setCell hg1 _).setCell hg1 _).setCell hg1 _⟩
      rw [h6]; exact hs
    obtain ⟨c0, c1, c2, c3, c4, c5⟩ := blkC6 W (w.heap.size + 1) _ _ _ _ _ _ hbox
    obtain ⟨f0, f1, f2, f3, f4, f5⟩ := blkF6 hbox
    obtain ⟨d0, d1, d2, d3, d4, d5⟩ := blkC6 W g _ _ _ _ _ _ hg
    cases q2 with
    | false =>
      have hfin := taken W (KeepsFrom.refl _ _) (KeepS.refl _ _) hbox hsz hB (by rw [hbs]; rfl)
      have HT := Aside0.mk hfin
      clear taken hfin hbs
      gi_wp2
      exact HT.out
    | true =>
      have hL' := hL lp ⟨p3, p4⟩ ⟨q3, q4⟩
      cases hlb : laterB ⟨p3, p4⟩ ⟨q3, q4⟩ with
      | true =>
        rw [hlb] at hL'
        have hbx : bestOf (pre ++ [⟨p0, p1, p2, ⟨p3, p4⟩, p5⟩]) = ⟨p0, p1, p2, ⟨p3, p4⟩, p5⟩ := by rw [hbs]; simp [better, hlb]
        have HT := Aside0.mk taken
        have HB := Lib.hid hbx
        clear taken hbs hbx
        gi_wp2_with (gi_at_call 47; refine (hL' _).mono ?_; rintro e w' ⟨rfl, hb⟩; have hbox2 := blk_below hbox hb; have hg2 := blk_below hg hb; obtain ⟨c0, c1, c2, c3, c4, c5⟩ := blkC6 w' (w.heap.size + 1) _ _ _ _ _ _ hbox2; obtain ⟨f0, f1, f2, f3, f4, f5⟩ := blkF6 hbox2; obtain ⟨d0, d1, d2, d3, d4, d5⟩ := blkC6 w' g _ _ _ _ _ _ hg2)
        exact HT.out w' (keeps_below hb) ⟨hb.size, fun q hq => hb.block q (by rcases hq with hq | hq | hq <;> omega)⟩ hbox2 (Nat.le_trans hsz hb.size) (hB.trans (hb.mono hB.size)) HB.out
      | false =>
        rw [hlb] at hL'
        have hbx : bestOf (pre ++ [⟨p0, p1, p2, ⟨p3, p4⟩, p5⟩]) = ⟨q0, q1, true, ⟨q3, q4⟩, q5⟩ := by rw [hbs]; simp [better, hlb]
        have HB := Lib.hid hbx
        clear taken hbs hbx
        gi_wp2_with (gi_at_call 47; refine (hL' _).mono ?_; rintro e w' ⟨rfl, hb⟩; have hbox2 := blk_below hbox hb)
        exact ⟨keeps_below hb, ⟨hb.size, fun q hq => hb.block q (by rcases hq with hq | hq | hq <;> omega)⟩, by rw [HB.out]; exact hbox2, Nat.le_trans hsz hb.size, hB.trans (hb.mono hB.size)⟩
  case done =>
    rintro D zs W hD rfl ⟨hbox, hsz, hB⟩ hK
    obtain ⟨⟨q0, q1, q2, ⟨q3, q4⟩, q5⟩, hq⟩ : ∃ q, bestOf (sel l count) = q := ⟨_, rfl⟩
    rw [hq] at hbox
    have HQ := Lib.hid hq
    clear hq
    simp only [encP] at hbox
    obtain ⟨c0, c1, c2, c3, c4, c5⟩ := blkC6 W (w.heap.size + 1) _ _ _ _ _ _ hbox
    have hKd : W.drew.heap[D]? = some (.deferred (some [])) := hK
    have HBD : Below w.heap.size w W.drew := hB.trans (below_drew (Below.refl _ _))
    gi_wp2
    gi_region
    all_goals gi_wp2
    all_goals refine ⟨by simp, .inl ⟨_, _, rfl, run_takeDeferred hKd, ?_⟩⟩
    all_goals rw [HQ.out]
    all_goals exact ⟨_, results_tmp2 rfl _ _ _, rfl, HBD.trans (belowK_b (w := w) (Nat.le_refl _) W.drew D _ _ (by omega) hKd rfl rfl)⟩
  case stop => rintro D cd pre W hD _ h _; exact h.elim
def lead_Pick.f (a0_0 : Int) (a0_1 : Int) (a0_2 : Int) (l0_3 : List (S39)) (a0_4 : Bool) (a0_5 : ByteArray) (l0_6 : List Int) (a1 : Int) : Option (ByteArray × Bool) := some ((bestOf (sel l0_3 a1)).f4, (bestOf (sel l0_3 a1)).f2)
theorem lead_Pick.calls (a0_0 : Int) (a0_1 : Int) (a0_2 : Int) (A0_3 : Option Addr) (c0_3 : Nat) (l0_3 : List (S39)) (a0_4 : Bool) (a0_5 : ByteArray) (A0_6 : Option Addr) (c0_6 : Nat) (l0_6 : List Int) (a1 : Int) (r1 : ByteArray) (r2 : Bool) (w : World) (hr0_3 : Kd.C k39 w A0_3 l0_3.length l0_3) (hc0_3 : l0_3.length ≤ c0_3) (hr0_6 : Kd.C (Kd.int .i64) w A0_6 l0_6.length l0_6) (hc0_6 : l0_6.length ≤ c0_6) (h : lead_Pick.f a0_0 a0_1 a0_2 l0_3 a0_4 a0_5 l0_6 a1 = some (r1, r2)) :
    Calls Try.prog 24 #[.agg #[.int .i64 a0_0, .int .i64 a0_1, .int .i64 a0_2, .slice A0_3 l0_3.length c0_3, .bool a0_4, .string a0_5, .slice A0_6 l0_6.length c0_6], .int .i64 a1] w fun e w' => e = .returned (.tuple #[.string r1, .bool r2]) ∧ Below w.heap.size w w' := by
  unfold lead_Pick.f at h
  simp only [Option.some.injEq, Prod.mk.injEq] at h
  obtain ⟨rfl, rfl⟩ := h
  exact callsIn_wide.1 (pick_in Fence.wide 9 trivial trivial trivial trivial rfl (by omega) (fun lp a b w => CallsIn.inRound lp (callsIn_wide.2 (accept_Later.calls a.f0 a.f1 b.f0 b.f1 _ w (laterB_some a b)))) _ _ _ _ _ _ _ _ _ _ _ hr0_3 hc0_3)
end Go.Proofs.Ytpdpjcpmpppadaa.P
