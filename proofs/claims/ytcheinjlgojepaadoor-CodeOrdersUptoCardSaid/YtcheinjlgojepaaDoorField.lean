-- left of the seat's texts by prune.py, a program of this session
import Derived.Test.YtcheinjlgojepaaDoorP19
import Derived.TacticsInMore
import Derived.LoopNIn
import Derived.LoopIn
import Derived.Maps.AppendAt
import Derived.Lib.Hide
import Derived.Test.YtcheinjlgojepaaDoorRangeD
namespace Go.Proofs.YtcheinjlgojepaaDoor.P
open Go.RowKit Go.Proofs.YtcheinjlgojepaaDoorW.PrintWords Go.Proofs.YtcheinjlgojepaaDoorW.PrintLast Go.Proofs.YtcheinjlgojepaaDoorW.PrintMore
set_option linter.unusedVariables false
set_option linter.unusedSimpArgs false
def code_cursor_field.f (k : Nat) (b : List Int) (at_ : Int) (kind : Int) : Option (S29 × Int × Int) :=
  if kind = 1 then (code_cursor_number.f k b at_ 9223372036854775807).bind fun t => some ((⟨1, wrap64 t.1, ⟨#[]⟩, false⟩ : S29), t.2.1, t.2.2) else none
set_option maxHeartbeats 4000000 in
set_option maxRecDepth 100000 in
theorem code_cursor_field.calls (k g : Nat) (b : List Int) (at_ kind : Int) (f : S29) (e0 at1 : Int) (w0 w : World) (hI : IsS60 w0 w g b at_) (hB : Below w0.heap.size w0 w) (h : code_cursor_field.f k b at_ kind = some (f, e0, at1)) :
    Calls Tryd.prog 48 #[.pointer (some ⟨g, 0, none⟩), .int .i64 kind] w fun e w' => e = .returned (.tuple #[.agg #[.int .i64 f.f0, .int .i64 f.f1, .string f.f2, .bool f.f3], .int .i64 e0]) ∧ IsS60 w0 w' g b at1 ∧ Below w0.heap.size w0 w' ∧ KeepBut w w' g none := by
  unfold code_cursor_field.f at h
  by_cases hk : kind = 1
  · rw [if_pos hk] at h
    subst hk
    obtain ⟨⟨x, e1, a1⟩, hn, h⟩ := Option.bind_eq_some_iff.mp h
    simp only [Option.some.injEq, Prod.mk.injEq] at h
    obtain ⟨rfl, rfl, rfl⟩ := h
    have HN := Aside0.mk hn
    have HI := Aside0.mk hI
    have HB := Aside0.mk hB
    clear hn hI hB
    have hu29 := Tryd.underlying29
    go_enter Tryd.func48, Tryd.ntmps48
    go_upto_region 5 with (fail)
    have hgl : g < w.heap.size := HI.out.lt
    obtain ⟨gr, hgr⟩ : ∃ gr, w.heap.size = gr := ⟨_, rfl⟩
    obtain ⟨gf, hgf⟩ : ∃ gf, w.heap.size + 1 = gf := ⟨_, rfl⟩
    obtain ⟨V, hV⟩ : ∃ V, ((w.alloc (Obj.cells #[.int .i64 0, .int .i64 0, .string ⟨#[]⟩, .bool false] 29)).alloc (Obj.cells #[.int .i64 1, .int .i64 0, .string ⟨#[]⟩, .bool false] 29)) = V := ⟨_, rfl⟩
    have VB : Below w.heap.size w V := by rw [← hV]; repeat (first | exact Below.refl _ _ | apply below_alloc)
    have bR : V.heap[gr]? = some (.cells #[.int .i64 0, .int .i64 0, .string ⟨#[]⟩, .bool false] 29 (0, 0)) := by rw [← hV, ← hgr]; exact blk_alloc (blk_new w _) _
    have bF : V.heap[gf]? = some (.cells #[.int .i64 1, .int .i64 0, .string ⟨#[]⟩, .bool false] 29 (0, 0)) := by
      have := blk_new (w.alloc (Obj.cells #[.int .i64 0, .int .i64 0, .string ⟨#[]⟩, .bool false] 29)) (Obj.cells #[.int .i64 1, .int .i64 0, .string ⟨#[]⟩, .bool false] 29)
      rw [World.size_alloc] at this
      rw [← hV, ← hgf]; exact this
    have HV : Aside0 (IsS60 w0 V g b at_) := ⟨HI.out.below VB⟩
    have HBV : Aside0 (Below w0.heap.size w0 V) := ⟨below_step HB.out VB⟩
    rw [hV, hgf, hgr]
    have ng1 : gr ≠ g := by omega
    have ng2 : gf ≠ g := by omega
    have ng3 : gr ≠ gf := by omega
    have BR := Aside0.mk bR
    have BF := Aside0.mk bF
    have VB := Aside0.mk VB
    clear hV bR bF
    go_upto_region 6 with (go_at_call 57; refine (code_cursor_number.calls k g b at_ 9223372036854775807 x e1 a1 w0 V HV.out HBV.out HN.out).mono ?_; rintro e w1 ⟨rfl, hi1, hb1, hk1⟩; have HI1 := Aside0.mk hi1; have HB1 := Aside0.mk hb1; have BR1 := Aside0.mk ((hk1.2 gr (blk_lt BR.out) ng1 (by simp)).trans BR.out); have BF1 := Aside0.mk ((hk1.2 gf (blk_lt BF.out) ng2 (by simp)).trans BF.out); have HK1 := Aside0.mk hk1; clear hi1 hb1 hk1)
    obtain ⟨c0, c1, c2, c3⟩ := blkC4 w1 gf _ _ _ _ BF1.out
    obtain ⟨d0, d1, d2, d3⟩ := blkF4 BF1.out
    obtain ⟨p0, p1, p2, p3⟩ := blkC4 w1 gr _ _ _ _ BR1.out
    obtain ⟨q0, q1, q2, q3⟩ := blkF4 BR1.out
    have ng4 : gf ≠ gr := fun e => ng3 e.symm
    go_wp2
    refine bodyPost_ret (results_ct rfl _ _ gr 29 #[.int .i64 1, .int .i64 (wrap64 x), .string ⟨#[]⟩, .bool false] (0, 0) _ rfl (by
      refine blk_put (cs := #[.int .i64 1, .int .i64 (wrap64 x), .string ⟨#[]⟩, .bool false]) ?_ 3 _ rfl
      refine blk_put (cs := #[.int .i64 1, .int .i64 (wrap64 x), .string ⟨#[]⟩, .bool false]) ?_ 2 _ rfl
      refine blk_put (cs := #[.int .i64 1, .int .i64 0, .string ⟨#[]⟩, .bool false]) ?_ 1 _ rfl
      refine blk_put (cs := #[.int .i64 0, .int .i64 0, .string ⟨#[]⟩, .bool false]) ?_ 0 _ rfl
      exact blk_far BR1.out ng3 _) Tryd.underlying29 rfl (by kernel_rfl)) rfl ?_
    have kk : KeepBut w w1 g none := ⟨Nat.le_trans VB.out.size HK1.out.1, fun i hi hne _ => (HK1.out.2 i (Nat.lt_of_lt_of_le hi VB.out.size) hne (by simp)).trans (VB.out.block i hi)⟩
    have sz : w0.heap.size ≤ w.heap.size := HB.out.size
    exact ⟨rfl, IsS60.far (IsS60.far (IsS60.far (IsS60.far (IsS60.far HI1.out (fun e => ng2 e.symm) _) (fun e => ng1 e.symm) _) (fun e => ng1 e.symm) _) (fun e => ng1 e.symm) _) (fun e => ng1 e.symm) _,
      below_set (below_set (below_set (below_set (below_set HB1.out (by omega)) (by omega)) (by omega)) (by omega)) (by omega),
      keep_far (keep_far (keep_far (keep_far (keep_far kk (by show w.heap.size ≤ gf; omega) _) (by show w.heap.size ≤ gr; omega) _) (by show w.heap.size ≤ gr; omega) _) (by show w.heap.size ≤ gr; omega) _) (by show w.heap.size ≤ gr; omega) _⟩
  · rw [if_neg hk] at h
    cases h
theorem code_cursor_field.mono (b : List Int) (at_ kind : Int) (k : Nat) : LeO (code_cursor_field.f k b at_ kind) (code_cursor_field.f (k + 1) b at_ kind) := by
  unfold code_cursor_field.f
  refine LeO.ite (LeO.bind (code_cursor_number.mono _ _ _ _) (fun _ => LeO.refl _)) (LeO.refl _)
end Go.Proofs.YtcheinjlgojepaaDoor.P
namespace Go.Proofs.YtcheinjlgojepaaDoor.P
open Go.RowKit Go.Shelf Go.Proofs Go.Proofs.YtcheinjlgojepaaDoorW.PrintWords Go.Proofs.YtcheinjlgojepaaDoorW.PrintLast Go.Proofs.YtcheinjlgojepaaDoorW.PrintMore
open Go.Proofs.YtcheinjlgojepaaDoor.R
attribute [local go_sem] Oper.semAt_some
set_option linter.unusedVariables false
set_option linter.unusedSimpArgs false
def emits (k : Nat) (b : List Int) : List Int → Int → Option (List (S29 × Int) × Int)
  | [], at_ => some ([], at_)
  | kd :: ks, at_ => (code_cursor_field.f k b at_ kd).bind fun t => if t.2.1 = 0 then (emits k b ks t.2.2).map fun r => ((t.1, 0) :: r.1, r.2) else some ([(t.1, t.2.1)], t.2.2)
theorem emits.mono (b : List Int) (k : Nat) : ∀ (ks : List Int) (a : Int), LeO (emits k b ks a) (emits (k + 1) b ks a)
  | [], a => fun r h => h
  | kd :: ks, a => by
    rw [emits, emits]
    refine LeO.bind (code_cursor_field.mono b a kd k) (fun t => ?_)
    refine LeO.ite ?_ (LeO.refl _)
    intro r h
    obtain ⟨q, hq, rfl⟩ := Option.map_eq_some_iff.1 h
    exact Option.map_eq_some_iff.2 ⟨q, emits.mono b k ks _ _ hq, rfl⟩
set_option maxHeartbeats 1000000 in
theorem fields_in (F : Fence) (n : Nat) (h38 : F.fn 38) (hro : F.round = none) (g : Nat) (A : Option Addr) (m c : Nat) (w : World) :
    CallsIn F n Tryd.prog 38 #[.pointer (some ⟨g, 0, none⟩), .slice A m c] w fun e w' => e = .returned (.func (.func 47) #[] #[.pointer (some ⟨w.heap.size + 1, 0, none⟩), .pointer (some ⟨w.heap.size, 0, none⟩)]) ∧ w' = (w.alloc (.cells #[.pointer (some ⟨g, 0, none⟩)] 58)).alloc (.cells #[.slice A m c] 37) := by
  refine callsIn_of_wp Tryd.func38 rfl h38 ?_ hro
  simp only [Tryd.ntmps38, List.size_toArray, List.length_cons, List.length_nil, Nat.reduceAdd, Nat.reduceSub, Array.replicate_succ, Array.replicate_zero, List.push_toArray, List.append_toArray, List.nil_append, List.cons_append]
  gi_wp2
  go_ret
  exact ⟨rfl, rfl⟩
theorem AbD.laid {β : Type} {D : Nat → Prop} {J : β → World → Prop} (h : AbD D J) {s : β} {W : World} (o : Obj) (hJ : J s W) : J s (W.alloc o) :=
  h s W _ none hJ (World.grownBy_alloc W o none) (fun r e => by cases e)
theorem grown_of_but {N : Nat} {w0 W W' : World} {g : Nat} (h0 : Below N w0 W) (h1 : Below N w0 W') (hk : KeepBut W W' g none) : W.grownBy W' (some g) :=
  ⟨h1.os.trans h0.os.symm, h1.tape.trans h0.tape.symm, h1.output.trans h0.output.symm, hk.1, fun i hi hne => hk.2 i hi (fun e => hne (by rw [e])) (by simp)⟩
set_option maxRecDepth 100000 in
set_option maxHeartbeats 4000000 in
theorem fields_seq (n : Nat) (hn : 1 ≤ n) (B1 B2 gc : Nat) (k : Nat) (b ks : List Int) (A : Option Addr) (c : Nat) (at0 atF : Int) (T : List (S29 × Int)) (w0 w : World) (hb : Below w0.heap.size w0 w) (hks : Kd.C (Kd.int .i64) w0 A ks.length ks)
    (b1 : w.heap[B1]? = some (.cells #[.slice A ks.length c] 37 (0, 0))) (b2 : w.heap[B2]? = some (.cells #[.pointer (some ⟨gc, 0, none⟩)] 58 (0, 0))) (hI : IsS60 w0 w gc b at0) (hT : emits k b ks at0 = some (T, atF)) (n1 : gc ≠ B1) (n2 : gc ≠ B2) :
    SeqD Fence.wide n Tryd.prog 47 #[.pointer (some ⟨B1, 0, none⟩), .pointer (some ⟨B2, 0, none⟩)] (fun x : S29 × Int => #[.agg #[.int .i64 x.1.f0, .int .i64 x.1.f1, .string x.1.f2, .bool x.1.f3], .int .i64 x.2]) (fun j => j < w0.heap.size ∨ j = B1 ∨ j = B2 ∨ j = gc) (fun j => j = gc) (fun xs W => xs = T ∧ IsS60 w0 W gc b atF) (fun pre => ∃ r, pre ≠ [] ∧ pre ++ r = T) T.length w := by
  have hmx : ks.length ≤ 9223372036854775807 := Kd.C_max hks
  intro lp J Jx W hW hJ hJx hY h0
  have l1 := blk_lt b1; have l2 := blk_lt b2
  have b1' := (hW.block B1 l1).trans b1
  have b2' := (hW.block B2 l2).trans b2
  have B1f := Aside0.mk b1'
  have B2f := Aside0.mk b2'
  have HI := Aside0.mk (hI.below hW)
  have HB := Aside0.mk (below_step hb hW)
  have HT := Aside0.mk hT
  have HKS := Aside0.mk hks
  have HJ := Aside0.mk hJ
  have HJX := Aside0.mk hJx
  have HY := Aside0.mk hY
  have c1 : W.cell? ⟨B1, 0, none⟩ = some (.slice A ks.length c) := (blk_cell b1' 0).trans rfl
  clear hb hW hI hT hks b1 b2 b1' b2' l1 l2 hJ hJx hY
  refine callsIn_of_wp Tryd.func47 rfl trivial ?_ rfl
  have h48 : Fence.wide.fn 48 := trivial
  have hu29 := Tryd.underlying29
  simp only [Tryd.ntmps47, List.size_toArray, List.length_cons, List.length_nil, Nat.reduceAdd, Nat.reduceSub, Array.replicate_succ, Array.replicate_zero, List.push_toArray, List.append_toArray, List.nil_append, List.cons_append]
  gi_wp2
  clear c1
  gi_loopw [10] (fun v10 wr => ∃ (i : Nat) (at_ : Int) (pre rest : List (S29 × Int)), v10 = .int .i64 (i : Int) ∧ i ≤ ks.length ∧ Aside0 (emits k b (ks.drop i) at_ = some (rest, atF)) ∧ Aside0 (pre ++ rest = T) ∧ Aside0 (J pre wr) ∧ Aside0 (IsS60 w0 wr gc b at_) ∧ Aside0 (Below w0.heap.size w0 wr) ∧ Aside0 (wr.heap[B1]? = some (.cells #[.slice A ks.length c] 37 (0, 0))) ∧ Aside0 (wr.heap[B2]? = some (.cells #[.pointer (some ⟨gc, 0, none⟩)] 58 (0, 0))) ∧ W.heap.size ≤ wr.heap.size)
    (fun i _ => ks.length - (intOf i).toNat)
  case atStart => exact ⟨0, at0, [], T, rfl, Nat.zero_le _, ⟨by rw [List.drop_zero]; exact HT.out⟩, ⟨rfl⟩, ⟨h0⟩, HI, HB, B1f, B2f, Nat.le_refl _⟩
  case round =>
    clear h0 HI HB B1f B2f HT
    obtain ⟨i, at_, pre, rest, rfl, hik, HE, HP, HJs, HI, HB, B1f, B2f, hsz⟩ := hrel
    by_cases hlt : i < ks.length
    · have hltb : decide ((i : Int) < (ks.length : Int)) = true := decide_eq_true (by omega)
      obtain ⟨ad, e0, hx⟩ := Kd.at_int HKS.out (i : Int) (by omega) (by omega)
      cases e0
      replace hx := (HB.out.cell (World.block_lt_of_cell? w0 _ hx)).trans hx
      have hrd : rd ks (i : Int) = ks[i] := by simp [rd, hlt]
      rw [hrd, Int.toNat_natCast] at hx
      have he := HE.out
      rw [List.drop_eq_getElem_cons hlt, emits] at he
      obtain ⟨⟨f, e1, at1⟩, hf, he⟩ := Option.bind_eq_some_iff.mp he
      have HF := Aside0.mk hf
      have c2 : wr.cell? ⟨B2, 0, none⟩ = some (.pointer (some ⟨gc, 0, none⟩)) := (blk_cell B2f.out 0).trans rfl
      have hlen : pre.length < T.length := by
        rw [← HP.out, List.length_append]
        simp only at he
        split at he
        · obtain ⟨r, _, hr⟩ := Option.map_eq_some_iff.1 he
          have := congrArg Prod.fst hr
          simp only at this
          rw [← this]; simp
        · have := congrArg Prod.fst (Option.some.inj he)
          simp only at this
          rw [← this]; simp
      have HEE := Aside0.mk he
      clear hf he HE hrd
      gi_wp2_with (gi_at_call 48; refine (callsIn_wide.2 (code_cursor_field.calls k gc b at_ ks[i] f e1 at1 w0 wr HI.out HB.out HF.out)).mono ?_; rintro e w1 ⟨rfl, hi1, hb1, hk1⟩; obtain ⟨y0, y1, y2, y3⟩ := blkC4 (w1.alloc (Obj.cells #[Value.int IntKind.i64 f.f0, Value.int IntKind.i64 f.f1, Value.string f.f2, Value.bool f.f3] 29)) w1.heap.size _ _ _ _ (blk_new w1 _); have hg := grown_of_but HB.out hb1 hk1; have HJ1 := Aside0.mk (HJ.out pre wr w1 (some gc) HJs.out hg (fun r e => by cases e; rfl)); have HI1 := Aside0.mk hi1; have HB1 := Aside0.mk hb1; have B11 := Aside0.mk ((hk1.2 B1 (blk_lt B1f.out) (fun e => n1 e.symm) (by simp)).trans B1f.out); have B21 := Aside0.mk ((hk1.2 B2 (blk_lt B2f.out) (fun e => n2 e.symm) (by simp)).trans B2f.out); have hs1 : W.heap.size ≤ w1.heap.size := Nat.le_trans hsz hk1.1; clear hi1 hb1 hk1 hg; obtain ⟨fn, tmps, assign, body, hy, hR⟩ := HY.out pre (f, e1) (w1.alloc (Obj.cells #[Value.int IntKind.i64 f.f0, Value.int IntKind.i64 f.f1, Value.string f.f2, Value.bool f.f3] 29)) (AbD.laid HJ.out _ HJ1.out) hlen (by simp; omega); have HR := Aside0.mk hR; clear hR; simp only at hy)
      refine HR.out.mono ?_
      rintro e W3 (⟨rfl, hJ3, hk3⟩ | ⟨rfl, hJx3⟩)
      · have hB3 : Below w0.heap.size w0 W3 := hk3.below (below_alloc HB1.out _) (fun j hj => .inl hj)
        have z1 := (hk3.2 B1 (.inr (.inl rfl))).trans (blk_alloc B11.out _)
        have z2 := (hk3.2 B2 (.inr (.inr (.inl rfl)))).trans (blk_alloc B21.out _)
        have z3 : IsS60 w0 W3 gc b at1 := by
          obtain ⟨A0, c0, q1, q2, q3⟩ := HI1.out
          exact ⟨A0, c0, (hk3.2 gc (.inr (.inr (.inr rfl)))).trans (blk_alloc q1 _), q2, q3⟩
        have hs3 : W.heap.size ≤ W3.heap.size := Nat.le_trans (by simp; omega) hk3.1.size
        have H3 := Aside0.mk (And.intro hJ3 (And.intro z3 (And.intro hB3 (And.intro z1 z2))))
        clear hJ3 hk3 hB3 z1 z2 z3
        by_cases he1 : e1 = 0
        · have he1b : (e1 != 0) = false := bne_eq_false_iff_eq.mpr he1
          gi_wp2
          go_roundw
          case rel =>
            have hh := HEE.out
            simp only [if_pos he1] at hh
            obtain ⟨r, hr1, hr2⟩ := Option.map_eq_some_iff.1 hh
            obtain ⟨r1, r2⟩ := r
            simp only [Prod.mk.injEq] at hr2
            obtain ⟨hr2, hr3⟩ := hr2
            exact ⟨i + 1, at1, pre ++ [(f, e1)], r1, by simp, by omega, ⟨by rw [← hr3]; exact hr1⟩, ⟨by rw [← HP.out, ← hr2, he1, List.append_assoc]; rfl⟩, ⟨H3.out.1⟩, ⟨H3.out.2.1⟩, ⟨H3.out.2.2.1⟩, ⟨H3.out.2.2.2.1⟩, ⟨H3.out.2.2.2.2⟩, hs3⟩
          case measure => simp [intOf]; omega
        · have he1b : (e1 != 0) = true := bne_iff_ne.mpr he1
          gi_wp2
          refine bodyPost_ret (results_none rfl _ _ _) rfl ?_
          have hh := HEE.out
          simp only [if_neg he1] at hh
          have hh := Option.some.inj hh
          simp only [Prod.mk.injEq] at hh
          obtain ⟨hr2, hr3⟩ := hh
          refine ⟨⟨_, rfl⟩, .inl ⟨T, ⟨rfl, ?_⟩, ?_⟩⟩
          · rw [← hr3]; exact H3.out.2.1
          · rw [← HP.out, ← hr2]; exact H3.out.1
      · have HX := Aside0.mk hJx3
        clear hJx3
        gi_wp2
        refine bodyPost_ret (results_none rfl _ _ _) rfl ?_
        refine ⟨⟨_, rfl⟩, .inr ⟨pre ++ [(f, e1)], ?_, HX.out⟩⟩
        have hh := HEE.out
        by_cases he1 : e1 = 0
        · simp only [if_pos he1] at hh
          obtain ⟨r, hr1, hr2⟩ := Option.map_eq_some_iff.1 hh
          simp only [Prod.mk.injEq] at hr2
          exact ⟨r.1, by simp, by rw [← HP.out, ← hr2.1, he1, List.append_assoc]; rfl⟩
        · simp only [if_neg he1] at hh
          have hh := Option.some.inj hh
          simp only [Prod.mk.injEq] at hh
          exact ⟨[], by simp, by rw [← HP.out, ← hh.1, List.append_nil]⟩
    · obtain rfl : i = ks.length := by omega
      have hltb : decide ((ks.length : Int) < (ks.length : Int)) = false := decide_eq_false (by omega)
      gi_wp2
      go_end0
      have hh := HE.out
      rw [List.drop_length, emits] at hh
      have hh := Option.some.inj hh
      simp only [Prod.mk.injEq] at hh
      refine ⟨⟨_, rfl⟩, .inl ⟨T, ⟨rfl, ?_⟩, ?_⟩⟩
      · rw [← hh.2]; exact HI.out
      · rw [← HP.out, ← hh.1, List.append_nil]; exact HJs.out
end Go.Proofs.YtcheinjlgojepaaDoor.P
