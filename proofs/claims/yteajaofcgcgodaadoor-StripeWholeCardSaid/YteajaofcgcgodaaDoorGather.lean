/- stripe.Gather: bytes laid where they belong. -/
import Derived.Test.YteajaofcgcgodaaDoorP0
import Derived.StillTailTactics
import Derived.Lib.BufferWrite
namespace Go.Proofs.YteajaofcgcgodaaDoor.P
open Go.RowKit Go.Proofs.YteajaofcgcgodaaDoorW.PrintWords Go.Proofs.YteajaofcgcgodaaDoorW.PrintLast Go.Proofs.YteajaofcgcgodaaDoorW.PrintMore
attribute [local go_sem] max2_int min2_int max_two min_two
set_option linter.unusedVariables false
set_option linter.unusedSimpArgs false

theorem run_copy_str {P : Program} (w : World) (dT sT ty elem : TypeId) (g o dLen dCap : Nat) (s : ByteArray) (cur : Array Value) (t : TypeId)
    (hu : P.underlying dT = some (.slice elem)) (hs : (P.info? elem).map (·.size) = some 1) (hg : w.heap[g]? = some (.cells cur t (0, 0))) (hfit : o + min s.size dLen ≤ cur.size) :
    (Builtin.copy_ #[dT, sT] ty #[.slice (some ⟨g, o, none⟩) dLen dCap, .string s]).run P w =
      .ok (goInt (min s.size dLen : Nat)) (w.setCells g o (encs (Value.int .u8) ((bytesOf s).take (min s.size dLen)))) := by
  have hl : (encs (Value.int .u8) ((bytesOf s).take (min s.size dLen))).length = min s.size dLen := by
    rw [encs_length, List.length_take, bytesOf_length]; omega
  have hst := run_storeCells_cells (P := P) g o (encs (Value.int .u8) ((bytesOf s).take (min s.size dLen))) 0 w
    (fun j hj => by rw [cell_of_row w g _ cur t (0, 0) hg]; simp; omega) (fun j _ => blk_frozen hg _)
    (by intro u hu; simp only [encs, List.mem_map] at hu; obtain ⟨q, _, rfl⟩ := hu; rfl)
  have htk : List.take (min s.size dLen) (List.map (fun b : UInt8 => Value.int IntKind.u8 (b.toNat : Int)) s.data.toList) = encs (Value.int .u8) ((bytesOf s).take (min s.size dLen)) := by
    simp only [encs, bytesOf, List.map_take, List.map_map]
    rfl
  simp only [Nat.add_zero] at hst
  cases hq : P.info? elem with
  | none => simp [hq] at hs
  | some i =>
    have hmin : Nat.min s.size dLen = min s.size dLen := rfl
    simp [Builtin.copy_, run_underlying hu, Builtin.lenOf, Builtin.firstCells, sizeOf, typeInfo, hq, hmin]
    rw [htk, hst]
    simp [Result.andThen]
theorem splice_take {α : Type} (A B C : List α) (n : Nat) (hn : A.length + B.length ≤ n) : (A ++ B ++ C).take n = A ++ (B ++ C.take (n - (A.length + B.length))) := by
  rw [List.append_assoc, List.take_append, List.take_append, List.take_of_length_le (by omega : A.length ≤ n), List.take_of_length_le (by omega : B.length ≤ n - A.length), Nat.sub_sub]
section
variable {P : Program} {ops : Array Oper} {rest : List Oper} {o : Oper} {a : Act} {Q : Exit → Act → World → Prop}
/-- copy(v[off:], s), v a row of bytes of one's own. -/
theorem R_copy_str {w0 W : World} (base : Nat) (hgd : o.guard = none) (s x : Operand) (t t' e : TypeId)
    (ho : o.op = .call { callee := .builtin .copy, args := #[s, x], argTypes := #[t, t'] }) (ht : P.underlying t = some (.slice e)) (hinfo : (P.info? e).map (·.size) = some 1)
    (v : Value) (xs : List Int) (g cap off c' : Nat) (hv : v = .slice (some ⟨g, 0, none⟩) xs.length cap) (hoff : off < xs.length) (str : ByteArray) (ok : Nat → Prop)
    (hs : a.eval s = .slice (some ⟨g, off, none⟩) (xs.length - off) c') (hx : a.eval x = .string str)
    (HO : (Kd.int .u8).R e W base ok v xs) (HB : Below base w0 W) (hbase : base ≤ W.heap.size)
    (h : ∀ w1, (Kd.int .u8).R e w1 base ok v (xs.take off ++ ((bytesOf str).take (min str.size (xs.length - off)) ++ xs.drop (off + min str.size (xs.length - off)))) → Below base w0 w1 → wpList P ops Q rest (a.put o.dst (goInt (min str.size (xs.length - off) : Nat))) w1) :
    wpList P ops Q (o :: rest) a W := by
  have hown := Kd.own_of_R HO
  rcases hown.2 with ⟨h0, _⟩ | ⟨g', cap', cur, hv', hb, hh, hnc, hcm, hcs, htake⟩
  · rw [hv] at h0; cases h0
  rw [hv] at hv'
  cases hv'
  have hcs1 : cur.size = cap := by omega
  obtain ⟨m, hm⟩ : ∃ m, min str.size (xs.length - off) = m := ⟨_, rfl⟩
  have hkl : (encs (Value.int .u8) ((bytesOf str).take m)).length = m := by rw [encs_length, List.length_take, bytesOf_length]; omega
  have hr := run_copy_str (P := P) W t t' o.type e g off (xs.length - off) c' str cur e ht hinfo hh (by omega)
  rw [hm] at hr h
  obtain ⟨cur', h3, h4, h5⟩ := setCells_row (encs (Value.int .u8) ((bytesOf str).take m)) off W cur hh (by rw [hkl]; omega)
  obtain ⟨s1, s2, s3, s4⟩ := setCells_same g (encs (Value.int .u8) ((bytesOf str).take m)) off W
  have hgr : W.grownBy (W.setCells g off (encs (Value.int .u8) ((bytesOf str).take m))) v.ownBlock :=
    ⟨s1, s2, s3, by rw [s4]; exact Nat.le_refl _, fun k _ hk => setCells_far _ _ k (fun he => hk (by rw [hv, he]; simp [Value.ownBlock]))⟩
  refine wpList_plain hgd fun K hK => ?_
  unfold Oper.wp execOp
  simp only [ho, resolve, invoke, builtin, Sem.run_bind, Sem.run_pure, Result.andThen_ok, List.map_toArray, List.map_cons, List.map_nil, hs, hx, hr]
  refine hK _ _ (h _ (Kd.R_of_own ?_ HO.1) (HB.grown hgr hbase (own_base hown)))
  have hln : (xs.take off ++ ((bytesOf str).take m ++ xs.drop (off + m))).length = xs.length := by
    rw [List.length_append, List.length_append, List.length_take, List.length_take, List.length_drop, bytesOf_length]
    omega
  rw [hln]
  refine ⟨by rw [encs_length, hln, Nat.mul_one], .inr ⟨g, cap, cur', hv, hb, h3, hnc, hcm, by rw [h4, hcs], ?_⟩⟩
  have htk : cur.toList.take xs.length = encs (Value.int .u8) xs := by rw [← htake, Nat.mul_one]
  have e1 : cur.toList.take off = (encs (Value.int .u8) xs).take off := by rw [← htk, List.take_take, Nat.min_eq_left (by omega)]
  have e2 : (encs (Value.int .u8) xs).drop (off + m) = (cur.toList.drop (off + m)).take (xs.length - (off + m)) := by rw [← htk, List.drop_take]
  have hl1 : (cur.toList.take off).length = off := by rw [List.length_take, Array.length_toList]; omega
  rw [h5, Nat.mul_one, splice_take _ _ _ _ (by rw [hl1, hkl]; omega), hl1, hkl, encs_append, encs_append]
  rw [show encs (Value.int .u8) (xs.take off) = (encs (Value.int .u8) xs).take off by simp [encs, List.map_take], ← e1, show encs (Value.int .u8) (xs.drop (off + m)) = (encs (Value.int .u8) xs).drop (off + m) by simp [encs, List.map_drop], e2]
theorem R_copy_strN {w0 W : World} (base : Nat) (hgd : o.guard = none) (s x : Operand) (t t' e : TypeId)
    (ho : o.op = .call { callee := .builtin .copy, args := #[s, x], argTypes := #[t, t'] }) (ht : P.underlying t = some (.slice e)) (hinfo : (P.info? e).map (·.size) = some 1)
    (xs : List Int) (n : Nat) (hn : xs.length = n) (g cap off c' : Nat) (hoff : off < n) (str : ByteArray) (m : Nat) (hm : min str.size (n - off) = m) (ok : Nat → Prop)
    (hs : a.eval s = .slice (some ⟨g, off, none⟩) (n - off) c') (hx : a.eval x = .string str)
    (HO : (Kd.int .u8).R e W base ok (.slice (some ⟨g, 0, none⟩) n cap) xs) (HB : Below base w0 W) (hbase : base ≤ W.heap.size)
    (h : ∀ w1, (Kd.int .u8).R e w1 base ok (.slice (some ⟨g, 0, none⟩) n cap) (xs.take off ++ ((bytesOf str).take m ++ xs.drop (off + m))) → Below base w0 w1 → wpList P ops Q rest (a.put o.dst (goInt (m : Nat))) w1) :
    wpList P ops Q (o :: rest) a W := by
  subst hn
  subst hm
  exact R_copy_str base hgd s x t t' e ho ht hinfo _ xs g cap off c' rfl hoff str ok hs hx HO HB hbase h
end
theorem ext_list (s : ByteArray) (k : Nat) : (s.extract 0 k).data.toList = s.data.toList.take k := by
  rw [ByteArray.data_extract, Array.toList_extract]
  simp [List.extract_eq_take_drop]
theorem ext_size (s : ByteArray) (k : Nat) : (s.extract 0 k).size = min k s.size := by
  rw [← data_length, ext_list, List.length_take, data_length]
theorem gFin (str : ByteArray) (nb K L mc : Nat) (hK : min K str.size = min nb str.size) (hm : min (str.extract 0 K).size L = mc) : min (min nb str.size) L = mc ∧ (bytesOf (str.extract 0 K)).take mc = (bytesOf str).take mc := by
  rw [ext_size, hK] at hm
  refine ⟨hm, ?_⟩
  unfold bytesOf
  rw [ext_list, List.map_take, List.take_take]
  congr 1
  omega
/-- A piece's bytes laid where they belong. -/
def gStep (n : Nat) (b : List Int) (f : S51) (s : ByteArray) : List Int :=
  if f.f3 < 0 ∨ (n : Int) ≤ f.f3 ∨ f.f2 < 0 then b
  else b.take f.f3.toNat ++ ((bytesOf s).take (min (min f.f2.toNat s.size) (n - f.f3.toNat)) ++ b.drop (f.f3.toNat + min (min f.f2.toNat s.size) (n - f.f3.toNat)))
def gUpto (n : Nat) (l : List S51) (d : List ByteArray) : Nat → List Int
  | 0 => List.replicate n 0
  | k + 1 => gStep n (gUpto n l d k) (rd_T51 l (k : Int)) (rdOf ByteArray.empty d (k : Int))
theorem gStep_len (n : Nat) (b : List Int) (f : S51) (s : ByteArray) (h : b.length = n) : (gStep n b f s).length = n := by
  unfold gStep
  split
  · exact h
  · rw [List.length_append, List.length_append, List.length_take, List.length_take, List.length_drop, bytesOf_length]
    omega
theorem gUpto_len (n : Nat) (l : List S51) (d : List ByteArray) : ∀ k, (gUpto n l d k).length = n
  | 0 => by simp [gUpto]
  | k + 1 => gStep_len n _ _ _ (gUpto_len n l d k)
def stripe_Gather.f (a0 : Int) (l1 : List (S51)) (l2 : List ByteArray) : Option (ByteArray) :=
  if a0 < 0 ∨ 4096 < a0 then some ⟨#[]⟩ else some (strOfNums (gUpto a0.toNat l1 l2 (min l1.length l2.length)))
set_option maxHeartbeats 8000000 in
set_option maxRecDepth 100000 in
theorem stripe_Gather.calls (a0 : Int) (A1 : Option Addr) (c1 : Nat) (l1 : List (S51)) (A2 : Option Addr) (c2 : Nat) (l2 : List ByteArray) (r : ByteArray) (w : World) (hr1 : Kd.C k51 w A1 l1.length l1) (hc1 : l1.length ≤ c1) (hr2 : Kd.C Kd.string w A2 l2.length l2) (hc2 : l2.length ≤ c2) (h : stripe_Gather.f a0 l1 l2 = some r) :
    Calls Tryd.prog 28 #[.int .i64 a0, .slice A1 l1.length c1, .slice A2 l2.length c2] w fun e w' => e = .returned (.string r) ∧ Below w.heap.size w w' := by
  unfold stripe_Gather.f at h
  by_cases hb : a0 < 0 ∨ 4096 < a0
  · rw [if_pos hb] at h
    cases h
    by_cases h0 : a0 < 0
    · have d0 : decide (a0 < 0) = true := decide_eq_true h0
      go_enter Tryd.func28, Tryd.ntmps28
      go_wp2
      go_ret
      exact ⟨rfl, Below.refl _ _⟩
    · have d0 : decide (a0 < 0) = false := decide_eq_false h0
      have d1 : decide (4096 < a0) = true := decide_eq_true (by omega)
      go_enter Tryd.func28, Tryd.ntmps28
      go_wp2
      go_ret
      exact ⟨rfl, Below.refl _ _⟩
  · rw [if_neg hb] at h
    replace h := Option.some.inj h
    obtain ⟨n, rfl⟩ := Int.eq_ofNat_of_zero_le (show 0 ≤ a0 by omega)
    rw [Int.toNat_natCast] at h
    obtain ⟨m, hm⟩ : ∃ m, min l1.length l2.length = m := ⟨_, rfl⟩
    rw [hm] at h
    have hn4 : n ≤ 4096 := by omega
    have hm1 : m ≤ l1.length := by omega
    have hm2 : m ≤ l2.length := by omega
    have HRR := Aside0.mk h
    have HM := Aside0.mk hm
    have HR1 := Aside0.mk hr1
    have HR2 := Aside0.mk hr2
    have X1 := Kd.C_max hr1
    have X2 := Kd.C_max hr2
    have HB := Aside0.mk (Below.refl w.heap.size w)
    clear h hm hr1 hr2 hb
    have d0 : decide ((n : Int) < 0) = false := decide_eq_false (by omega)
    have d1 : decide ((4096 : Int) < (n : Int)) = false := decide_eq_false (by omega)
    have d2 : decide (0 ≤ (n : Int)) = true := decide_eq_true (by omega)
    have d3 : decide ((n : Int).toNat ≤ 281474976710656) = true := decide_eq_true (by omega)
    have hmn : (if ((l2.length : Nat) : Int) < ((l1.length : Nat) : Int) then ((l2.length : Nat) : Int) else ((l1.length : Nat) : Int)) = (m : Int) := by have := HM.out; split <;> omega
    have d4 : decide ((m : Int) ≤ (c1 : Int)) = true := decide_eq_true (by omega)
    have d5 : decide (m ≤ c1) = true := decide_eq_true (by omega)
    go_enter Tryd.func28, Tryd.ntmps28
    go_upto_region 4 with (first | ((with_reducible refine gate_dst (N := 17) rfl ?_); (try (refine gate_guard (by rfl) ?_; dsimp only)); refine Kd.R_make (Kd.int .u8) _ 5 rfl (N := 17) rfl 64 _ _ rfl (n : Int) rfl rfl Tryd.underlying64 (.int .u8 0) 1 info5 rfl (by decide) (by omega) 0 (ok := fun _ => True) (okp := fun _ => True) rfl (fun _ hk => hk) trivial (by omega) (Nat.le_trans (Nat.mul_le_mul_right _ (by omega : (n : Int).toNat ≤ 281474976710656)) (by omega)) (Below.refl _ _) (Nat.le_refl _) ?_; intro v266 w9 ho10 hb hg_ hnew_; clear hg_ hnew_; have n0_ := Aside0.mk (Kd.R_lower ho10 (below_size (by repeat (first | (with_reducible first | exact HB.out | apply below_alloc | apply pw_below_drewN | apply below_drew1) | exact HB.out)))); have n1_ := Aside0.mk (below_step (by repeat (first | (with_reducible first | exact HB.out | apply below_alloc | apply pw_below_drewN | apply below_drew1) | exact HB.out)) hb); clear HB; have HO := n0_; have HB := n1_; clear n0_ n1_; clear hb ho10))
    (try simp only [Act.put, List.setIfInBounds_toArray, List.set_cons_zero, List.set_cons_succ])
    go_cut [24, 25, 26] (fun v24 v25 v26 wc => v24 = .slice A1 m c1 ∧ v25 = .int .i64 (m : Int) ∧ v26 = .int .i64 0 ∧ wc = w9)
    case first =>
      by_cases hlt : l2.length < l1.length
      · obtain rfl : m = l2.length := by have := HM.out; omega
        have b1 : decide (l2.length < l1.length) = true := decide_eq_true hlt
        go_wp2
        go_meet
        case rel => exact ⟨rfl, rfl, rfl, rfl⟩
      · obtain rfl : m = l1.length := by have := HM.out; omega
        have b1 : decide (l2.length < l1.length) = false := decide_eq_false hlt
        go_wp2
        go_meet
        case rel => exact ⟨rfl, rfl, rfl, rfl⟩
    case rest =>
      obtain ⟨rfl, rfl, rfl, rfl⟩ := hcut
      clear hmn HM
      go_wp2
      go_loopw [26] (fun c wr => ∃ i : Int, 0 ≤ i ∧ i ≤ (m : Int) ∧ c = .int .i64 i ∧ Aside0 (Kd.R (Kd.int .u8) 5 wr w.heap.size (fun _ => True) v266 (gUpto n l1 l2 i.toNat)) ∧ Aside0 (Below w.heap.size w wr)) (fun c _ => m - (intOf c).toNat)
      case atStart => exact ⟨0, Int.le_refl _, by omega, rfl, by simpa [gUpto] using HO, HB⟩
      case round =>
        clear HO HB
        obtain ⟨i, hi0, him, rfl, HO, HB⟩ := hrel
        by_cases hkm : i < (m : Int)
        · have p1 : i < (l1.length : Int) := by omega
          have p2 : i < (l2.length : Int) := by omega
          have dk : decide (i < (m : Int)) = true := decide_eq_true hkm
          have dk2 : decide (i < (l2.length : Int)) = true := decide_eq_true p2
          have dk0 : decide (0 ≤ i) = true := decide_eq_true hi0
          have hw : wrap64 (i + 1) = i + 1 := by unfold wrap64; omega
          have hgs : gUpto n l1 l2 (i + 1).toNat = gStep n (gUpto n l1 l2 i.toNat) (rd_T51 l1 i) (rdOf ByteArray.empty l2 i) := by
            rw [show (i + 1).toNat = i.toNat + 1 by omega, gUpto, Int.toNat_of_nonneg hi0]
          have hlen := gUpto_len n l1 l2 i.toNat
          obtain ⟨ad1, e1, hx0, hx1, hx2, hx3⟩ := at_T51 HR1.out i hi0 p1
          cases e1
          replace hx0 := (HB.out.cell (World.block_lt_of_cell? w _ hx0)).trans hx0
          replace hx1 := (HB.out.cell (World.block_lt_of_cell? w _ hx1)).trans hx1
          replace hx2 := (HB.out.cell (World.block_lt_of_cell? w _ hx2)).trans hx2
          replace hx3 := (HB.out.cell (World.block_lt_of_cell? w _ hx3)).trans hx3
          obtain ⟨⟨f0, f1, f2, f3⟩, hf⟩ : ∃ f, rd_T51 l1 i = f := ⟨_, rfl⟩
          rw [hf] at hgs hx0 hx1 hx2 hx3
          obtain ⟨str, hstr⟩ : ∃ s, rdOf ByteArray.empty l2 i = s := ⟨_, rfl⟩
          obtain ⟨ad2, e2, hy⟩ := Kd.at_string HR2.out i hi0 p2
          cases e2
          have HY := Aside0.mk hy
          replace hy := (HB.out.cell (World.block_lt_of_cell? w _ hy)).trans hy
          replace HY := Aside0.mk (HY.out.trans (by rw [hstr]))
          rw [hstr] at hgs hy
          obtain ⟨b, hb⟩ : ∃ b, gUpto n l1 l2 i.toNat = b := ⟨_, rfl⟩
          rw [hb] at hgs hlen HO
          have HG := Aside0.mk hgs
          have HL := Aside0.mk hlen
          clear hgs hlen hf hstr hb
          have q1 := eq_true hi0
          have q2 := eq_true p1
          have q3 := eq_true p2
          by_cases t1 : f3 < 0
          · have t1b : decide (f3 < 0) = true := decide_eq_true t1
            go_wp2_with ((with_reducible refine gate_dst (N := 9) rfl ?_); refine box_event ?hg (N := 9) ?hd (cs := #[.int .i64 0, .int .i64 0, .int .i64 0, .int .i64 0]) (t := 51) ?hr ?_; (case hd => rfl); (case hg => rfl); (case hr => first | (go_simp; done) | (go_simp; rfl)); intro gb hg w14 hbox hb; have n0_ := Aside0.mk (Kd.R_below HO.out hb); have n1_ := Aside0.mk (below_step HB.out hb); have n2_ := Aside0.mk (hbox); have n3_ := Aside0.mk ((by rw [hg]; exact (below_size HB.out) : w.heap.size ≤ gb)); clear HO; clear HB; have HO := n0_; have HB := n1_; have BK := n2_; have GE := n3_; clear n0_ n1_ n2_ n3_; clear hb hbox hg; obtain ⟨hcz0, hcz1, hcz2, hcz3⟩ := blkC4 w14 gb (.int .i64 0) (.int .i64 0) (.int .i64 0) (.int .i64 0) BK.out; obtain ⟨hfz0, hfz1, hfz2, hfz3⟩ := blkF4 BK.out)
            go_roundw
            case rel => exact ⟨i + 1, by omega, by omega, rfl, ⟨by rw [HG.out]; unfold gStep; rw [if_pos (.inl t1)]; exact Kd.R_mono (Kd.R_far (p := ⟨gb, 3, none⟩) (Kd.R_far (p := ⟨gb, 2, none⟩) (Kd.R_far (p := ⟨gb, 1, none⟩) (Kd.R_far (p := ⟨gb, 0, none⟩) (Kd.R_types HO.out BK.out (by decide)) (fun _ hk => hk.2) (.int .i64 f0)) (fun _ hk => hk.2) (.int .i64 f1)) (fun _ hk => hk.2) (.int .i64 f2)) (fun _ hk => hk.2) (.int .i64 f3)) (fun _ hk => trivial)⟩, ⟨by repeat (first | (with_reducible first | exact HB.out | apply below_alloc | apply pw_below_drewN | apply below_drew1 | refine below_set ?_ GE.out) | exact HB.out)⟩⟩
            case measure => simp [intOf]; omega
          · have t1b : decide (f3 < 0) = false := decide_eq_false t1
            by_cases t2 : (n : Int) ≤ f3
            · have t2b : decide ((n : Int) ≤ f3) = true := decide_eq_true t2
              go_wp2_with ((with_reducible refine gate_dst (N := 9) rfl ?_); refine box_event ?hg (N := 9) ?hd (cs := #[.int .i64 0, .int .i64 0, .int .i64 0, .int .i64 0]) (t := 51) ?hr ?_; (case hd => rfl); (case hg => rfl); (case hr => first | (go_simp; done) | (go_simp; rfl)); intro gb hg w14 hbox hb; have n0_ := Aside0.mk (Kd.R_below HO.out hb); have n1_ := Aside0.mk (below_step HB.out hb); have n2_ := Aside0.mk (hbox); have n3_ := Aside0.mk ((by rw [hg]; exact (below_size HB.out) : w.heap.size ≤ gb)); clear HO; clear HB; have HO := n0_; have HB := n1_; have BK := n2_; have GE := n3_; clear n0_ n1_ n2_ n3_; clear hb hbox hg; obtain ⟨hcz0, hcz1, hcz2, hcz3⟩ := blkC4 w14 gb (.int .i64 0) (.int .i64 0) (.int .i64 0) (.int .i64 0) BK.out; obtain ⟨hfz0, hfz1, hfz2, hfz3⟩ := blkF4 BK.out)
              go_roundw
              case rel => exact ⟨i + 1, by omega, by omega, rfl, ⟨by rw [HG.out]; unfold gStep; rw [if_pos (.inr (.inl t2))]; exact Kd.R_mono (Kd.R_far (p := ⟨gb, 3, none⟩) (Kd.R_far (p := ⟨gb, 2, none⟩) (Kd.R_far (p := ⟨gb, 1, none⟩) (Kd.R_far (p := ⟨gb, 0, none⟩) (Kd.R_types HO.out BK.out (by decide)) (fun _ hk => hk.2) (.int .i64 f0)) (fun _ hk => hk.2) (.int .i64 f1)) (fun _ hk => hk.2) (.int .i64 f2)) (fun _ hk => hk.2) (.int .i64 f3)) (fun _ hk => trivial)⟩, ⟨by repeat (first | (with_reducible first | exact HB.out | apply below_alloc | apply pw_below_drewN | apply below_drew1 | refine below_set ?_ GE.out) | exact HB.out)⟩⟩
              case measure => simp [intOf]; omega
            · have t2b : decide ((n : Int) ≤ f3) = false := decide_eq_false t2
              by_cases t3 : f2 < 0
              · have t3b : decide (f2 < 0) = true := decide_eq_true t3
                go_wp2_with ((with_reducible refine gate_dst (N := 9) rfl ?_); refine box_event ?hg (N := 9) ?hd (cs := #[.int .i64 0, .int .i64 0, .int .i64 0, .int .i64 0]) (t := 51) ?hr ?_; (case hd => rfl); (case hg => rfl); (case hr => first | (go_simp; done) | (go_simp; rfl)); intro gb hg w14 hbox hb; have n0_ := Aside0.mk (Kd.R_below HO.out hb); have n1_ := Aside0.mk (below_step HB.out hb); have n2_ := Aside0.mk (hbox); have n3_ := Aside0.mk ((by rw [hg]; exact (below_size HB.out) : w.heap.size ≤ gb)); clear HO; clear HB; have HO := n0_; have HB := n1_; have BK := n2_; have GE := n3_; clear n0_ n1_ n2_ n3_; clear hb hbox hg; obtain ⟨hcz0, hcz1, hcz2, hcz3⟩ := blkC4 w14 gb (.int .i64 0) (.int .i64 0) (.int .i64 0) (.int .i64 0) BK.out; obtain ⟨hfz0, hfz1, hfz2, hfz3⟩ := blkF4 BK.out)
                go_roundw
                case rel => exact ⟨i + 1, by omega, by omega, rfl, ⟨by rw [HG.out]; unfold gStep; rw [if_pos (.inr (.inr t3))]; exact Kd.R_mono (Kd.R_far (p := ⟨gb, 3, none⟩) (Kd.R_far (p := ⟨gb, 2, none⟩) (Kd.R_far (p := ⟨gb, 1, none⟩) (Kd.R_far (p := ⟨gb, 0, none⟩) (Kd.R_types HO.out BK.out (by decide)) (fun _ hk => hk.2) (.int .i64 f0)) (fun _ hk => hk.2) (.int .i64 f1)) (fun _ hk => hk.2) (.int .i64 f2)) (fun _ hk => hk.2) (.int .i64 f3)) (fun _ hk => trivial)⟩, ⟨by repeat (first | (with_reducible first | exact HB.out | apply below_alloc | apply pw_below_drewN | apply below_drew1 | refine below_set ?_ GE.out) | exact HB.out)⟩⟩
                case measure => simp [intOf]; omega
              · have t3b : decide (f2 < 0) = false := decide_eq_false t3
                have hown := Kd.own_of_R HO.out
                rcases hown.2 with ⟨h0, hz⟩ | ⟨g, cap, cur, hv, hg0, hh, hnc, hcm, hcs, htake⟩
                · have := HL.out; omega
                rw [HL.out] at hv hnc
                subst hv
                clear hown hh htake hcs
                obtain ⟨off, rfl⟩ := Int.eq_ofNat_of_zero_le (show 0 ≤ f3 by omega)
                obtain ⟨nb, rfl⟩ := Int.eq_ofNat_of_zero_le (show 0 ≤ f2 by omega)
                obtain ⟨i5, hi5, hz5⟩ := Option.map_eq_some_iff.1 info5
                simp only [Prod.mk.injEq] at hz5
                have hsl : ∀ W : World, (Instr.slice 64 (.slice (some ⟨g, 0, none⟩) n cap) (some (.int .i64 (off : Int))) none none).run Tryd.prog W = .ok (.slice (some ⟨g, off, none⟩) (n - off) (cap - off)) W := fun W => by
                  have := cut_from (P := Tryd.prog) 64 5 .i64 Tryd.underlying64 hi5 1 hz5.2.1 (some ⟨g, 0, none⟩) n cap (off : Int) (by omega) (by omega) W
                  rw [Int.toNat_natCast, if_neg (by omega)] at this
                  simp only [Nat.mul_one, Option.map_some] at this
                  rw [this, show Addr.add ⟨g, 0, none⟩ off = ⟨g, off, none⟩ by simp [Addr.add]; omega]
                clear hz5 hi5
                have hne : off < n := by omega
                by_cases t4 : (str.size : Int) < (nb : Int)
                · have t4b : decide ((str.size : Int) < (nb : Int)) = true := decide_eq_true t4
                  have t4n : decide (str.size < nb) = true := decide_eq_true (by omega)
                  go_wp2_with ((with_reducible refine gate_dst (N := 9) rfl ?_); refine box_event ?hg (N := 9) ?hd (cs := #[.int .i64 0, .int .i64 0, .int .i64 0, .int .i64 0]) (t := 51) ?hr ?_; (case hd => rfl); (case hg => rfl); (case hr => first | (go_simp; done) | (go_simp; rfl)); intro gb hg w14 hbox hb; have n0_ := Aside0.mk (Kd.R_below HO.out hb); have n1_ := Aside0.mk (below_step HB.out hb); have n2_ := Aside0.mk (hbox); have n3_ := Aside0.mk ((by rw [hg]; exact (below_size HB.out) : w.heap.size ≤ gb)); clear HO; clear HB; have HO := n0_; have HB := n1_; have BK := n2_; have GE := n3_; clear n0_ n1_ n2_ n3_; clear hb hbox hg; obtain ⟨hcz0, hcz1, hcz2, hcz3⟩ := blkC4 w14 gb (.int .i64 0) (.int .i64 0) (.int .i64 0) (.int .i64 0) BK.out; obtain ⟨hfz0, hfz1, hfz2, hfz3⟩ := blkF4 BK.out)
                  obtain ⟨W8, hW8⟩ : ∃ W8, (((w14.setCell ⟨gb, 0, none⟩ (.int .i64 f0)).setCell ⟨gb, 1, none⟩ (.int .i64 f1)).setCell ⟨gb, 2, none⟩ (.int .i64 (nb : Int))).setCell ⟨gb, 3, none⟩ (.int .i64 (off : Int)) = W8 := ⟨_, rfl⟩
                  have HO8 : Aside0 (Kd.R (Kd.int .u8) 5 W8 w.heap.size (fun _ => True) (.slice (some ⟨g, 0, none⟩) n cap) b) := ⟨by rw [← hW8]; exact Kd.R_mono (Kd.R_far (p := ⟨gb, 3, none⟩) (Kd.R_far (p := ⟨gb, 2, none⟩) (Kd.R_far (p := ⟨gb, 1, none⟩) (Kd.R_far (p := ⟨gb, 0, none⟩) (Kd.R_types HO.out BK.out (by decide)) (fun _ hk => hk.2) (.int .i64 f0)) (fun _ hk => hk.2) (.int .i64 f1)) (fun _ hk => hk.2) (.int .i64 (nb : Int))) (fun _ hk => hk.2) (.int .i64 (off : Int))) (fun _ hk => trivial)⟩
                  have HB8 : Aside0 (Below w.heap.size w W8) := ⟨by rw [← hW8]; repeat (first | (with_reducible first | exact HB.out | apply below_alloc | apply pw_below_drewN | apply below_drew1 | refine below_set ?_ GE.out) | exact HB.out)⟩
                  have BK8 : Aside0 (W8.heap[gb]? = some (.cells #[.int .i64 f0, .int .i64 f1, .int .i64 (nb : Int), .int .i64 (off : Int)] 51 (0, 0))) := ⟨by
                    rw [← hW8]
                    refine blk_put (cs := #[.int .i64 f0, .int .i64 f1, .int .i64 (nb : Int), .int .i64 0]) ?_ 3 _ rfl
                    refine blk_put (cs := #[.int .i64 f0, .int .i64 f1, .int .i64 0, .int .i64 0]) ?_ 2 _ rfl
                    refine blk_put (cs := #[.int .i64 f0, .int .i64 0, .int .i64 0, .int .i64 0]) ?_ 1 _ rfl
                    refine blk_put (cs := #[.int .i64 0, .int .i64 0, .int .i64 0, .int .i64 0]) ?_ 0 _ rfl
                    exact BK.out⟩
                  rw [hW8]
                  clear hW8 hcz0 hcz1 hcz2 hcz3 hfz0 hfz1 hfz2 hfz3 hx0 hx1 hx2 hx3 hy
                  obtain ⟨k0, k1, k2, k3⟩ := blkC4 W8 gb _ _ _ _ BK8.out
                  have hy8 := (HB8.out.cell (World.block_lt_of_cell? w _ HY.out)).trans HY.out
                  refine wp_region_still_tail 17 (by kernel_rfl) (by kernel_rfl) ?_
                  simp only [List.take_succ_cons, List.take_zero, List.drop_succ_cons, List.drop_zero]
                  change wpStill _ _ (World.drew _) _ _ _
                  repeat still_step
                  refine wpStill_nil ?_
                  change wpList _ _ _ _ _ (World.drew _)
                  obtain ⟨mc, hmc⟩ : ∃ mc, min (str.extract 0 str.size).size (n - off) = mc := ⟨_, rfl⟩
                  refine R_copy_strN w.heap.size rfl (.tmp 48) (.tmp 61) 64 9 5 rfl Tryd.underlying64 (by kernel_rfl) b n HL.out g cap off (cap - off) hne (str.extract 0 str.size) mc hmc (fun _ => True) ?y1 ?y2 (Kd.R_drew HO8.out) (below_drew1 HB8.out) ?y3 ?_
                  case y1 => first | rfl | (simp; done) | (go_simp; done)
                  case y2 => first | rfl | (simp; done) | (go_simp; done)
                  case y3 => exact (below_drew1 HB8.out).size
                  intro w15 ho hb
                  have HO := Aside0.mk ho
                  have HB := Aside0.mk hb
                  clear ho hb
                  try simp only [Act.put, List.setIfInBounds_toArray, List.set_cons_zero, List.set_cons_succ]
                  go_wp2
                  go_roundw
                  case rel => exact ⟨i + 1, by omega, by omega, rfl, ⟨by rw [HG.out]; unfold gStep; dsimp only; rw [if_neg (by omega), Int.toNat_natCast, Int.toNat_natCast, (gFin str nb _ _ mc (by omega) hmc).1, ← (gFin str nb _ _ mc (by omega) hmc).2]; exact HO.out⟩, HB⟩
                  case measure => simp [intOf]; omega
                · have t4b : decide ((str.size : Int) < (nb : Int)) = false := decide_eq_false t4
                  have t4n : decide (str.size < nb) = false := decide_eq_false (by omega)
                  have t5 : ((nb : Int) ≤ (str.size : Int)) = True := eq_true (by omega)
                  have t6 : (0 ≤ (nb : Int)) = True := eq_true (by omega)
                  have t6b : decide (0 ≤ (nb : Int)) = true := decide_eq_true (by omega)
                  have t7 := eq_false t4
                  have t5b : decide ((nb : Int) ≤ (str.size : Int)) = true := decide_eq_true (by omega)
                  have t5n : decide (nb ≤ str.size) = true := decide_eq_true (by omega)
                  go_wp2_with ((with_reducible refine gate_dst (N := 9) rfl ?_); refine box_event ?hg (N := 9) ?hd (cs := #[.int .i64 0, .int .i64 0, .int .i64 0, .int .i64 0]) (t := 51) ?hr ?_; (case hd => rfl); (case hg => rfl); (case hr => first | (go_simp; done) | (go_simp; rfl)); intro gb hg w14 hbox hb; have n0_ := Aside0.mk (Kd.R_below HO.out hb); have n1_ := Aside0.mk (below_step HB.out hb); have n2_ := Aside0.mk (hbox); have n3_ := Aside0.mk ((by rw [hg]; exact (below_size HB.out) : w.heap.size ≤ gb)); clear HO; clear HB; have HO := n0_; have HB := n1_; have BK := n2_; have GE := n3_; clear n0_ n1_ n2_ n3_; clear hb hbox hg; obtain ⟨hcz0, hcz1, hcz2, hcz3⟩ := blkC4 w14 gb (.int .i64 0) (.int .i64 0) (.int .i64 0) (.int .i64 0) BK.out; obtain ⟨hfz0, hfz1, hfz2, hfz3⟩ := blkF4 BK.out)
                  obtain ⟨W8, hW8⟩ : ∃ W8, (((w14.setCell ⟨gb, 0, none⟩ (.int .i64 f0)).setCell ⟨gb, 1, none⟩ (.int .i64 f1)).setCell ⟨gb, 2, none⟩ (.int .i64 (nb : Int))).setCell ⟨gb, 3, none⟩ (.int .i64 (off : Int)) = W8 := ⟨_, rfl⟩
                  have HO8 : Aside0 (Kd.R (Kd.int .u8) 5 W8 w.heap.size (fun _ => True) (.slice (some ⟨g, 0, none⟩) n cap) b) := ⟨by rw [← hW8]; exact Kd.R_mono (Kd.R_far (p := ⟨gb, 3, none⟩) (Kd.R_far (p := ⟨gb, 2, none⟩) (Kd.R_far (p := ⟨gb, 1, none⟩) (Kd.R_far (p := ⟨gb, 0, none⟩) (Kd.R_types HO.out BK.out (by decide)) (fun _ hk => hk.2) (.int .i64 f0)) (fun _ hk => hk.2) (.int .i64 f1)) (fun _ hk => hk.2) (.int .i64 (nb : Int))) (fun _ hk => hk.2) (.int .i64 (off : Int))) (fun _ hk => trivial)⟩
                  have HB8 : Aside0 (Below w.heap.size w W8) := ⟨by rw [← hW8]; repeat (first | (with_reducible first | exact HB.out | apply below_alloc | apply pw_below_drewN | apply below_drew1 | refine below_set ?_ GE.out) | exact HB.out)⟩
                  have BK8 : Aside0 (W8.heap[gb]? = some (.cells #[.int .i64 f0, .int .i64 f1, .int .i64 (nb : Int), .int .i64 (off : Int)] 51 (0, 0))) := ⟨by
                    rw [← hW8]
                    refine blk_put (cs := #[.int .i64 f0, .int .i64 f1, .int .i64 (nb : Int), .int .i64 0]) ?_ 3 _ rfl
                    refine blk_put (cs := #[.int .i64 f0, .int .i64 f1, .int .i64 0, .int .i64 0]) ?_ 2 _ rfl
                    refine blk_put (cs := #[.int .i64 f0, .int .i64 0, .int .i64 0, .int .i64 0]) ?_ 1 _ rfl
                    refine blk_put (cs := #[.int .i64 0, .int .i64 0, .int .i64 0, .int .i64 0]) ?_ 0 _ rfl
                    exact BK.out⟩
                  rw [hW8]
                  clear hW8 hcz0 hcz1 hcz2 hcz3 hfz0 hfz1 hfz2 hfz3 hx0 hx1 hx2 hx3 hy
                  obtain ⟨k0, k1, k2, k3⟩ := blkC4 W8 gb _ _ _ _ BK8.out
                  have hy8 := (HB8.out.cell (World.block_lt_of_cell? w _ HY.out)).trans HY.out
                  refine wp_region_still_tail 17 (by kernel_rfl) (by kernel_rfl) ?_
                  simp only [List.take_succ_cons, List.take_zero, List.drop_succ_cons, List.drop_zero]
                  change wpStill _ _ (World.drew _) _ _ _
                  repeat still_step
                  refine wpStill_nil ?_
                  change wpList _ _ _ _ _ (World.drew _)
                  obtain ⟨mc, hmc⟩ : ∃ mc, min (str.extract 0 nb).size (n - off) = mc := ⟨_, rfl⟩
                  refine R_copy_strN w.heap.size rfl (.tmp 48) (.tmp 61) 64 9 5 rfl Tryd.underlying64 (by kernel_rfl) b n HL.out g cap off (cap - off) hne (str.extract 0 nb) mc hmc (fun _ => True) ?y1 ?y2 (Kd.R_drew HO8.out) (below_drew1 HB8.out) ?y3 ?_
                  case y1 => first | rfl | (simp; done) | (go_simp; done)
                  case y2 => first | rfl | (simp; done) | (go_simp; done)
                  case y3 => exact (below_drew1 HB8.out).size
                  intro w15 ho hb
                  have HO := Aside0.mk ho
                  have HB := Aside0.mk hb
                  clear ho hb
                  try simp only [Act.put, List.setIfInBounds_toArray, List.set_cons_zero, List.set_cons_succ]
                  go_wp2
                  go_roundw
                  case rel => exact ⟨i + 1, by omega, by omega, rfl, ⟨by rw [HG.out]; unfold gStep; dsimp only; rw [if_neg (by omega), Int.toNat_natCast, Int.toNat_natCast, (gFin str nb _ _ mc (by omega) hmc).1, ← (gFin str nb _ _ mc (by omega) hmc).2]; exact HO.out⟩, HB⟩
                  case measure => simp [intOf]; omega
        · have dk : decide (i < (m : Int)) = false := decide_eq_false hkm
          obtain rfl : i = (m : Int) := by omega
          rw [Int.toNat_natCast] at HO
          have hcv31 := own_string (P := Tryd.prog) Tryd.underlying64 Tryd.underlying5 Tryd.underlying9 (Kd.own_of_R HO.out)
          go_wp2
          go_ret
          exact ⟨by rw [HRR.out]; rfl, HB.out⟩
end Go.Proofs.YteajaofcgcgodaaDoor.P
