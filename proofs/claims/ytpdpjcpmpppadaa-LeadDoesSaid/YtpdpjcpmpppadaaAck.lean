-- left of the seat's texts by prune.py, a program of this session
import Derived.Test.YtpdpjcpmpppadaaP0
import Derived.Test.YtpdpjcpmpppadaaP14
import Derived.Test.YtpdpjcpmpppadaaP19
import Derived.Test.YtpdpjcpmpppadaaInsert
namespace Go.Proofs.Ytpdpjcpmpppadaa.P
open Go.RowKit Go.Proofs.YtpdpjcpmpppadaaW.PrintWords Go.Proofs.YtpdpjcpmpppadaaW.PrintLast Go.Proofs.YtpdpjcpmpppadaaW.PrintMore
attribute [local go_sem] max2_int min2_int max_two min_two max_three min_three max_four min_four   -- for this text's walks alone
set_option linter.unusedVariables false
set_option linter.unusedSimpArgs false
mutual
def lead_Ack.j0 : Nat → Int → Bool → Int → Int → Int → List (S39) → Bool → ByteArray → List Int → Option (Int × Int × Int × (List (S39)) × Bool × ByteArray × List Int)
 | 0, _, _, _, _, _, _, _, _, _ => none
 | k + 1, x1, x17, x419000, x419001, x419002, x419003, x419004, x419005, x419006 => if x17 = true then (some (x419000, x419001, x419002, x419003, x419004, x419005, x419006)) else (lead_Ack.l0 k x1 0 x419000 x419001 x419002 x419003 x419004 x419005 x419006)
def lead_Ack.l0 : Nat → Int → Int → Int → Int → Int → List (S39) → Bool → ByteArray → List Int → Option (Int × Int × Int × (List (S39)) × Bool × ByteArray × List Int)
 | 0, _, _, _, _, _, _, _, _, _ => none
 | k + 1, x1, x6, x419000, x419001, x419002, x419003, x419004, x419005, x419006 => if x6 < (x419006.length : Int) then (if 0 ≤ x6 then (if (rd x419006 x6) < x1 then (lead_Ack.l0 k x1 (wrap64 (x6 + 1)) x419000 x419001 x419002 x419003 x419004 x419005 x419006) else ((slices_Insert_int_int.f x419006 x6 (([x1] : List Int))).bind fun t424 => (some (x419000, x419001, x419002, x419003, x419004, x419005, t424)))) else (none)) else ((slices_Insert_int_int.f x419006 x6 (([x1] : List Int))).bind fun t430 => (some (x419000, x419001, x419002, x419003, x419004, x419005, t430)))
end
def lead_Ack.f (k : Nat) (a0_0 : Int) (a0_1 : Int) (a0_2 : Int) (l0_3 : List (S39)) (a0_4 : Bool) (a0_5 : ByteArray) (l0_6 : List Int) (a1 : Int) : Option (Int × Int × Int × (List (S39)) × Bool × ByteArray × List Int) := (lead_owned.f a0_0 a0_1 a0_2 l0_3 a0_4 a0_5 l0_6).bind fun bt407 => (if a0_4 = true then ((slices_Contains_int_int.f k l0_6 a1).bind fun t419 => (lead_Ack.j0 k a1 t419 bt407.1 bt407.2.1 bt407.2.2.1 bt407.2.2.2.1 bt407.2.2.2.2.1 bt407.2.2.2.2.2.1 bt407.2.2.2.2.2.2)) else (lead_Ack.j0 k a1 true bt407.1 bt407.2.1 bt407.2.2.1 bt407.2.2.2.1 bt407.2.2.2.2.1 bt407.2.2.2.2.2.1 bt407.2.2.2.2.2.2))
theorem lead_Ack.mono_l : ∀ k, (∀ y0 y1 y2 y3 y4 y5 y6 y7 y8, LeO (lead_Ack.j0 k y0 y1 y2 y3 y4 y5 y6 y7 y8) (lead_Ack.j0 (k + 1) y0 y1 y2 y3 y4 y5 y6 y7 y8)) ∧ (∀ y0 y1 y2 y3 y4 y5 y6 y7 y8, LeO (lead_Ack.l0 k y0 y1 y2 y3 y4 y5 y6 y7 y8) (lead_Ack.l0 (k + 1) y0 y1 y2 y3 y4 y5 y6 y7 y8))
 | 0 => ⟨fun _ _ _ _ _ _ _ _ _ r h => by simp [lead_Ack.j0] at h, fun _ _ _ _ _ _ _ _ _ r h => by simp [lead_Ack.l0] at h⟩
 | k + 1 => by
  obtain ⟨ih0, ih1⟩ := lead_Ack.mono_l k
  refine ⟨?_, ?_⟩
  ·intro y0 y1 y2 y3 y4 y5 y6 y7 y8
   unfold lead_Ack.j0
   repeat' first
   | (with_reducible exact ih0 _ _ _ _ _ _ _ _ _)
   | (with_reducible exact ih1 _ _ _ _ _ _ _ _ _)
   | (with_reducible exact slices_Contains_int_int.mono _ _ _)
   | (with_reducible exact LeO.refl _)
   | (with_reducible exact LeO.none _)
   | (with_reducible refine LeO.ite ?_ ?_)
   | (with_reducible refine LeO.bind ?_ (fun _ => ?_))
   | exact ih0 _ _ _ _ _ _ _ _ _
   | exact ih1 _ _ _ _ _ _ _ _ _
   | exact slices_Contains_int_int.mono _ _ _
   | exact LeO.none _
   | refine LeO.ite ?_ ?_
   | refine LeO.bind ?_ (fun _ => ?_)
  ·intro y0 y1 y2 y3 y4 y5 y6 y7 y8
   unfold lead_Ack.l0
   repeat' first
   | (with_reducible exact ih0 _ _ _ _ _ _ _ _ _)
   | (with_reducible exact ih1 _ _ _ _ _ _ _ _ _)
   | (with_reducible exact slices_Contains_int_int.mono _ _ _)
   | (with_reducible exact LeO.refl _)
   | (with_reducible exact LeO.none _)
   | (with_reducible refine LeO.ite ?_ ?_)
   | (with_reducible refine LeO.bind ?_ (fun _ => ?_))
   | exact ih0 _ _ _ _ _ _ _ _ _
   | exact ih1 _ _ _ _ _ _ _ _ _
   | exact slices_Contains_int_int.mono _ _ _
   | exact LeO.none _
   | refine LeO.ite ?_ ?_
   | refine LeO.bind ?_ (fun _ => ?_)
theorem lead_Ack.mono : ∀ a0 a1 a2 a3 a4 a5 a6 a7 k, LeO (lead_Ack.f k a0 a1 a2 a3 a4 a5 a6 a7) (lead_Ack.f (k + 1) a0 a1 a2 a3 a4 a5 a6 a7) := by
 intro a0 a1 a2 a3 a4 a5 a6 a7 k
 obtain ⟨ih0, ih1⟩ := lead_Ack.mono_l k
 unfold lead_Ack.f
 repeat' first
   | (with_reducible exact ih0 _ _ _ _ _ _ _ _ _)
   | (with_reducible exact ih1 _ _ _ _ _ _ _ _ _)
   | (with_reducible exact slices_Contains_int_int.mono _ _ _)
   | (with_reducible exact LeO.refl _)
   | (with_reducible exact LeO.none _)
   | (with_reducible refine LeO.ite ?_ ?_)
   | (with_reducible refine LeO.bind ?_ (fun _ => ?_))
   | exact ih0 _ _ _ _ _ _ _ _ _
   | exact ih1 _ _ _ _ _ _ _ _ _
   | exact slices_Contains_int_int.mono _ _ _
   | exact LeO.none _
   | refine LeO.ite ?_ ?_
   | refine LeO.bind ?_ (fun _ => ?_)
set_option maxHeartbeats 8000000 in
set_option maxRecDepth 100000 in
theorem lead_Ack.calls (k : Nat) (a0_0 : Int) (a0_1 : Int) (a0_2 : Int) (A0_3 : Option Addr) (c0_3 : Nat) (l0_3 : List (S39)) (a0_4 : Bool) (a0_5 : ByteArray) (A0_6 : Option Addr) (c0_6 : Nat) (l0_6 : List Int) (a1 : Int) (r1 : Int) (r2 : Int) (r3 : Int) (r4 : List (S39)) (r5 : Bool) (r6 : ByteArray) (r7 : List Int) (w : World) (hr0_3 : Kd.C k39 w A0_3 l0_3.length l0_3) (hc0_3 : l0_3.length ≤ c0_3) (hr0_6 : Kd.C (Kd.int .i64) w A0_6 l0_6.length l0_6) (hc0_6 : l0_6.length ≤ c0_6) (h : lead_Ack.f k a0_0 a0_1 a0_2 l0_3 a0_4 a0_5 l0_6 a1 = some (r1, r2, r3, r4, r5, r6, r7)) :
  Calls Try.prog 30 #[.agg #[.int .i64 a0_0, .int .i64 a0_1, .int .i64 a0_2, .slice A0_3 l0_3.length c0_3, .bool a0_4, .string a0_5, .slice A0_6 l0_6.length c0_6], .int .i64 a1] w fun e w' => ∃ v3_ v6_ : Value, e = .returned (.agg #[.int .i64 r1, .int .i64 r2, .int .i64 r3, v3_, .bool r5, .string r6, v6_]) ∧ Kd.R k39 39 w' w.heap.size (fun _ => True) v3_ r4 ∧ Kd.R (Kd.int .i64) 3 w' w.heap.size (fun _ => True) v6_ r7 ∧ Below w.heap.size w w' := by
 have hu37 := Try.underlying37
 have HR0_3 := Aside0.mk hr0_3
 have HC0_3 := Aside0.mk hc0_3
 clear hr0_3 hc0_3
 have HR0_6 := Aside0.mk hr0_6
 have HC0_6 := Aside0.mk hc0_6
 clear hr0_6 hc0_6
 have HB := Aside0.mk (Below.refl w.heap.size w)
 have H : ((lead_owned.f a0_0 a0_1 a0_2 l0_3 a0_4 a0_5 l0_6).bind fun bt407 => (if a0_4 = true then ((slices_Contains_int_int.f k l0_6 a1).bind fun t419 => (lead_Ack.j0 k a1 t419 bt407.1 bt407.2.1 bt407.2.2.1 bt407.2.2.2.1 bt407.2.2.2.2.1 bt407.2.2.2.2.2.1 bt407.2.2.2.2.2.2)) else (lead_Ack.j0 k a1 true bt407.1 bt407.2.1 bt407.2.2.1 bt407.2.2.2.1 bt407.2.2.2.2.1 bt407.2.2.2.2.2.1 bt407.2.2.2.2.2.2))) = some (r1, r2, r3, r4, r5, r6, r7) := h
 clear h
 replace H := Option.bind_eq_some_iff.mp H
 obtain ⟨⟨t407, t408, t409, t410, t413, t414, t415⟩, A30, H⟩ := H
 replace H : (if a0_4 = true then ((slices_Contains_int_int.f k l0_6 a1).bind fun t419 => (lead_Ack.j0 k a1 t419 t407 t408 t409 t410 t413 t414 t415)) else (lead_Ack.j0 k a1 true t407 t408 t409 t410 t413 t414 t415)) = some (r1, r2, r3, r4, r5, r6, r7) := H
 have A3 := Aside0.mk A30
 clear A30
 have HC4 := Aside0.mk H
 clear H
 go_enter Try.func30, Try.ntmps30
 go_upto_region 2 with (first | ((with_reducible refine gate_dst (N := 2) rfl ?_); refine box_event ?hg (N := 2) ?hd (cs := #[.int .i64 a0_0, .int .i64 a0_1, .int .i64 a0_2, .slice A0_3 l0_3.length c0_3, .bool a0_4, .string a0_5, .slice A0_6 l0_6.length c0_6]) (t := 37) ?hr ?_; (case hd => rfl); (case hg => rfl); (case hr => first | (go_simp; done) | (go_simp; rfl)); intro gb405 hg w5 hbox hb; have n0_ := Aside0.mk (below_step (bel HB.out) hb); have n1_ := Aside0.mk (hbox); have n2_ := Aside0.mk ((by rw [hg]; exact (below_size (bel HB.out)) : w.heap.size ≤ gb405)); have n3_ := n2_; clear HB; have HB := n0_; have BK405 := n1_; have GW405 := n2_; have GE405 := n3_; clear n0_ n1_ n2_ n3_; clear hb hbox hg) | ((with_reducible refine gate_dst (N := 4) rfl ?_); refine box_event ?hg (N := 4) ?hd (cs := #[.int .i64 0, .int .i64 0, .int .i64 0, .slice none 0 0, .bool false, .string (⟨#[]⟩ : ByteArray), .slice none 0 0]) (t := 37) ?hr ?_; (case hd => rfl); (case hg => rfl); (case hr => first | (go_simp; done) | (go_simp; rfl)); intro gb406 hg w6 hbox hb; have n0_ := Aside0.mk (blk_below (g := gb405) (o := .cells #[.int .i64 a0_0, .int .i64 a0_1, .int .i64 a0_2, .slice A0_3 l0_3.length c0_3, .bool a0_4, .string a0_5, .slice A0_6 l0_6.length c0_6] 37 (0, 0)) (bup BK405.out) hb); have n1_ := Aside0.mk (below_step (bel HB.out) hb); have n2_ := Aside0.mk (hbox); have n3_ := Aside0.mk ((by rw [hg]; exact (below_size (bel HB.out)) : w.heap.size ≤ gb406)); have n4_ := n3_; have n5_ := Aside0.mk ((by rw [hg]; exact Nat.ne_of_lt (blk_lt (g := gb405) (o := .cells #[.int .i64 a0_0, .int .i64 a0_1, .int .i64 a0_2, .slice A0_3 l0_3.length c0_3, .bool a0_4, .string a0_5, .slice A0_6 l0_6.length c0_6] 37 (0, 0)) (bup BK405.out)) : gb405 ≠ gb406)); have n6_ := Aside0.mk ((by rw [hg]; exact Nat.ne_of_gt (blk_lt (g := gb405) (o := .cells #[.int .i64 a0_0, .int .i64 a0_1, .int .i64 a0_2, .slice A0_3 l0_3.length c0_3, .bool a0_4, .string a0_5, .slice A0_6 l0_6.length c0_6] 37 (0, 0)) (bup BK405.out)) : gb406 ≠ gb405)); clear BK405; clear HB; have BK405 := n0_; have HB := n1_; have BK406 := n2_; have GW406 := n3_; have GE406 := n4_; have NB405_406 := n5_; have NB406_405 := n6_; clear n0_ n1_ n2_ n3_ n4_ n5_ n6_; clear hb hbox hg; have hnb7 := NB405_406.out; have hnc7 := NB406_405.out; obtain ⟨hcz8_0, hcz8_1, hcz8_2, hcz8_3, hcz8_4, hcz8_5, hcz8_6⟩ := blkC7 w6 gb405 (.int .i64 a0_0) (.int .i64 a0_1) (.int .i64 a0_2) (.slice A0_3 l0_3.length c0_3) (.bool a0_4) (.string a0_5) (.slice A0_6 l0_6.length c0_6) BK405.out; obtain ⟨hfz8_0, hfz8_1, hfz8_2, hfz8_3, hfz8_4, hfz8_5, hfz8_6⟩ := blkF7 BK405.out) | ((with_reducible refine gate_callee (f := 43) rfl ?_); refine goesL_ (some 8) rfl rfl Try.func43 (by kernel_rfl) rfl #[.agg #[.int .i64 a0_0, .int .i64 a0_1, .int .i64 a0_2, .slice A0_3 l0_3.length c0_3, .bool a0_4, .string a0_5, .slice A0_6 l0_6.length c0_6]] rfl (by (try simp only [List.map_toArray, List.map_cons, List.map_nil]); first | done | rfl | (simp only [List.length_drop, List.length_take]; rfl)) ?_; (with_reducible refine (lead_owned.calls a0_0 a0_1 a0_2 _ _ l0_3 a0_4 a0_5 _ _ l0_6 t407 t408 t409 t410 t413 t414 t415 _ ?side1 ?side2 ?side3 ?side4 A3.out).mono ?_); (case side1 => exact Kd.C_up (Kd.C_below HR0_3.out HB.out)); (case side2 => exact HC0_3.out); (case side3 => exact Kd.C_up (Kd.C_below HR0_6.out HB.out)); (case side4 => exact HC0_6.out); rintro e w9 ⟨v411, v416, rfl, ho0, ho1, hb⟩; refine ⟨_, rfl, ?_⟩; have n0_ := Aside0.mk (Kd.R_lower ho0 (below_size (bel HB.out))); have n1_ := Aside0.mk (Kd.R_lower ho1 (below_size (bel HB.out))); have n2_ := Aside0.mk (blk_below (g := gb405) (o := .cells #[.int .i64 a0_0, .int .i64 a0_1, .int .i64 a0_2, .slice A0_3 l0_3.length c0_3, .bool a0_4, .string a0_5, .slice A0_6 l0_6.length c0_6] 37 (0, 0)) (bup BK405.out) hb); have n3_ := Aside0.mk (blk_below (g := gb406) (o := .cells #[.int .i64 0, .int .i64 0, .int .i64 0, .slice none 0 0, .bool false, .string (⟨#[]⟩ : ByteArray), .slice none 0 0] 37 (0, 0)) (bup BK406.out) hb); have n4_ := Aside0.mk (below_step (bel HB.out) hb); clear BK405; clear BK406; clear HB; have HO412 := n0_; have HO417 := n1_; have BK405 := n2_; have BK406 := n3_; have HB := n4_; clear n0_ n1_ n2_ n3_ n4_; (try clear hb); (try clear hb2); (try clear hk); (try clear hi); (try clear ho0); (try clear ho1)) | ((with_reducible refine gate_dst (N := 5) rfl ?_); refine box_event ?hg (N := 5) ?hd (cs := #[.int .i64 0, .int .i64 0, .int .i64 0, .slice none 0 0, .bool false, .string (⟨#[]⟩ : ByteArray), .slice none 0 0]) (t := 37) ?hr ?_; (case hd => rfl); (case hg => rfl); (case hr => first | (go_simp; done) | (go_simp; rfl)); intro gb418 hg w10 hbox hb; have n0_ := Aside0.mk (Kd.R_below (Kd.R_up HO412.out) hb); have n1_ := Aside0.mk (Kd.R_below (Kd.R_up HO417.out) hb); have n2_ := Aside0.mk (blk_below (g := gb405) (o := .cells #[.int .i64 a0_0, .int .i64 a0_1, .int .i64 a0_2, .slice A0_3 l0_3.length c0_3, .bool a0_4, .string a0_5, .slice A0_6 l0_6.length c0_6] 37 (0, 0)) (bup BK405.out) hb); have n3_ := Aside0.mk (blk_below (g := gb406) (o := .cells #[.int .i64 0, .int .i64 0, .int .i64 0, .slice none 0 0, .bool false, .string (⟨#[]⟩ : ByteArray), .slice none 0 0] 37 (0, 0)) (bup BK406.out) hb); have n4_ := Aside0.mk (below_step (bel HB.out) hb); have n5_ := Aside0.mk (hbox); have n6_ := Aside0.mk ((by rw [hg]; exact (below_size (bel HB.out)) : w.heap.size ≤ gb418)); have n7_ := n6_; have n8_ := Aside0.mk ((by rw [hg]; exact Nat.ne_of_lt (blk_lt (g := gb405) (o := .cells #[.int .i64 a0_0, .int .i64 a0_1, .int .i64 a0_2, .slice A0_3 l0_3.length c0_3, .bool a0_4, .string a0_5, .slice A0_6 l0_6.length c0_6] 37 (0, 0)) (bup BK405.out)) : gb405 ≠ gb418)); have n9_ := Aside0.mk ((by rw [hg]; exact Nat.ne_of_gt (blk_lt (g := gb405) (o := .cells #[.int .i64 a0_0, .int .i64 a0_1, .int .i64 a0_2, .slice A0_3 l0_3.length c0_3, .bool a0_4, .string a0_5, .slice A0_6 l0_6.length c0_6] 37 (0, 0)) (bup BK405.out)) : gb418 ≠ gb405)); have n10_ := Aside0.mk ((by rw [hg]; exact Nat.ne_of_lt (blk_lt (g := gb406) (o := .cells #[.int .i64 0, .int .i64 0, .int .i64 0, .slice none 0 0, .bool false, .string (⟨#[]⟩ : ByteArray), .slice none 0 0] 37 (0, 0)) (bup BK406.out)) : gb406 ≠ gb418)); have n11_ := Aside0.mk ((by rw [hg]; exact Nat.ne_of_gt (blk_lt (g := gb406) (o := .cells #[.int .i64 0, .int .i64 0, .int .i64 0, .slice none 0 0, .bool false, .string (⟨#[]⟩ : ByteArray), .slice none 0 0] 37 (0, 0)) (bup BK406.out)) : gb418 ≠ gb406)); clear HO412; clear HO417; clear BK405; clear BK406; clear HB; have HO412 := n0_; have HO417 := n1_; have BK405 := n2_; have BK406 := n3_; have HB := n4_; have BK418 := n5_; have GW418 := n6_; have GE418 := n7_; have NB405_418 := n8_; have NB418_405 := n9_; have NB406_418 := n10_; have NB418_406 := n11_; clear n0_ n1_ n2_ n3_ n4_ n5_ n6_ n7_ n8_ n9_ n10_ n11_; clear hb hbox hg; have hnb11 := NB418_405.out; have hnc11 := NB405_418.out; have hnb12 := NB418_406.out; have hnc12 := NB406_418.out; obtain ⟨hcz13_0, hcz13_1, hcz13_2, hcz13_3, hcz13_4, hcz13_5, hcz13_6⟩ := blkC7 w10 gb418 (.int .i64 0) (.int .i64 0) (.int .i64 0) (.slice none 0 0) (.bool false) (.string (⟨#[]⟩ : ByteArray)) (.slice none 0 0) BK418.out; obtain ⟨hfz13_0, hfz13_1, hfz13_2, hfz13_3, hfz13_4, hfz13_5, hfz13_6⟩ := blkF7 BK418.out; obtain ⟨Ao14, co14, eo14⟩ := Kd.R_slice HO412.out; subst eo14; obtain ⟨Ao15, co15, eo15⟩ := Kd.R_slice HO417.out; subst eo15))
 (try simp only [Act.put, List.setIfInBounds_toArray, List.set_cons_zero, List.set_cons_succ])
 go_cut [17] (fun v17 wc => ∃ (kq : Nat) (x17_3 : Bool), v17 = .bool x17_3 ∧ Aside0 (lead_Ack.j0 kq a1 x17_3 t407 t408 t409 t410 t413 t414 t415 = some (r1, r2, r3, r4, r5, r6, r7)) ∧ Aside0 (kq ≤ k) ∧ Aside0 (Kd.R k39 39 wc w.heap.size (fun _ => True) (.slice Ao14 t410.length co14) t410) ∧ Aside0 (Kd.R (Kd.int .i64) 3 wc w.heap.size (fun _ => True) (.slice Ao15 t415.length co15) t415) ∧ Aside0 (wc.heap[gb405]? = some (.cells #[.int .i64 a0_0, .int .i64 a0_1, .int .i64 a0_2, (.slice A0_3 l0_3.length c0_3), .bool a0_4, .string a0_5, (.slice A0_6 l0_6.length c0_6)] 37 (0, 0))) ∧ Aside0 (wc.heap[gb406]? = some (.cells #[.int .i64 0, .int .i64 0, .int .i64 0, (.slice none 0 0), .bool false, .string (⟨#[]⟩ : ByteArray), (.slice none 0 0)] 37 (0, 0))) ∧ Aside0 (wc.heap[gb418]? = some (.cells #[.int .i64 t407, .int .i64 t408, .int .i64 t409, (.slice Ao14 t410.length co14), .bool t413, .string t414, (.slice Ao15 t415.length co15)] 37 (0, 0))) ∧ Aside0 (Below w.heap.size w wc))
 case first =>
  have H := HC4.out
  clear HC4
  by_cases c16 : a0_4 = true
  ·subst c16
   have H1 : ((slices_Contains_int_int.f k l0_6 a1).bind fun t419 => (lead_Ack.j0 k a1 t419 t407 t408 t409 t410 t413 t414 t415)) = some (r1, r2, r3, r4, r5, r6, r7) := by rw [if_pos rfl] at H; exact H
   clear H
   have H := H1
   clear H1
   replace H := Option.bind_eq_some_iff.mp H
   obtain ⟨t419, A170, H⟩ := H
   replace H : (lead_Ack.j0 k a1 t419 t407 t408 t409 t410 t413 t414 t415) = some (r1, r2, r3, r4, r5, r6, r7) := H
   have A17 := Aside0.mk A170
   clear A170
   have H' := Aside0.mk H
   clear H
   have hnb18 := NB405_406.out
   have hnc18 := NB406_405.out
   have hnb19 := NB405_418.out
   have hnc19 := NB418_405.out
   obtain ⟨hcz20_0, hcz20_1, hcz20_2, hcz20_3, hcz20_4, hcz20_5, hcz20_6⟩ := blkC7 w10 gb405 (.int .i64 a0_0) (.int .i64 a0_1) (.int .i64 a0_2) (.slice A0_3 l0_3.length c0_3) (.bool true) (.string a0_5) (.slice A0_6 l0_6.length c0_6) BK405.out
   obtain ⟨hfz20_0, hfz20_1, hfz20_2, hfz20_3, hfz20_4, hfz20_5, hfz20_6⟩ := blkF7 BK405.out
   go_wp2_with (first | (go_at_call 48; (with_reducible refine (slices_Contains_int_int.calls k _ _ l0_6 a1 t419 _ ?side1 ?side2 A17.out).mono ?_); (case side1 => exact Kd.C_below HR0_6.out (bel HB.out)); (case side2 => exact HC0_6.out); rintro e w' ⟨rfl, ⟨nd, rfl⟩⟩))
   go_meet
   case rel => exact ⟨_, (t419), (by first | rfl | (simp; done) | (simp [*]; done)), H', ⟨by first | omega | exact Nat.le_refl _⟩, ⟨by (with_reducible repeat (first | apply Kd.R_alloc | apply Kd.R_drewN | apply Kd.R_drew)); exact Kd.R_mono (Kd.R_far (p := ⟨gb418, 6, none⟩) (Kd.R_far (p := ⟨gb418, 5, none⟩) (Kd.R_far (p := ⟨gb418, 4, none⟩) (Kd.R_far (p := ⟨gb418, 3, none⟩) (Kd.R_far (p := ⟨gb418, 2, none⟩) (Kd.R_far (p := ⟨gb418, 1, none⟩) (Kd.R_far (p := ⟨gb418, 0, none⟩) (Kd.R_types HO412.out BK418.out (by decide)) (fun _ hk => hk.2) (.int .i64 t407)) (fun _ hk => hk.2) (.int .i64 t408)) (fun _ hk => hk.2) (.int .i64 t409)) (fun _ hk => hk.2) (.slice Ao14 t410.length co14)) (fun _ hk => hk.2) (.bool t413)) (fun _ hk => hk.2) (.string t414)) (fun _ hk => hk.2) (.slice Ao15 t415.length co15)) (fun _ hk => trivial)⟩, ⟨by (with_reducible repeat (first | apply Kd.R_alloc | apply Kd.R_drewN | apply Kd.R_drew)); exact Kd.R_mono (Kd.R_far (p := ⟨gb418, 6, none⟩) (Kd.R_far (p := ⟨gb418, 5, none⟩) (Kd.R_far (p := ⟨gb418, 4, none⟩) (Kd.R_far (p := ⟨gb418, 3, none⟩) (Kd.R_far (p := ⟨gb418, 2, none⟩) (Kd.R_far (p := ⟨gb418, 1, none⟩) (Kd.R_far (p := ⟨gb418, 0, none⟩) (Kd.R_types HO417.out BK418.out (by decide)) (fun _ hk => hk.2) (.int .i64 t407)) (fun _ hk => hk.2) (.int .i64 t408)) (fun _ hk => hk.2) (.int .i64 t409)) (fun _ hk => hk.2) (.slice Ao14 t410.length co14)) (fun _ hk => hk.2) (.bool t413)) (fun _ hk => hk.2) (.string t414)) (fun _ hk => hk.2) (.slice Ao15 t415.length co15)) (fun _ hk => trivial)⟩, ⟨by (with_reducible repeat (first | apply bN | apply bD | apply bA)); refine blk_far ?_ NB405_418.out _; (with_reducible repeat (first | apply bN | apply bD | apply bA)); refine blk_far ?_ NB405_418.out _; (with_reducible repeat (first | apply bN | apply bD | apply bA)); refine blk_far ?_ NB405_418.out _; (with_reducible repeat (first | apply bN | apply bD | apply bA)); refine blk_far ?_ NB405_418.out _; (with_reducible repeat (first | apply bN | apply bD | apply bA)); refine blk_far ?_ NB405_418.out _; (with_reducible repeat (first | apply bN | apply bD | apply bA)); refine blk_far ?_ NB405_418.out _; (with_reducible repeat (first | apply bN | apply bD | apply bA)); refine blk_far ?_ NB405_418.out _; (with_reducible repeat (first | apply bN | apply bD | apply bA)); exact BK405.out⟩, ⟨by (with_reducible repeat (first | apply bN | apply bD | apply bA)); refine blk_far ?_ NB406_418.out _; (with_reducible repeat (first | apply bN | apply bD | apply bA)); refine blk_far ?_ NB406_418.out _; (with_reducible repeat (first | apply bN | apply bD | apply bA)); refine blk_far ?_ NB406_418.out _; (with_reducible repeat (first | apply bN | apply bD | apply bA)); refine blk_far ?_ NB406_418.out _; (with_reducible repeat (first | apply bN | apply bD | apply bA)); refine blk_far ?_ NB406_418.out _; (with_reducible repeat (first | apply bN | apply bD | apply bA)); refine blk_far ?_ NB406_418.out _; (with_reducible repeat (first | apply bN | apply bD | apply bA)); refine blk_far ?_ NB406_418.out _; (with_reducible repeat (first | apply bN | apply bD | apply bA)); exact BK406.out⟩, ⟨by (with_reducible repeat (first | apply bN | apply bD | apply bA)); refine blk_put (cs := #[.int .i64 t407, .int .i64 t408, .int .i64 t409, .slice Ao14 t410.length co14, .bool t413, .string t414, .slice none 0 0]) ?_ 6 _ rfl; (with_reducible repeat (first | apply bN | apply bD | apply bA)); refine blk_put (cs := #[.int .i64 t407, .int .i64 t408, .int .i64 t409, .slice Ao14 t410.length co14, .bool t413, .string (⟨#[]⟩ : ByteArray), .slice none 0 0]) ?_ 5 _ rfl; (with_reducible repeat (first | apply bN | apply bD | apply bA)); refine blk_put (cs := #[.int .i64 t407, .int .i64 t408, .int .i64 t409, .slice Ao14 t410.length co14, .bool false, .string (⟨#[]⟩ : ByteArray), .slice none 0 0]) ?_ 4 _ rfl; (with_reducible repeat (first | apply bN | apply bD | apply bA)); refine blk_put (cs := #[.int .i64 t407, .int .i64 t408, .int .i64 t409, .slice none 0 0, .bool false, .string (⟨#[]⟩ : ByteArray), .slice none 0 0]) ?_ 3 _ rfl; (with_reducible repeat (first | apply bN | apply bD | apply bA)); refine blk_put (cs := #[.int .i64 t407, .int .i64 t408, .int .i64 0, .slice none 0 0, .bool false, .string (⟨#[]⟩ : ByteArray), .slice none 0 0]) ?_ 2 _ rfl; (with_reducible repeat (first | apply bN | apply bD | apply bA)); refine blk_put (cs := #[.int .i64 t407, .int .i64 0, .int .i64 0, .slice none 0 0, .bool false, .string (⟨#[]⟩ : ByteArray), .slice none 0 0]) ?_ 1 _ rfl; (with_reducible repeat (first | apply bN | apply bD | apply bA)); refine blk_put (cs := #[.int .i64 0, .int .i64 0, .int .i64 0, .slice none 0 0, .bool false, .string (⟨#[]⟩ : ByteArray), .slice none 0 0]) ?_ 0 _ rfl; (with_reducible repeat (first | apply bN | apply bD | apply bA)); exact BK418.out⟩, ⟨bel HB.out⟩⟩
  ·replace c16 := Bool.eq_false_iff.mpr c16
   subst c16
   have H1 : (lead_Ack.j0 k a1 true t407 t408 t409 t410 t413 t414 t415) = some (r1, r2, r3, r4, r5, r6, r7) := by rw [if_neg (show ¬ (false = true) by decide)] at H; exact H
   clear H
   have H := H1
   clear H1
   have H' := Aside0.mk H
   clear H
   have hnb21 := NB405_406.out
   have hnc21 := NB406_405.out
   have hnb22 := NB405_418.out
   have hnc22 := NB418_405.out
   obtain ⟨hcz23_0, hcz23_1, hcz23_2, hcz23_3, hcz23_4, hcz23_5, hcz23_6⟩ := blkC7 w10 gb405 (.int .i64 a0_0) (.int .i64 a0_1) (.int .i64 a0_2) (.slice A0_3 l0_3.length c0_3) (.bool false) (.string a0_5) (.slice A0_6 l0_6.length c0_6) BK405.out
   obtain ⟨hfz23_0, hfz23_1, hfz23_2, hfz23_3, hfz23_4, hfz23_5, hfz23_6⟩ := blkF7 BK405.out
   go_wp2
   go_meet
   case rel => exact ⟨_, (true), (by first | rfl | (simp; done) | (simp [*]; done)), H', ⟨by first | omega | exact Nat.le_refl _⟩, ⟨by (with_reducible repeat (first | apply Kd.R_alloc | apply Kd.R_drewN | apply Kd.R_drew)); exact Kd.R_mono (Kd.R_far (p := ⟨gb418, 6, none⟩) (Kd.R_far (p := ⟨gb418, 5, none⟩) (Kd.R_far (p := ⟨gb418, 4, none⟩) (Kd.R_far (p := ⟨gb418, 3, none⟩) (Kd.R_far (p := ⟨gb418, 2, none⟩) (Kd.R_far (p := ⟨gb418, 1, none⟩) (Kd.R_far (p := ⟨gb418, 0, none⟩) (Kd.R_types HO412.out BK418.out (by decide)) (fun _ hk => hk.2) (.int .i64 t407)) (fun _ hk => hk.2) (.int .i64 t408)) (fun _ hk => hk.2) (.int .i64 t409)) (fun _ hk => hk.2) (.slice Ao14 t410.length co14)) (fun _ hk => hk.2) (.bool t413)) (fun _ hk => hk.2) (.string t414)) (fun _ hk => hk.2) (.slice Ao15 t415.length co15)) (fun _ hk => trivial)⟩, ⟨by (with_reducible repeat (first | apply Kd.R_alloc | apply Kd.R_drewN | apply Kd.R_drew)); exact Kd.R_mono (Kd.R_far (p := ⟨gb418, 6, none⟩) (Kd.R_far (p := ⟨gb418, 5, none⟩) (Kd.R_far (p := ⟨gb418, 4, none⟩) (Kd.R_far (p := ⟨gb418, 3, none⟩) (Kd.R_far (p := ⟨gb418, 2, none⟩) (Kd.R_far (p := ⟨gb418, 1, none⟩) (Kd.R_far (p := ⟨gb418, 0, none⟩) (Kd.R_types HO417.out BK418.out (by decide)) (fun _ hk => hk.2) (.int .i64 t407)) (fun _ hk => hk.2) (.int .i64 t408)) (fun _ hk => hk.2) (.int .i64 t409)) (fun _ hk => hk.2) (.slice Ao14 t410.length co14)) (fun _ hk => hk.2) (.bool t413)) (fun _ hk => hk.2) (.string t414)) (fun _ hk => hk.2) (.slice Ao15 t415.length co15)) (fun _ hk => trivial)⟩, ⟨by (with_reducible repeat (first | apply bN | apply bD | apply bA)); refine blk_far ?_ NB405_418.out _; (with_reducible repeat (first | apply bN | apply bD | apply bA)); refine blk_far ?_ NB405_418.out _; (with_reducible repeat (first | apply bN | apply bD | apply bA)); refine blk_far ?_ NB405_418.out _; (with_reducible repeat (first | apply bN | apply bD | apply bA)); refine blk_far ?_ NB405_418.out _; (with_reducible repeat (first | apply bN | apply bD | apply bA)); refine blk_far ?_ NB405_418.out _; (with_reducible repeat (first | apply bN | apply bD | apply bA)); refine blk_far ?_ NB405_418.out _; (with_reducible repeat (first | apply bN | apply bD | apply bA)); refine blk_far ?_ NB405_418.out _; (with_reducible repeat (first | apply bN | apply bD | apply bA)); exact BK405.out⟩, ⟨by (with_reducible repeat (first | apply bN | apply bD | apply bA)); refine blk_far ?_ NB406_418.out _; (with_reducible repeat (first | apply bN | apply bD | apply bA)); refine blk_far ?_ NB406_418.out _; (with_reducible repeat (first | apply bN | apply bD | apply bA)); refine blk_far ?_ NB406_418.out _; (with_reducible repeat (first | apply bN | apply bD | apply bA)); refine blk_far ?_ NB406_418.out _; (with_reducible repeat (first | apply bN | apply bD | apply bA)); refine blk_far ?_ NB406_418.out _; (with_reducible repeat (first | apply bN | apply bD | apply bA)); refine blk_far ?_ NB406_418.out _; (with_reducible repeat (first | apply bN | apply bD | apply bA)); refine blk_far ?_ NB406_418.out _; (with_reducible repeat (first | apply bN | apply bD | apply bA)); exact BK406.out⟩, ⟨by (with_reducible repeat (first | apply bN | apply bD | apply bA)); refine blk_put (cs := #[.int .i64 t407, .int .i64 t408, .int .i64 t409, .slice Ao14 t410.length co14, .bool t413, .string t414, .slice none 0 0]) ?_ 6 _ rfl; (with_reducible repeat (first | apply bN | apply bD | apply bA)); refine blk_put (cs := #[.int .i64 t407, .int .i64 t408, .int .i64 t409, .slice Ao14 t410.length co14, .bool t413, .string (⟨#[]⟩ : ByteArray), .slice none 0 0]) ?_ 5 _ rfl; (with_reducible repeat (first | apply bN | apply bD | apply bA)); refine blk_put (cs := #[.int .i64 t407, .int .i64 t408, .int .i64 t409, .slice Ao14 t410.length co14, .bool false, .string (⟨#[]⟩ : ByteArray), .slice none 0 0]) ?_ 4 _ rfl; (with_reducible repeat (first | apply bN | apply bD | apply bA)); refine blk_put (cs := #[.int .i64 t407, .int .i64 t408, .int .i64 t409, .slice none 0 0, .bool false, .string (⟨#[]⟩ : ByteArray), .slice none 0 0]) ?_ 3 _ rfl; (with_reducible repeat (first | apply bN | apply bD | apply bA)); refine blk_put (cs := #[.int .i64 t407, .int .i64 t408, .int .i64 0, .slice none 0 0, .bool false, .string (⟨#[]⟩ : ByteArray), .slice none 0 0]) ?_ 2 _ rfl; (with_reducible repeat (first | apply bN | apply bD | apply bA)); refine blk_put (cs := #[.int .i64 t407, .int .i64 0, .int .i64 0, .slice none 0 0, .bool false, .string (⟨#[]⟩ : ByteArray), .slice none 0 0]) ?_ 1 _ rfl; (with_reducible repeat (first | apply bN | apply bD | apply bA)); refine blk_put (cs := #[.int .i64 0, .int .i64 0, .int .i64 0, .slice none 0 0, .bool false, .string (⟨#[]⟩ : ByteArray), .slice none 0 0]) ?_ 0 _ rfl; (with_reducible repeat (first | apply bN | apply bD | apply bA)); exact BK418.out⟩, ⟨bel HB.out⟩⟩
 case rest =>
  clear HC4
  try clear c1
  try clear c2
  try clear p2
  try clear c3
  try clear c4
  try clear c7
  try clear c11
  try clear c12
  try clear c16
  try clear c18
  try clear c19
  try clear c21
  try clear c22
  try clear hcz13_0 hcz13_1 hcz13_2 hcz13_3 hcz13_4 hcz13_5 hcz13_6
  try clear hcz20_0 hcz20_1 hcz20_2 hcz20_3 hcz20_4 hcz20_5 hcz20_6
  try clear hcz23_0 hcz23_1 hcz23_2 hcz23_3 hcz23_4 hcz23_5 hcz23_6
  try clear hcz8_0 hcz8_1 hcz8_2 hcz8_3 hcz8_4 hcz8_5 hcz8_6
  try clear hfz13_0 hfz13_1 hfz13_2 hfz13_3 hfz13_4 hfz13_5 hfz13_6
  try clear hfz20_0 hfz20_1 hfz20_2 hfz20_3 hfz20_4 hfz20_5 hfz20_6
  try clear hfz23_0 hfz23_1 hfz23_2 hfz23_3 hfz23_4 hfz23_5 hfz23_6
  try clear hfz8_0 hfz8_1 hfz8_2 hfz8_3 hfz8_4 hfz8_5 hfz8_6
  obtain ⟨kq, x17_3, rfl, HA, HJ3, HO_419003, HO_419006, BK405, BK406, BK418, HB⟩ := hcut
  cases kq with
  | zero => exact absurd HA.out (by simp [lead_Ack.j0])
  | succ kj3 =>
   have H := HA.out
   clear HA
   simp only [lead_Ack.j0] at H
   by_cases c24 : x17_3 = true
   ·subst c24
    have H1 : (some (t407, t408, t409, t410, t413, t414, t415)) = some (r1, r2, r3, r4, r5, r6, r7) := by rw [if_pos rfl] at H; exact H
    clear H
    have H := H1
    clear H1
    simp only [Option.some.injEq, Prod.mk.injEq] at H
    obtain ⟨rfl, rfl, rfl, rfl, rfl, rfl, rfl⟩ := H
    have hnb25 := NB418_405.out
    have hnc25 := NB405_418.out
    have hnb26 := NB418_406.out
    have hnc26 := NB406_418.out
    obtain ⟨hcz27_0, hcz27_1, hcz27_2, hcz27_3, hcz27_4, hcz27_5, hcz27_6⟩ := blkC7 wc gb418 (.int .i64 t407) (.int .i64 t408) (.int .i64 t409) (.slice Ao14 t410.length co14) (.bool t413) (.string t414) (.slice Ao15 t415.length co15) BK418.out
    obtain ⟨hfz27_0, hfz27_1, hfz27_2, hfz27_3, hfz27_4, hfz27_5, hfz27_6⟩ := blkF7 BK418.out
    have hnb28 := NB406_405.out
    have hnc28 := NB405_406.out
    obtain ⟨hcz29_0, hcz29_1, hcz29_2, hcz29_3, hcz29_4, hcz29_5, hcz29_6⟩ := blkC7 wc gb406 (.int .i64 0) (.int .i64 0) (.int .i64 0) (.slice none 0 0) (.bool false) (.string (⟨#[]⟩ : ByteArray)) (.slice none 0 0) BK406.out
    obtain ⟨hfz29_0, hfz29_1, hfz29_2, hfz29_3, hfz29_4, hfz29_5, hfz29_6⟩ := blkF7 BK406.out
    go_wp2
    refine bodyPost_ret (results_cell_row rfl _ _ gb406 37 #[.int .i64 t407, .int .i64 t408, .int .i64 t409, .slice Ao14 t410.length co14, .bool t413, .string t414, .slice Ao15 t415.length co15] (0, 0) _ rfl (by (with_reducible repeat (first | apply bN | apply bD | apply bA)); refine blk_put (cs := #[.int .i64 t407, .int .i64 t408, .int .i64 t409, .slice Ao14 t410.length co14, .bool t413, .string t414, .slice none 0 0]) ?_ 6 _ rfl; (with_reducible repeat (first | apply bN | apply bD | apply bA)); refine blk_put (cs := #[.int .i64 t407, .int .i64 t408, .int .i64 t409, .slice Ao14 t410.length co14, .bool t413, .string (⟨#[]⟩ : ByteArray), .slice none 0 0]) ?_ 5 _ rfl; (with_reducible repeat (first | apply bN | apply bD | apply bA)); refine blk_put (cs := #[.int .i64 t407, .int .i64 t408, .int .i64 t409, .slice Ao14 t410.length co14, .bool false, .string (⟨#[]⟩ : ByteArray), .slice none 0 0]) ?_ 4 _ rfl; (with_reducible repeat (first | apply bN | apply bD | apply bA)); refine blk_put (cs := #[.int .i64 t407, .int .i64 t408, .int .i64 t409, .slice none 0 0, .bool false, .string (⟨#[]⟩ : ByteArray), .slice none 0 0]) ?_ 3 _ rfl; (with_reducible repeat (first | apply bN | apply bD | apply bA)); refine blk_put (cs := #[.int .i64 t407, .int .i64 t408, .int .i64 0, .slice none 0 0, .bool false, .string (⟨#[]⟩ : ByteArray), .slice none 0 0]) ?_ 2 _ rfl; (with_reducible repeat (first | apply bN | apply bD | apply bA)); refine blk_put (cs := #[.int .i64 t407, .int .i64 0, .int .i64 0, .slice none 0 0, .bool false, .string (⟨#[]⟩ : ByteArray), .slice none 0 0]) ?_ 1 _ rfl; (with_reducible repeat (first | apply bN | apply bD | apply bA)); refine blk_put (cs := #[.int .i64 0, .int .i64 0, .int .i64 0, .slice none 0 0, .bool false, .string (⟨#[]⟩ : ByteArray), .slice none 0 0]) ?_ 0 _ rfl; (with_reducible repeat (first | apply bN | apply bD | apply bA)); exact BK406.out) Try.underlying37 rfl (by kernel_rfl)) rfl ?_
    exact ⟨_, _, by first | rfl | (simp [errW_none, errW_some] <;> rfl) | (simp [*, errW_none, errW_some] <;> rfl), by (with_reducible repeat (first | apply Kd.R_alloc | apply Kd.R_drewN | apply Kd.R_drew)); exact Kd.R_mono (Kd.R_far (p := ⟨gb406, 6, none⟩) (Kd.R_far (p := ⟨gb406, 5, none⟩) (Kd.R_far (p := ⟨gb406, 4, none⟩) (Kd.R_far (p := ⟨gb406, 3, none⟩) (Kd.R_far (p := ⟨gb406, 2, none⟩) (Kd.R_far (p := ⟨gb406, 1, none⟩) (Kd.R_far (p := ⟨gb406, 0, none⟩) (Kd.R_types HO_419003.out BK406.out (by decide)) (fun _ hk => hk.2) (.int .i64 t407)) (fun _ hk => hk.2) (.int .i64 t408)) (fun _ hk => hk.2) (.int .i64 t409)) (fun _ hk => hk.2) (.slice Ao14 t410.length co14)) (fun _ hk => hk.2) (.bool t413)) (fun _ hk => hk.2) (.string t414)) (fun _ hk => hk.2) (.slice Ao15 t415.length co15)) (fun _ hk => trivial), by (with_reducible repeat (first | apply Kd.R_alloc | apply Kd.R_drewN | apply Kd.R_drew)); exact Kd.R_mono (Kd.R_far (p := ⟨gb406, 6, none⟩) (Kd.R_far (p := ⟨gb406, 5, none⟩) (Kd.R_far (p := ⟨gb406, 4, none⟩) (Kd.R_far (p := ⟨gb406, 3, none⟩) (Kd.R_far (p := ⟨gb406, 2, none⟩) (Kd.R_far (p := ⟨gb406, 1, none⟩) (Kd.R_far (p := ⟨gb406, 0, none⟩) (Kd.R_types HO_419006.out BK406.out (by decide)) (fun _ hk => hk.2) (.int .i64 t407)) (fun _ hk => hk.2) (.int .i64 t408)) (fun _ hk => hk.2) (.int .i64 t409)) (fun _ hk => hk.2) (.slice Ao14 t410.length co14)) (fun _ hk => hk.2) (.bool t413)) (fun _ hk => hk.2) (.string t414)) (fun _ hk => hk.2) (.slice Ao15 t415.length co15)) (fun _ hk => trivial), by repeat (first | (with_reducible first | exact HB.out | apply below_alloc | apply pw_below_drewN | apply below_drew1 | refine below_set ?_ (Aside0.out ‹_›)) | exact HB.out)⟩
   ·replace c24 := Bool.eq_false_iff.mpr c24
    subst c24
    have H1 : (lead_Ack.l0 kj3 a1 0 t407 t408 t409 t410 t413 t414 t415) = some (r1, r2, r3, r4, r5, r6, r7) := by rw [if_neg (show ¬ (false = true) by decide)] at H; exact H
    clear H
    have H := H1
    clear H1
    have H' := Aside0.mk H
    clear H
    go_wp2
    go_loopg [6] kj3 (fun kq v6 w' => ∃ (x6_2 : Int), v6 = .int .i64 x6_2 ∧ Aside0 (lead_Ack.l0 kq a1 x6_2 t407 t408 t409 t410 t413 t414 t415 = some (r1, r2, r3, r4, r5, r6, r7)) ∧ Aside0 (kq ≤ kj3) ∧ Aside0 (Kd.R k39 39 w' w.heap.size (fun _ => True) (.slice Ao14 t410.length co14) t410) ∧ Aside0 (Kd.R (Kd.int .i64) 3 w' w.heap.size (fun _ => True) (.slice Ao15 t415.length co15) t415) ∧ Aside0 (w'.heap[gb405]? = some (.cells #[.int .i64 a0_0, .int .i64 a0_1, .int .i64 a0_2, (.slice A0_3 l0_3.length c0_3), .bool a0_4, .string a0_5, (.slice A0_6 l0_6.length c0_6)] 37 (0, 0))) ∧ Aside0 (w'.heap[gb406]? = some (.cells #[.int .i64 0, .int .i64 0, .int .i64 0, (.slice none 0 0), .bool false, .string (⟨#[]⟩ : ByteArray), (.slice none 0 0)] 37 (0, 0))) ∧ Aside0 (w'.heap[gb418]? = some (.cells #[.int .i64 t407, .int .i64 t408, .int .i64 t409, (.slice Ao14 t410.length co14), .bool t413, .string t414, (.slice Ao15 t415.length co15)] 37 (0, 0))) ∧ Aside0 (Below w.heap.size w w'))
    case atStart => exact ⟨(0), (by first | rfl | (simp; done) | (simp [*]; done)), H', ⟨Nat.le_refl _⟩, ⟨Kd.R_up HO_419003.out⟩, ⟨Kd.R_up HO_419006.out⟩, ⟨bup BK405.out⟩, ⟨bup BK406.out⟩, ⟨bup BK418.out⟩, ⟨bel HB.out⟩⟩
    case round =>
     clear H'
     try clear c1
     try clear c2
     try clear p2
     try clear c3
     try clear c4
     try clear c7
     try clear c11
     try clear c12
     try clear c16
     try clear c18
     try clear c19
     try clear c21
     try clear c22
     try clear c24
     try clear c25
     try clear c26
     try clear c28
     try clear hcz13_0 hcz13_1 hcz13_2 hcz13_3 hcz13_4 hcz13_5 hcz13_6
     try clear hcz20_0 hcz20_1 hcz20_2 hcz20_3 hcz20_4 hcz20_5 hcz20_6
     try clear hcz23_0 hcz23_1 hcz23_2 hcz23_3 hcz23_4 hcz23_5 hcz23_6
     try clear hcz27_0 hcz27_1 hcz27_2 hcz27_3 hcz27_4 hcz27_5 hcz27_6
     try clear hcz29_0 hcz29_1 hcz29_2 hcz29_3 hcz29_4 hcz29_5 hcz29_6
     try clear hcz8_0 hcz8_1 hcz8_2 hcz8_3 hcz8_4 hcz8_5 hcz8_6
     try clear hfz13_0 hfz13_1 hfz13_2 hfz13_3 hfz13_4 hfz13_5 hfz13_6
     try clear hfz20_0 hfz20_1 hfz20_2 hfz20_3 hfz20_4 hfz20_5 hfz20_6
     try clear hfz23_0 hfz23_1 hfz23_2 hfz23_3 hfz23_4 hfz23_5 hfz23_6
     try clear hfz27_0 hfz27_1 hfz27_2 hfz27_3 hfz27_4 hfz27_5 hfz27_6
     try clear hfz29_0 hfz29_1 hfz29_2 hfz29_3 hfz29_4 hfz29_5 hfz29_6
     try clear hfz8_0 hfz8_1 hfz8_2 hfz8_3 hfz8_4 hfz8_5 hfz8_6
     try clear p2
     obtain ⟨x6_2, rfl, HA, HK2, HO_419003, HO_419006, BK405, BK406, BK418, HB⟩ := hrel
     cases gk with
     | zero => exact absurd HA.out (by simp [lead_Ack.l0])
     | succ k2 =>
      have H := HA.out
      clear HA
      simp only [lead_Ack.l0] at H
      by_cases c30 : x6_2 < (t415.length : Int)
      ·rw [if_pos c30] at H
       have c30b0 : decide (x6_2 < (t415.length : Int)) = true := decide_eq_true c30
       clear c30
       by_cases c31 : 0 ≤ x6_2
       ·rw [if_pos c31] at H
        have c31b0 : decide (0 ≤ x6_2) = true := decide_eq_true c31
        clear c31
        by_cases c32 : (rd t415 x6_2) < a1
        ·rw [if_pos c32] at H
         have c32b0 : decide ((rd t415 x6_2) < a1) = true := decide_eq_true c32
         clear c32
         have H' := Aside0.mk H
         clear H
         have hnb33 := NB418_405.out
         have hnc33 := NB405_418.out
         have hnb34 := NB418_406.out
         have hnc34 := NB406_418.out
         obtain ⟨hcz35_0, hcz35_1, hcz35_2, hcz35_3, hcz35_4, hcz35_5, hcz35_6⟩ := blkC7 wr gb418 (.int .i64 t407) (.int .i64 t408) (.int .i64 t409) (.slice Ao14 t410.length co14) (.bool t413) (.string t414) (.slice Ao15 t415.length co15) BK418.out
         obtain ⟨hfz35_0, hfz35_1, hfz35_2, hfz35_3, hfz35_4, hfz35_5, hfz35_6⟩ := blkF7 BK418.out
         have p420 : 0 ≤ (x6_2 : Int) := of_decide_eq_true (by first | (with_reducible assumption) | assumption)
         have q420 : x6_2 < (t415.length : Int) := of_decide_eq_true (by first | (with_reducible assumption) | assumption)
         obtain ⟨ad420, e420, hx420_0⟩ := Kd.at_int (Kd.R_reads' HO_419006.out).2.2 x6_2 p420 q420
         cases e420
         replace p420 := eq_true p420
         replace q420 := eq_true q420
         go_wp2
         go_roundg k2
         case measure => have := HJ3.out; have := HK2.out; omega
         case rel => exact ⟨(wrap64 (x6_2 + 1)), (by first | rfl | (simp; done) | (simp [*]; done)), H', ⟨by have := HJ3.out; have := HK2.out; omega⟩, ⟨Kd.R_up HO_419003.out⟩, ⟨Kd.R_up HO_419006.out⟩, ⟨bup BK405.out⟩, ⟨bup BK406.out⟩, ⟨bup BK418.out⟩, ⟨bel HB.out⟩⟩
        ·rw [if_neg c32] at H
         have c32b0 : decide ((rd t415 x6_2) < a1) = false := decide_eq_false c32
         clear c32
         obtain ⟨y421, hy421⟩ : ∃ y_ : List Int, y_ = (([a1] : List Int)) := ⟨_, rfl⟩
         replace H : ((slices_Insert_int_int.f t415 x6_2 y421).bind fun t424 => (some (t407, t408, t409, t410, t413, t414, t424))) = some (r1, r2, r3, r4, r5, r6, r7) := by first | (rw [hy421]; with_reducible exact H) | (have H2_ := (Option.bind_some _ _).symm.trans H; rw [hy421]; with_reducible exact H2_) | (have H2_ := (Option.bind_some _ _).symm.trans H; with_reducible exact H2_) | with_reducible exact H | (rw [hy421]; exact H) | exact H
         have Ny421 := Aside0.mk hy421
         clear hy421
         replace H := Option.bind_eq_some_iff.mp H
         obtain ⟨t424, A360, H⟩ := H
         replace H : (some (t407, t408, t409, t410, t413, t414, t424)) = some (r1, r2, r3, r4, r5, r6, r7) := H
         have A36 := Aside0.mk A360
         clear A360
         simp only [Option.some.injEq, Prod.mk.injEq] at H
         obtain ⟨rfl, rfl, rfl, rfl, rfl, rfl, rfl⟩ := H
         have hnb37 := NB418_405.out
         have hnc37 := NB405_418.out
         have hnb38 := NB418_406.out
         have hnc38 := NB406_418.out
         obtain ⟨hcz39_0, hcz39_1, hcz39_2, hcz39_3, hcz39_4, hcz39_5, hcz39_6⟩ := blkC7 wr gb418 (.int .i64 t407) (.int .i64 t408) (.int .i64 t409) (.slice Ao14 t410.length co14) (.bool t413) (.string t414) (.slice Ao15 t415.length co15) BK418.out
         obtain ⟨hfz39_0, hfz39_1, hfz39_2, hfz39_3, hfz39_4, hfz39_5, hfz39_6⟩ := blkF7 BK418.out
         have p420 : 0 ≤ (x6_2 : Int) := of_decide_eq_true (by first | (with_reducible assumption) | assumption)
         have q420 : x6_2 < (t415.length : Int) := of_decide_eq_true (by first | (with_reducible assumption) | assumption)
         obtain ⟨ad420, e420, hx420_0⟩ := Kd.at_int (Kd.R_reads' HO_419006.out).2.2 x6_2 p420 q420
         cases e420
         replace p420 := eq_true p420
         replace q420 := eq_true q420
         go_wp2_with (first | ((with_reducible refine gate_dst (N := 39) rfl ?_); refine Kd.R_lit (Kd.int .i64) _ 3 ?hg (N := 39) ?hd (xs := ([a1] : List Int)) (inner := [.int .i64 a1]) (ok := fun _ => True) (okp := fun _ => True) ?hr ?hp (fun _ hk => hk) trivial (Below.refl _ _) (Nat.le_refl _) (by simp) ?_; (case hd => rfl); (case hg => rfl); (case hr => first | (go_simp; done) | (go_simp; rfl)); (case hp => exact (Reps.one (show Kd.M (Kd.int .i64) _ _ _ a1 [.int .i64 a1] from rfl) (Reps.none _ _))); intro v422 w40 ho41 hb hg_ hnew_; clear hg_ hnew_; (first | rw [← Ny421.out] at ho41 | (simp only [Int.reduceToNat] at ho41; rw [← Ny421.out] at ho41)); have n0_ := Aside0.mk (Kd.R_below (Kd.R_up HO_419003.out) hb); have n1_ := Aside0.mk (Kd.R_elder' (Kd.R_up HO_419006.out) (Kd.R_base ho41) hb); have n2_ := Aside0.mk (Kd.R_lower (Kd.R_new' ho41 (Kd.R_lt (Kd.R_up HO_419006.out))) (below_size (bel HB.out))); have n3_ := Aside0.mk (blk_below (g := gb405) (o := .cells #[.int .i64 a0_0, .int .i64 a0_1, .int .i64 a0_2, .slice A0_3 l0_3.length c0_3, .bool a0_4, .string a0_5, .slice A0_6 l0_6.length c0_6] 37 (0, 0)) (bup BK405.out) hb); have n4_ := Aside0.mk (blk_below (g := gb406) (o := .cells #[.int .i64 0, .int .i64 0, .int .i64 0, .slice none 0 0, .bool false, .string (⟨#[]⟩ : ByteArray), .slice none 0 0] 37 (0, 0)) (bup BK406.out) hb); have n5_ := Aside0.mk (blk_below (g := gb418) (o := .cells #[.int .i64 t407, .int .i64 t408, .int .i64 t409, .slice Ao14 t410.length co14, .bool t413, .string t414, .slice (some ad420) t415.length co15] 37 (0, 0)) (bup BK418.out) hb); have n6_ := Aside0.mk (below_step (bel HB.out) hb); clear HO_419003; clear HO_419006; clear BK405; clear BK406; clear BK418; clear HB; have HO_419003 := n0_; have HO_419006 := n1_; have HO423 := n2_; have BK405 := n3_; have BK406 := n4_; have BK418 := n5_; have HB := n6_; clear n0_ n1_ n2_ n3_ n4_ n5_ n6_; clear hb ho41; obtain ⟨Ao42, co42, eo42⟩ := Kd.R_slice HO423.out; subst eo42) | ((with_reducible refine gate_callee (f := 49) rfl ?_); refine goesL_ (some 40) rfl rfl Try.func49 (by kernel_rfl) rfl #[.slice (some ad420) t415.length co15, .int .i64 x6_2, .slice Ao42 y421.length co42] rfl (by (try simp only [List.map_toArray, List.map_cons, List.map_nil]); first | done | rfl | (simp only [List.length_drop, List.length_take]; rfl)) ?_; refine (slices_Insert_int_int.own _ _ t415 x6_2 _ _ y421 t424 _ (base := w.heap.size) (ok2 := ?okk300) ?side1 ?side2 ?side3 ?side4 A36.out).mono ?_; (case side1 => exact Kd.R_mono (Kd.R_up HO_419006.out) (fun _ _ => trivial)); (case side2 => exact below_size (bel HB.out)); (case side3 => (with_reducible repeat (first | apply Kd.R_alloc | apply Kd.R_drewN | apply Kd.R_drew)); exact HO423.out); (case side4 => exact fun k hk => by first | exact hk.2 | exact hk.1.2 | exact hk.1.1.2); rintro e w43 ⟨v425, rfl, ho0, hb, hg⟩; refine ⟨_, rfl, ?_⟩; have n1_ := Aside0.mk (Kd.R_grown (ints_apart (Kd.R_up HO_419003.out) (Kd.R_up HO_419006.out)) hg (fun _ hk => hk.2)); have mBK405_ := Aside0.mk (blk_grow (t := 37) (Kd.R_up HO_419006.out) hg (by decide) (bup BK405.out)); have mBK406_ := Aside0.mk (blk_grow (t := 37) (Kd.R_up HO_419006.out) hg (by decide) (bup BK406.out)); have mBK418_ := Aside0.mk (blk_grow (t := 37) (Kd.R_up HO_419006.out) hg (by decide) (bup BK418.out)); have n8_ := Aside0.mk (Below.trans (bel HB.out) hb); clear HO_419003; clear HO_419006; clear HO423; clear BK405; clear BK406; clear BK418; clear HB; have HO_419003 := n1_; have HO426 := Aside0.mk ho0; have BK405 := mBK405_; clear mBK405_; have BK406 := mBK406_; clear mBK406_; have BK418 := mBK418_; clear mBK418_; have HB := n8_; clear n1_ n8_; clear ho0 hb hg; obtain ⟨Ao44, co44, eo44⟩ := Kd.R_slice HO426.out; subst eo44; obtain ⟨hcz45_0, hcz45_1, hcz45_2, hcz45_3, hcz45_4, hcz45_5, hcz45_6⟩ := blkC7 w43 gb418 (.int .i64 t407) (.int .i64 t408) (.int .i64 t409) (.slice Ao14 t410.length co14) (.bool t413) (.string t414) (.slice (some ad420) t415.length co15) BK418.out; obtain ⟨hfz45_0, hfz45_1, hfz45_2, hfz45_3, hfz45_4, hfz45_5, hfz45_6⟩ := blkF7 BK418.out; have hnb46 := NB406_405.out; have hnc46 := NB405_406.out; obtain ⟨hcz47_0, hcz47_1, hcz47_2, hcz47_3, hcz47_4, hcz47_5, hcz47_6⟩ := blkC7 w43 gb406 (.int .i64 0) (.int .i64 0) (.int .i64 0) (.slice none 0 0) (.bool false) (.string (⟨#[]⟩ : ByteArray)) (.slice none 0 0) BK406.out; obtain ⟨hfz47_0, hfz47_1, hfz47_2, hfz47_3, hfz47_4, hfz47_5, hfz47_6⟩ := blkF7 BK406.out))
         refine bodyPost_ret (results_cell_row rfl _ _ gb406 37 #[.int .i64 t407, .int .i64 t408, .int .i64 t409, .slice Ao14 t410.length co14, .bool t413, .string t414, .slice Ao44 t424.length co44] (0, 0) _ rfl (by (with_reducible repeat (first | apply bN | apply bD | apply bA)); refine blk_put (cs := #[.int .i64 t407, .int .i64 t408, .int .i64 t409, .slice Ao14 t410.length co14, .bool t413, .string t414, .slice none 0 0]) ?_ 6 _ rfl; (with_reducible repeat (first | apply bN | apply bD | apply bA)); refine blk_put (cs := #[.int .i64 t407, .int .i64 t408, .int .i64 t409, .slice Ao14 t410.length co14, .bool t413, .string (⟨#[]⟩ : ByteArray), .slice none 0 0]) ?_ 5 _ rfl; (with_reducible repeat (first | apply bN | apply bD | apply bA)); refine blk_put (cs := #[.int .i64 t407, .int .i64 t408, .int .i64 t409, .slice Ao14 t410.length co14, .bool false, .string (⟨#[]⟩ : ByteArray), .slice none 0 0]) ?_ 4 _ rfl; (with_reducible repeat (first | apply bN | apply bD | apply bA)); refine blk_put (cs := #[.int .i64 t407, .int .i64 t408, .int .i64 t409, .slice none 0 0, .bool false, .string (⟨#[]⟩ : ByteArray), .slice none 0 0]) ?_ 3 _ rfl; (with_reducible repeat (first | apply bN | apply bD | apply bA)); refine blk_put (cs := #[.int .i64 t407, .int .i64 t408, .int .i64 0, .slice none 0 0, .bool false, .string (⟨#[]⟩ : ByteArray), .slice none 0 0]) ?_ 2 _ rfl; (with_reducible repeat (first | apply bN | apply bD | apply bA)); refine blk_put (cs := #[.int .i64 t407, .int .i64 0, .int .i64 0, .slice none 0 0, .bool false, .string (⟨#[]⟩ : ByteArray), .slice none 0 0]) ?_ 1 _ rfl; (with_reducible repeat (first | apply bN | apply bD | apply bA)); refine blk_put (cs := #[.int .i64 0, .int .i64 0, .int .i64 0, .slice none 0 0, .bool false, .string (⟨#[]⟩ : ByteArray), .slice none 0 0]) ?_ 0 _ rfl; (with_reducible repeat (first | apply bN | apply bD | apply bA)); refine blk_far ?_ NB406_418.out _; (with_reducible repeat (first | apply bN | apply bD | apply bA)); exact BK406.out) Try.underlying37 rfl (by kernel_rfl)) rfl ?_
         exact ⟨_, _, by first | rfl | (simp [errW_none, errW_some] <;> rfl) | (simp [*, errW_none, errW_some] <;> rfl), by (with_reducible repeat (first | apply Kd.R_alloc | apply Kd.R_drewN | apply Kd.R_drew)); exact Kd.R_mono (Kd.R_far (p := ⟨gb406, 6, none⟩) (Kd.R_far (p := ⟨gb406, 5, none⟩) (Kd.R_far (p := ⟨gb406, 4, none⟩) (Kd.R_far (p := ⟨gb406, 3, none⟩) (Kd.R_far (p := ⟨gb406, 2, none⟩) (Kd.R_far (p := ⟨gb406, 1, none⟩) (Kd.R_far (p := ⟨gb406, 0, none⟩) (Kd.R_far (p := ⟨gb418, 6, none⟩) (Kd.R_types (Kd.R_types HO_419003.out BK418.out (by decide)) BK406.out (by decide)) (fun _ hk => hk.1.2) (.slice Ao44 t424.length co44)) (fun _ hk => hk.2) (.int .i64 t407)) (fun _ hk => hk.2) (.int .i64 t408)) (fun _ hk => hk.2) (.int .i64 t409)) (fun _ hk => hk.2) (.slice Ao14 t410.length co14)) (fun _ hk => hk.2) (.bool t413)) (fun _ hk => hk.2) (.string t414)) (fun _ hk => hk.2) (.slice Ao44 t424.length co44)) (fun _ hk => trivial), by (with_reducible repeat (first | apply Kd.R_alloc | apply Kd.R_drewN | apply Kd.R_drew)); exact Kd.R_mono (Kd.R_far (p := ⟨gb406, 6, none⟩) (Kd.R_far (p := ⟨gb406, 5, none⟩) (Kd.R_far (p := ⟨gb406, 4, none⟩) (Kd.R_far (p := ⟨gb406, 3, none⟩) (Kd.R_far (p := ⟨gb406, 2, none⟩) (Kd.R_far (p := ⟨gb406, 1, none⟩) (Kd.R_far (p := ⟨gb406, 0, none⟩) (Kd.R_far (p := ⟨gb418, 6, none⟩) (Kd.R_types (Kd.R_types HO426.out BK418.out (by decide)) BK406.out (by decide)) (fun _ hk => hk.1.2) (.slice Ao44 t424.length co44)) (fun _ hk => hk.2) (.int .i64 t407)) (fun _ hk => hk.2) (.int .i64 t408)) (fun _ hk => hk.2) (.int .i64 t409)) (fun _ hk => hk.2) (.slice Ao14 t410.length co14)) (fun _ hk => hk.2) (.bool t413)) (fun _ hk => hk.2) (.string t414)) (fun _ hk => hk.2) (.slice Ao44 t424.length co44)) (fun _ hk => trivial), by repeat (first | (with_reducible first | exact HB.out | apply below_alloc | apply pw_below_drewN | apply below_drew1 | refine below_set ?_ (Aside0.out ‹_›)) | exact HB.out)⟩
       ·rw [if_neg c31] at H
        exact absurd H (by simp)
      ·rw [if_neg c30] at H
       have c30b0 : decide (x6_2 < (t415.length : Int)) = false := decide_eq_false c30
       clear c30
       obtain ⟨y427, hy427⟩ : ∃ y_ : List Int, y_ = (([a1] : List Int)) := ⟨_, rfl⟩
       replace H : ((slices_Insert_int_int.f t415 x6_2 y427).bind fun t430 => (some (t407, t408, t409, t410, t413, t414, t430))) = some (r1, r2, r3, r4, r5, r6, r7) := by first | (rw [hy427]; with_reducible exact H) | (have H2_ := (Option.bind_some _ _).symm.trans H; rw [hy427]; with_reducible exact H2_) | (have H2_ := (Option.bind_some _ _).symm.trans H; with_reducible exact H2_) | with_reducible exact H | (rw [hy427]; exact H) | exact H
       have Ny427 := Aside0.mk hy427
       clear hy427
       replace H := Option.bind_eq_some_iff.mp H
       obtain ⟨t430, A480, H⟩ := H
       replace H : (some (t407, t408, t409, t410, t413, t414, t430)) = some (r1, r2, r3, r4, r5, r6, r7) := H
       have A48 := Aside0.mk A480
       clear A480
       simp only [Option.some.injEq, Prod.mk.injEq] at H
       obtain ⟨rfl, rfl, rfl, rfl, rfl, rfl, rfl⟩ := H
       have hnb49 := NB418_405.out
       have hnc49 := NB405_418.out
       have hnb50 := NB418_406.out
       have hnc50 := NB406_418.out
       obtain ⟨hcz51_0, hcz51_1, hcz51_2, hcz51_3, hcz51_4, hcz51_5, hcz51_6⟩ := blkC7 wr gb418 (.int .i64 t407) (.int .i64 t408) (.int .i64 t409) (.slice Ao14 t410.length co14) (.bool t413) (.string t414) (.slice Ao15 t415.length co15) BK418.out
       obtain ⟨hfz51_0, hfz51_1, hfz51_2, hfz51_3, hfz51_4, hfz51_5, hfz51_6⟩ := blkF7 BK418.out
       go_wp2_with (first | ((with_reducible refine gate_dst (N := 39) rfl ?_); refine Kd.R_lit (Kd.int .i64) _ 3 ?hg (N := 39) ?hd (xs := ([a1] : List Int)) (inner := [.int .i64 a1]) (ok := fun _ => True) (okp := fun _ => True) ?hr ?hp (fun _ hk => hk) trivial (Below.refl _ _) (Nat.le_refl _) (by simp) ?_; (case hd => rfl); (case hg => rfl); (case hr => first | (go_simp; done) | (go_simp; rfl)); (case hp => exact (Reps.one (show Kd.M (Kd.int .i64) _ _ _ a1 [.int .i64 a1] from rfl) (Reps.none _ _))); intro v428 w52 ho53 hb hg_ hnew_; clear hg_ hnew_; (first | rw [← Ny427.out] at ho53 | (simp only [Int.reduceToNat] at ho53; rw [← Ny427.out] at ho53)); have n0_ := Aside0.mk (Kd.R_below (Kd.R_up HO_419003.out) hb); have n1_ := Aside0.mk (Kd.R_elder' (Kd.R_up HO_419006.out) (Kd.R_base ho53) hb); have n2_ := Aside0.mk (Kd.R_lower (Kd.R_new' ho53 (Kd.R_lt (Kd.R_up HO_419006.out))) (below_size (bel HB.out))); have n3_ := Aside0.mk (blk_below (g := gb405) (o := .cells #[.int .i64 a0_0, .int .i64 a0_1, .int .i64 a0_2, .slice A0_3 l0_3.length c0_3, .bool a0_4, .string a0_5, .slice A0_6 l0_6.length c0_6] 37 (0, 0)) (bup BK405.out) hb); have n4_ := Aside0.mk (blk_below (g := gb406) (o := .cells #[.int .i64 0, .int .i64 0, .int .i64 0, .slice none 0 0, .bool false, .string (⟨#[]⟩ : ByteArray), .slice none 0 0] 37 (0, 0)) (bup BK406.out) hb); have n5_ := Aside0.mk (blk_below (g := gb418) (o := .cells #[.int .i64 t407, .int .i64 t408, .int .i64 t409, .slice Ao14 t410.length co14, .bool t413, .string t414, .slice Ao15 t415.length co15] 37 (0, 0)) (bup BK418.out) hb); have n6_ := Aside0.mk (below_step (bel HB.out) hb); clear HO_419003; clear HO_419006; clear BK405; clear BK406; clear BK418; clear HB; have HO_419003 := n0_; have HO_419006 := n1_; have HO429 := n2_; have BK405 := n3_; have BK406 := n4_; have BK418 := n5_; have HB := n6_; clear n0_ n1_ n2_ n3_ n4_ n5_ n6_; clear hb ho53; obtain ⟨Ao54, co54, eo54⟩ := Kd.R_slice HO429.out; subst eo54) | ((with_reducible refine gate_callee (f := 49) rfl ?_); refine goesL_ (some 40) rfl rfl Try.func49 (by kernel_rfl) rfl #[.slice Ao15 t415.length co15, .int .i64 x6_2, .slice Ao54 y427.length co54] rfl (by (try simp only [List.map_toArray, List.map_cons, List.map_nil]); first | done | rfl | (simp only [List.length_drop, List.length_take]; rfl)) ?_; refine (slices_Insert_int_int.own _ _ t415 x6_2 _ _ y427 t430 _ (base := w.heap.size) (ok2 := ?okk325) ?side1 ?side2 ?side3 ?side4 A48.out).mono ?_; (case side1 => exact Kd.R_mono (Kd.R_up HO_419006.out) (fun _ _ => trivial)); (case side2 => exact below_size (bel HB.out)); (case side3 => (with_reducible repeat (first | apply Kd.R_alloc | apply Kd.R_drewN | apply Kd.R_drew)); exact HO429.out); (case side4 => exact fun k hk => by first | exact hk.2 | exact hk.1.2 | exact hk.1.1.2); rintro e w55 ⟨v431, rfl, ho0, hb, hg⟩; refine ⟨_, rfl, ?_⟩; have n1_ := Aside0.mk (Kd.R_grown (ints_apart (Kd.R_up HO_419003.out) (Kd.R_up HO_419006.out)) hg (fun _ hk => hk.2)); have mBK405_ := Aside0.mk (blk_grow (t := 37) (Kd.R_up HO_419006.out) hg (by decide) (bup BK405.out)); have mBK406_ := Aside0.mk (blk_grow (t := 37) (Kd.R_up HO_419006.out) hg (by decide) (bup BK406.out)); have mBK418_ := Aside0.mk (blk_grow (t := 37) (Kd.R_up HO_419006.out) hg (by decide) (bup BK418.out)); have n8_ := Aside0.mk (Below.trans (bel HB.out) hb); clear HO_419003; clear HO_419006; clear HO429; clear BK405; clear BK406; clear BK418; clear HB; have HO_419003 := n1_; have HO432 := Aside0.mk ho0; have BK405 := mBK405_; clear mBK405_; have BK406 := mBK406_; clear mBK406_; have BK418 := mBK418_; clear mBK418_; have HB := n8_; clear n1_ n8_; clear ho0 hb hg; obtain ⟨Ao56, co56, eo56⟩ := Kd.R_slice HO432.out; subst eo56; obtain ⟨hcz57_0, hcz57_1, hcz57_2, hcz57_3, hcz57_4, hcz57_5, hcz57_6⟩ := blkC7 w55 gb418 (.int .i64 t407) (.int .i64 t408) (.int .i64 t409) (.slice Ao14 t410.length co14) (.bool t413) (.string t414) (.slice Ao15 t415.length co15) BK418.out; obtain ⟨hfz57_0, hfz57_1, hfz57_2, hfz57_3, hfz57_4, hfz57_5, hfz57_6⟩ := blkF7 BK418.out; have hnb58 := NB406_405.out; have hnc58 := NB405_406.out; obtain ⟨hcz59_0, hcz59_1, hcz59_2, hcz59_3, hcz59_4, hcz59_5, hcz59_6⟩ := blkC7 w55 gb406 (.int .i64 0) (.int .i64 0) (.int .i64 0) (.slice none 0 0) (.bool false) (.string (⟨#[]⟩ : ByteArray)) (.slice none 0 0) BK406.out; obtain ⟨hfz59_0, hfz59_1, hfz59_2, hfz59_3, hfz59_4, hfz59_5, hfz59_6⟩ := blkF7 BK406.out))
       refine bodyPost_ret (results_cell_row rfl _ _ gb406 37 #[.int .i64 t407, .int .i64 t408, .int .i64 t409, .slice Ao14 t410.length co14, .bool t413, .string t414, .slice Ao56 t430.length co56] (0, 0) _ rfl (by (with_reducible repeat (first | apply bN | apply bD | apply bA)); refine blk_put (cs := #[.int .i64 t407, .int .i64 t408, .int .i64 t409, .slice Ao14 t410.length co14, .bool t413, .string t414, .slice none 0 0]) ?_ 6 _ rfl; (with_reducible repeat (first | apply bN | apply bD | apply bA)); refine blk_put (cs := #[.int .i64 t407, .int .i64 t408, .int .i64 t409, .slice Ao14 t410.length co14, .bool t413, .string (⟨#[]⟩ : ByteArray), .slice none 0 0]) ?_ 5 _ rfl; (with_reducible repeat (first | apply bN | apply bD | apply bA)); refine blk_put (cs := #[.int .i64 t407, .int .i64 t408, .int .i64 t409, .slice Ao14 t410.length co14, .bool false, .string (⟨#[]⟩ : ByteArray), .slice none 0 0]) ?_ 4 _ rfl; (with_reducible repeat (first | apply bN | apply bD | apply bA)); refine blk_put (cs := #[.int .i64 t407, .int .i64 t408, .int .i64 t409, .slice none 0 0, .bool false, .string (⟨#[]⟩ : ByteArray), .slice none 0 0]) ?_ 3 _ rfl; (with_reducible repeat (first | apply bN | apply bD | apply bA)); refine blk_put (cs := #[.int .i64 t407, .int .i64 t408, .int .i64 0, .slice none 0 0, .bool false, .string (⟨#[]⟩ : ByteArray), .slice none 0 0]) ?_ 2 _ rfl; (with_reducible repeat (first | apply bN | apply bD | apply bA)); refine blk_put (cs := #[.int .i64 t407, .int .i64 0, .int .i64 0, .slice none 0 0, .bool false, .string (⟨#[]⟩ : ByteArray), .slice none 0 0]) ?_ 1 _ rfl; (with_reducible repeat (first | apply bN | apply bD | apply bA)); refine blk_put (cs := #[.int .i64 0, .int .i64 0, .int .i64 0, .slice none 0 0, .bool false, .string (⟨#[]⟩ : ByteArray), .slice none 0 0]) ?_ 0 _ rfl; (with_reducible repeat (first | apply bN | apply bD | apply bA)); refine blk_far ?_ NB406_418.out _; (with_reducible repeat (first | apply bN | apply bD | apply bA)); exact BK406.out) Try.underlying37 rfl (by kernel_rfl)) rfl ?_
       exact ⟨_, _, by first | rfl | (simp [errW_none, errW_some] <;> rfl) | (simp [*, errW_none, errW_some] <;> rfl), by (with_reducible repeat (first | apply Kd.R_alloc | apply Kd.R_drewN | apply Kd.R_drew)); exact Kd.R_mono (Kd.R_far (p := ⟨gb406, 6, none⟩) (Kd.R_far (p := ⟨gb406, 5, none⟩) (Kd.R_far (p := ⟨gb406, 4, none⟩) (Kd.R_far (p := ⟨gb406, 3, none⟩) (Kd.R_far (p := ⟨gb406, 2, none⟩) (Kd.R_far (p := ⟨gb406, 1, none⟩) (Kd.R_far (p := ⟨gb406, 0, none⟩) (Kd.R_far (p := ⟨gb418, 6, none⟩) (Kd.R_types (Kd.R_types HO_419003.out BK418.out (by decide)) BK406.out (by decide)) (fun _ hk => hk.1.2) (.slice Ao56 t430.length co56)) (fun _ hk => hk.2) (.int .i64 t407)) (fun _ hk => hk.2) (.int .i64 t408)) (fun _ hk => hk.2) (.int .i64 t409)) (fun _ hk => hk.2) (.slice Ao14 t410.length co14)) (fun _ hk => hk.2) (.bool t413)) (fun _ hk => hk.2) (.string t414)) (fun _ hk => hk.2) (.slice Ao56 t430.length co56)) (fun _ hk => trivial), by (with_reducible repeat (first | apply Kd.R_alloc | apply Kd.R_drewN | apply Kd.R_drew)); exact Kd.R_mono (Kd.R_far (p := ⟨gb406, 6, none⟩) (Kd.R_far (p := ⟨gb406, 5, none⟩) (Kd.R_far (p := ⟨gb406, 4, none⟩) (Kd.R_far (p := ⟨gb406, 3, none⟩) (Kd.R_far (p := ⟨gb406, 2, none⟩) (Kd.R_far (p := ⟨gb406, 1, none⟩) (Kd.R_far (p := ⟨gb406, 0, none⟩) (Kd.R_far (p := ⟨gb418, 6, none⟩) (Kd.R_types (Kd.R_types HO432.out BK418.out (by decide)) BK406.out (by decide)) (fun _ hk => hk.1.2) (.slice Ao56 t430.length co56)) (fun _ hk => hk.2) (.int .i64 t407)) (fun _ hk => hk.2) (.int .i64 t408)) (fun _ hk => hk.2) (.int .i64 t409)) (fun _ hk => hk.2) (.slice Ao14 t410.length co14)) (fun _ hk => hk.2) (.bool t413)) (fun _ hk => hk.2) (.string t414)) (fun _ hk => hk.2) (.slice Ao56 t430.length co56)) (fun _ hk => trivial), by repeat (first | (with_reducible first | exact HB.out | apply below_alloc | apply pw_below_drewN | apply below_drew1 | refine below_set ?_ (Aside0.out ‹_›)) | exact HB.out)⟩
end Go.Proofs.Ytpdpjcpmpppadaa.P
