-- left of the seat's texts by prune.py, a program of this session
import Derived.Handy
import Derived.LoopN
import Derived.Test.YtcheinjlgojepaaDoorP0
import Derived.Shelf.Strings.Replace
namespace Go.Proofs.YtcheinjlgojepaaDoor.P
open Go.RowKit Go.Proofs.YtcheinjlgojepaaDoorW.PrintWords Go.Proofs.YtcheinjlgojepaaDoorW.PrintLast Go.Proofs.YtcheinjlgojepaaDoorW.PrintMore
set_option linter.unusedVariables false
set_option linter.unusedSimpArgs false
def high8 (a0 : Int) : List Int := [a0 / 72057594037927936 % 256, a0 / 281474976710656 % 256, a0 / 1099511627776 % 256, a0 / 4294967296 % 256, a0 / 16777216 % 256, a0 / 65536 % 256, a0 / 256 % 256, a0 % 256]
def code_high.f (a0 : Int) : Option (List Int) := some (high8 a0)
theorem high_row {W : World} {base g : Nat} {cs : Array Value} (hb : base ≤ g) (hg : W.heap[g]? = some (.cells cs 73 (0, 0))) (hs : cs.size = 8) (xs : List Int) (hx : cs.toList = nums .u8 xs) (hl : xs.length = 8) : Kd.R (Kd.int .u8) 73 W base (fun _ => True) (.slice (some ⟨g, 0, none⟩) 8 8) xs := by
  have hn : (nums .u8 xs).length = 8 := by rw [← hx, Array.length_toList]; exact hs
  refine Kd.R_of_own (h1 := fun _ => rfl) (enc := fun x => Value.int .u8 x) ?_ (fun _ _ => trivial)
  show W.ownsRow base 73 1 (.slice (some ⟨g, 0, none⟩) 8 8) xs.length (nums .u8 xs)
  rw [hl]
  refine ⟨by rw [hn], .inr ⟨g, 8, cs, rfl, hb, hg, Nat.le_refl _, by decide, by rw [hs], ?_⟩⟩
  rw [← hx]
  exact List.take_of_length_le (by rw [Array.length_toList, hs]; decide)
set_option maxHeartbeats 4000000 in
set_option maxRecDepth 100000 in
theorem code_high.calls (a0 : Int) (r : List Int) (w : World) (h : code_high.f a0 = some r) :
    Calls Tryd.prog 36 #[.int .u64 a0] w fun e w' => ∃ v0_ : Value, e = .returned (v0_) ∧ Kd.R (Kd.int .u8) 73 w' w.heap.size (fun _ => True) v0_ r ∧ Below w.heap.size w w' := by
  obtain rfl := Option.some.inj h
  go_enter Tryd.func36, Tryd.ntmps36
  go_wp2
  go_rounds 9
  go_ret
  exact ⟨_, rfl, high_row (cs := #[Value.int IntKind.u8 (a0 / 72057594037927936 % 256), Value.int IntKind.u8 (a0 / 281474976710656 % 256), Value.int IntKind.u8 (a0 / 1099511627776 % 256), Value.int IntKind.u8 (a0 / 4294967296 % 256), Value.int IntKind.u8 (a0 / 16777216 % 256), Value.int IntKind.u8 (a0 / 65536 % 256), Value.int IntKind.u8 (a0 / 256 % 256), Value.int IntKind.u8 (a0 % 256)]) (Nat.le_refl _) (blk_new _ _) rfl _ rfl rfl, below_alloc (Below.refl _ _) _⟩
end Go.Proofs.YtcheinjlgojepaaDoor.P
namespace Go.Proofs
open Go.Shelf
def Tryd.lays154_ren : Go.Shelf.Ren := ⟨fun | 154 => 46 | 138 => 51 | 165 => 52 | 143 => 53 | 166 => 54 | 197 => 55 | 169 => 56 | 195 => 59 | 218 => 60 | 240 => 61 | 241 => 62 | 219 => 63 | 260 => 64 | 276 => 65 | 277 => 66 | 217 => 67 | 225 => 68 | 224 => 69 | 267 => 70 | 266 => 71 | 314 => 72 | n => n, fun | 9 => 9 | 3 => 3 | 4 => 4 | 72 => 82 | 0 => 0 | 76 => 86 | 105 => 88 | 21 => 21 | 5 => 5 | 70 => 80 | 20 => 20 | 37 => 31 | 75 => 85 | 127 => 95 | 164 => 96 | 46 => 67 | 119 => 100 | 139 => 103 | 138 => 102 | 146 => 105 | 51 => 104 | 80 => 90 | n => n, fun | 1 => 0 | 3 => 1 | 4 => 2 | n => n⟩
theorem Tryd.lays154 : Go.Proofs.Lays.n154 Tryd.prog Tryd.lays154_ren := {
  mixed := by kernel_rfl
  f138 := Tryd.func51.trans (congrArg some (by kernel_rfl))
  f143 := Tryd.func53.trans (congrArg some (by kernel_rfl))
  f154 := Tryd.func46.trans (congrArg some (by kernel_rfl))
  f165 := Tryd.func52.trans (congrArg some (by kernel_rfl))
  f166 := Tryd.func54.trans (congrArg some (by kernel_rfl))
  f169 := Tryd.func56.trans (congrArg some (by kernel_rfl))
  f195 := Tryd.func59.trans (congrArg some (by kernel_rfl))
  f197 := Tryd.func55.trans (congrArg some (by kernel_rfl))
  f217 := Tryd.func67.trans (congrArg some (by kernel_rfl))
  f218 := Tryd.func60.trans (congrArg some (by kernel_rfl))
  f219 := Tryd.func63.trans (congrArg some (by kernel_rfl))
  f224 := Tryd.func69.trans (congrArg some (by kernel_rfl))
  f225 := Tryd.func68.trans (congrArg some (by kernel_rfl))
  f240 := Tryd.func61.trans (congrArg some (by kernel_rfl))
  f241 := Tryd.func62.trans (congrArg some (by kernel_rfl))
  f260 := Tryd.func64.trans (congrArg some (by kernel_rfl))
  f266 := Tryd.func71.trans (congrArg some (by kernel_rfl))
  f267 := Tryd.func70.trans (congrArg some (by kernel_rfl))
  f276 := Tryd.func65.trans (congrArg some (by kernel_rfl))
  f277 := Tryd.func66.trans (congrArg some (by kernel_rfl))
  f314 := Tryd.func72.trans (congrArg some (by kernel_rfl))
  t0 := Tryd.underlying0
  a0 := Tryd.isAgg0
  z0 := Tryd.sizeOf0
  v0 := Tryd.zeroValue0
  t3 := Tryd.underlying3
  a3 := Tryd.isAgg3
  z3 := Tryd.sizeOf3
  v3 := Tryd.zeroValue3
  t4 := Tryd.underlying4
  a4 := Tryd.isAgg4
  z4 := Tryd.sizeOf4
  v4 := Tryd.zeroValue4
  t5 := Tryd.underlying5
  a5 := Tryd.isAgg5
  z5 := Tryd.sizeOf5
  v5 := Tryd.zeroValue5
  t9 := Tryd.underlying9
  a9 := Tryd.isAgg9
  z9 := Tryd.sizeOf9
  v9 := Tryd.zeroValue9
  t20 := Tryd.underlying20
  a20 := Tryd.isAgg20
  z20 := Tryd.sizeOf20
  v20 := Tryd.zeroValue20
  t21 := Tryd.underlying21
  a21 := Tryd.isAgg21
  z21 := Tryd.sizeOf21
  v21 := Tryd.zeroValue21
  t37 := Tryd.underlying31
  a37 := Tryd.isAgg31
  z37 := Tryd.sizeOf31
  v37 := Tryd.zeroValue31
  t46 := Tryd.underlying67
  a46 := Tryd.isAgg67
  z46 := Tryd.sizeOf67
  v46 := Tryd.zeroValue67
  t51 := Tryd.underlying104
  a51 := Tryd.isAgg104
  z51 := Tryd.sizeOf104
  v51 := Tryd.zeroValue104
  t70 := Tryd.underlying80
  a70 := Tryd.isAgg80
  z70 := Tryd.sizeOf80
  v70 := Tryd.zeroValue80
  t72 := Tryd.underlying82
  a72 := Tryd.isAgg82
  z72 := Tryd.sizeOf82
  v72 := Tryd.zeroValue82
  t75 := Tryd.underlying85
  a75 := Tryd.isAgg85
  z75 := Tryd.sizeOf85
  v75 := Tryd.zeroValue85
  t76 := Tryd.underlying86
  a76 := Tryd.isAgg86
  z76 := Tryd.sizeOf86
  v76 := Tryd.zeroValue86
  t105 := Tryd.underlying88
  a105 := Tryd.isAgg88
  z105 := Tryd.sizeOf88
  v105 := Tryd.zeroValue88
  t119 := Tryd.underlying100
  a119 := Tryd.isAgg100
  z119 := Tryd.sizeOf100
  t127 := Tryd.underlying95
  a127 := Tryd.isAgg95
  z127 := Tryd.sizeOf95
  v127 := Tryd.zeroValue95
  t138 := Tryd.underlying102
  a138 := Tryd.isAgg102
  z138 := Tryd.sizeOf102
  v138 := Tryd.zeroValue102
  t139 := Tryd.underlying103
  a139 := Tryd.isAgg103
  z139 := Tryd.sizeOf103
  v139 := Tryd.zeroValue103
  t146 := Tryd.underlying105
  a146 := Tryd.isAgg105
  z146 := Tryd.sizeOf105
  v146 := Tryd.zeroValue105
  t164 := Tryd.underlying96
  a164 := Tryd.isAgg96
  z164 := Tryd.sizeOf96
  v164 := Tryd.zeroValue96
  g1 := by kernel_rfl
  g3 := by kernel_rfl
  g4 := by kernel_rfl }
theorem Tryd.Builder_Extra_154 : Builder.Extra Tryd.prog Tryd.lays154_ren := {
  sizeBuilder := by kernel_rfl
  liesBuilder := by kernel_rfl
  t5 := Tryd.underlying5
  a5 := Tryd.isAgg5
  z5 := Tryd.sizeOf5
  v5 := Tryd.zeroValue5
  infoByte := by kernel_rfl
  cellsByte := by kernel_rfl
  sizeByte := by kernel_rfl
  neB5 := by decide }
end Go.Proofs
namespace Go.Proofs.YtcheinjlgojepaaDoor.P
open Go.Proofs Go.RowKit Go.Lib Go.Shelf Go.Proofs.YtcheinjlgojepaaDoorW.PrintWords
set_option linter.unusedVariables false
set_option linter.unusedSimpArgs false
def esc : List UInt8 → List UInt8
  | [] => []
  | b :: l => if b = 0 then 0 :: 255 :: esc l else b :: esc l
theorem esc_none : ∀ l : List UInt8, l.count 0 = 0 → esc l = l
  | [], _ => rfl
  | b :: l, h => by
    rw [List.count_cons] at h
    by_cases hb : b = 0
    · subst hb; simp at h
    · rw [esc, if_neg hb, esc_none l (by omega)]
theorem esc_append : ∀ l m : List UInt8, esc (l ++ m) = esc l ++ esc m
  | [], m => rfl
  | b :: l, m => by
    rw [List.cons_append, esc, esc, esc_append l m]
    split <;> rfl
theorem first_zero : ∀ l : List UInt8, l.count 0 ≠ 0 → ∃ j, Lib.indexByte l 0 = ((j : Nat) : Int) ∧ j < l.length ∧ (l.take j).count 0 = 0 ∧ l.drop j = 0 :: l.drop (j + 1)
  | [], h => by simp at h
  | b :: l, h => by
    by_cases hb : b = 0
    · subst hb
      exact ⟨0, by simp [Lib.indexByte], by simp, by simp, by simp⟩
    · have hb' : (b == 0) = false := beq_eq_false_iff_ne.mpr hb
      rw [List.count_cons, hb'] at h
      obtain ⟨j, h1, h2, h3, h4⟩ := first_zero l (by simpa using h)
      refine ⟨j + 1, ?_, by rw [List.length_cons]; omega, ?_, ?_⟩
      · have hne : ((j : Int) == -1) = false := beq_eq_false_iff_ne.mpr (by omega)
        rw [Lib.indexByte, hb', h1]
        simp only [Bool.false_eq_true, if_false, hne]
        omega
      · rw [List.take_succ_cons, List.count_cons, hb', h3]; rfl
      · rw [List.drop_succ_cons, List.drop_succ_cons]; exact h4
theorem count_split (l : List UInt8) (j : Nat) (h1 : (l.take j).count 0 = 0) (h2 : l.drop j = 0 :: l.drop (j + 1)) : l.count 0 = (l.drop (j + 1)).count 0 + 1 := by
  have e : l.count 0 = (l.take j ++ l.drop j).count 0 := by rw [List.take_append_drop]
  rw [e, List.count_append, h1, h2, List.count_cons]
  simp
theorem esc_split (l : List UInt8) (j : Nat) (h1 : (l.take j).count 0 = 0) (h2 : l.drop j = 0 :: l.drop (j + 1)) : esc l = l.take j ++ [0, 255] ++ esc (l.drop (j + 1)) := by
  have e : esc l = esc (l.take j ++ l.drop j) := by rw [List.take_append_drop]
  rw [e, esc_append, esc_none _ h1, h2, esc, if_pos rfl, List.append_assoc]
  rfl
set_option maxHeartbeats 16000000 in
set_option maxRecDepth 1000000 in
theorem replace_zero (s : ByteArray) (w : World) (hlen : s.size + 2 * s.data.toList.count 0 ≤ 140737488355328) :
    Calls Tryd.prog 46 #[.string s, .string ⟨#[0]⟩, .string ⟨#[0, 255]⟩, .int .i64 (-1)] w fun e w' =>
      e = .returned (.string ⟨(esc s.data.toList).toArray⟩) ∧ Below w.heap.size w w' := by
  have hC : Calls Tryd.prog 51 #[.string s, .string ⟨#[0]⟩] w fun e w' => e = .returned (.int .i64 (Lib.countByte s.data.toList 0)) ∧ w' = w := Any.strings_Count_one { Tryd.lays154 with } s 0 w
  obtain ⟨K, hK⟩ : ∃ K : Nat, s.data.toList.count 0 = K := ⟨_, rfl⟩
  have hcc : Lib.countByte s.data.toList 0 = K := hK
  rw [hcc] at hC
  have hlenL : s.data.toList.length = s.size := (Lib.size_eq s).symm
  have hKs : K ≤ s.size := by rw [← hK, ← hlenL]; exact List.count_le_length
  rw [hK] at hlen
  by_cases hK0 : K = 0
  · subst hK0
    rw [esc_none _ hK]
    go_enter Tryd.func46, Tryd.ntmps46
    go_wp2_with (first | (go_at_call 51; refine hC.mono ?_; rintro e w' ⟨rfl, hw⟩; rw [hw]))
    go_ret
    exact ⟨rfl, Below.refl _ _⟩
  · have hga := Lib.grow_arg s.size K 2 1 (by omega) (by omega) (by omega)
    have hcz : ((K : Int) == 0) = false := beq_eq_false_iff_ne.2 (by omega)
    have hKcount : K = (s.data.toList.drop 0).count 0 := by rw [List.drop_zero]; exact hK.symm
    have HK := Aside0.mk hK
    have HKC := Aside0.mk hKcount
    clear hK hcc hKcount
    go_enter Tryd.func46, Tryd.ntmps46
    go_wp2_with (first | (go_at_call 51; refine hC.mono ?_; rintro e w' ⟨rfl, hw⟩; rw [hw]))
    clear hC
    have hgn : ((s.size : Int) + (K : Int)) = ((s.size + K : Nat) : Int) := by omega
    rw [hgn]
    have cG : ∀ W, W.heap[w.heap.size]? = some (.cells #[.pointer none, .slice none 0 0] 82 (0, 0)) → w.heap.size ≤ W.heap.size → Calls Tryd.prog 52 #[.pointer (some ⟨w.heap.size, 0, none⟩), .int .i64 ((s.size + K : Nat) : Int)] W fun e w' => e = .returned (.tuple #[]) ∧ (Lib.BuilderAt 82 5 w.heap.size w.heap.size (.pointer (some ⟨w.heap.size, 0, none⟩)) [] w' ∧ Below w.heap.size W w') := fun W h1 h2 =>
      Any.Builder_Grow_fresh { Tryd.lays154 with } Tryd.Builder_Extra_154 w.heap.size w.heap.size (s.size + K) W (Nat.le_refl _) h1 h2 (by omega)
    have cW : ∀ (acc : List UInt8) (t : ByteArray) W, Lib.IsBuilder 82 5 w.heap.size w.heap.size (Lib.byteCells acc) W → acc.length + t.size ≤ 140737488355328 → w.heap.size ≤ W.heap.size → Calls Tryd.prog 54 #[.pointer (some ⟨w.heap.size, 0, none⟩), .string t] W fun e w' => e = .returned (.tuple #[.int .i64 t.size, .nilIface]) ∧ Lib.IsBuilder 82 5 w.heap.size w.heap.size (Lib.byteCells (acc ++ t.data.toList)) w' ∧ Below w.heap.size W w' := fun acc t W h1 h2 h3 =>
      (Any.Builder_WriteString { Tryd.lays154 with } Tryd.Builder_Extra_154 w.heap.size w.heap.size (Lib.byteCells acc) t W h1 (by rw [Lib.byteCells_length]; exact h2) h3).mono fun e w' h => ⟨h.1, Or.inr (by have := h.2.1; rw [Lib.strCells_eq, ← Lib.byteCells_append] at this; exact this), h.2.2⟩
    have cS : ∀ (l : List UInt8) W, Lib.IsBuilder 82 5 w.heap.size w.heap.size (Lib.byteCells l) W → w.heap.size ≤ W.heap.size → Calls Tryd.prog 56 #[.pointer (some ⟨w.heap.size, 0, none⟩)] W fun e w' => e = .returned (.string ⟨l.toArray⟩) ∧ Below w.heap.size W w' := fun l W h1 h2 =>
      Any.Builder_String_any { Tryd.lays154 with } Tryd.Builder_Extra_154 w.heap.size w.heap.size l W h1 h2
    have cI : ∀ (t : ByteArray) (j : Nat) W, Lib.indexByte t.data.toList 0 = (j : Int) → Calls Tryd.prog 53 #[.string t, .string ⟨#[0]⟩] W fun e w' => e = .returned (.int .i64 (j : Int)) ∧ w' = W := fun t j W h =>
      (show Calls Tryd.prog 53 #[.string t, .string ⟨#[0]⟩] W fun e w' => e = .returned (.int .i64 (Lib.indexByte t.data.toList 0)) ∧ w' = W from Any.strings_Index_one { Tryd.lays154 with } t 0 W).mono fun e w' q => by rw [h] at q; exact q
    have CW := Aside0.mk cW
    have CS := Aside0.mk cS
    have CI := Aside0.mk cI
    clear cW cS cI
    refine (cG _ (blk_new w _) (by simp)).mono ?_
    rintro e w1 ⟨rfl, hb0, hb1⟩
    clear cG hga hgn
    have H1 := Aside0.mk (Or.inr hb0 : Lib.IsBuilder 82 5 w.heap.size w.heap.size (Lib.byteCells []) w1)
    have Hb1 := Aside0.mk (((Below.refl w.heap.size w).alloc (Nat.le_refl _) _).trans hb1)
    clear hb0 hb1
    go_wp2_with fail
    go_loopg [11, 53] K (fun g s11 s53 wx => ∃ (i start : Nat) (acc : List UInt8), s53 = .int .i64 i ∧ s11 = .int .i64 start ∧ i + g = K ∧ start ≤ s.size ∧
      Aside0 (Lib.IsBuilder 82 5 w.heap.size w.heap.size (Lib.byteCells acc) wx) ∧ Aside0 (Below w.heap.size w wx) ∧ Aside0 (acc ++ esc (s.data.toList.drop start) = esc s.data.toList) ∧ Aside0 (g = (s.data.toList.drop start).count 0) ∧ acc.length + (s.size - start) + g ≤ s.size + K)
    case atStart => exact ⟨0, 0, [], rfl, rfl, by omega, Nat.zero_le _, H1, Hb1, ⟨by rw [List.drop_zero]; rfl⟩, HKC, by simp⟩
    case round =>
      obtain ⟨i, start, acc, rfl, rfl, hig, hst, HB, HW, HR, HG, hbd⟩ := hrel
      have hBw : w.heap.size ≤ wr.heap.size := HW.out.size
      have c1 : (0 : Int) ≤ (start : Int) := by omega
      have c2 : (start : Int) ≤ (s.size : Int) := by omega
      cases gk with
      | zero =>
        have hiK : ¬ ((i : Int) < (K : Int)) := by omega
        have hex : (s.extract start s.size).data.toList = s.data.toList.drop start := Lib.extract_to_end s start
        have hfin : acc ++ (s.extract start s.size).data.toList = esc s.data.toList := by rw [hex, ← HR.out, esc_none _ HG.out.symm]
        have HF := Aside0.mk hfin
        clear hfin hex
        go_wp2_with (go_at_call 54; refine (CW.out acc (s.extract start s.size) wr HB.out (by rw [ByteArray.size_extract]; omega) hBw).mono ?_; rintro e w3 ⟨rfl, h3, hb3⟩; rw [HF.out] at h3; have H3 := Aside0.mk h3; have Hb3 := Aside0.mk (HW.out.trans hb3); clear h3 hb3)
        refine (CS.out _ w3 H3.out Hb3.out.size).mono ?_
        rintro e w5 ⟨rfl, hb5⟩
        have Hb5 := Aside0.mk (Hb3.out.trans hb5)
        clear hb5
        go_wp2
        go_ret
        exact ⟨rfl, Hb5.out⟩
      | succ g =>
        have hiK : (i : Int) < (K : Int) := by omega
        obtain ⟨j, hj1, hj2, hj3, hj4⟩ := first_zero (s.data.toList.drop start) (by rw [← HG.out]; omega)
        rw [List.length_drop, hlenL] at hj2
        have c3 : (start : Int) ≤ (start : Int) + (j : Int) := by omega
        have c4 : (start : Int) + (j : Int) ≤ (s.size : Int) := by omega
        have hex : (s.extract start s.size).data.toList = s.data.toList.drop start := Lib.extract_to_end s start
        have hex2 : (s.extract start (start + j)).data.toList = (s.data.toList.drop start).take j := by rw [Lib.extract_data, Nat.add_sub_cancel_left]
        have hcnt : g = (s.data.toList.drop (start + j + 1)).count 0 := by
          have h1 := count_split _ j hj3 hj4
          rw [← HG.out, List.drop_drop] at h1
          rw [show start + j + 1 = start + (j + 1) by omega]
          omega
        have hrep : (acc ++ (s.data.toList.drop start).take j ++ [0, 255]) ++ esc (s.data.toList.drop (start + j + 1)) = esc s.data.toList := by
          rw [← HR.out, esc_split _ j hj3 hj4, List.drop_drop, show start + j + 1 = start + (j + 1) by omega]
          simp only [List.append_assoc]
        have htl : ((s.data.toList.drop start).take j).length = j := by rw [List.length_take, List.length_drop, hlenL]; omega
        have H01 : Aside0 (Lib.indexByte (s.extract start s.size).data.toList 0 = (j : Int)) := ⟨by rw [hex]; exact hj1⟩
        have HX := Aside0.mk hex2
        have HCN := Aside0.mk hcnt
        have HRE := Aside0.mk hrep
        have HTL := Aside0.mk htl
        clear hex hex2 hcnt hrep htl hj1 hj3 hj4 HR HG
        go_wp2_with (first
          | (go_at_call 53; refine (CI.out (s.extract start s.size) j wr H01.out).mono ?_; rintro e w' ⟨rfl, hw⟩; rw [hw])
          | (go_at_call 54; refine (CW.out acc (s.extract start (start + j)) wr HB.out (by rw [ByteArray.size_extract]; omega) hBw).mono ?_; rintro e w3 ⟨rfl, h3, hb3⟩; rw [HX.out] at h3; have H3 := Aside0.mk h3; have Hb3 := Aside0.mk (HW.out.trans hb3); clear h3 hb3 HB)
          | (go_at_call 54; refine (CW.out _ ⟨#[0, 255]⟩ w3 H3.out (by rw [List.length_append, HTL.out]; show acc.length + j + 2 ≤ _; omega) Hb3.out.size).mono ?_; rintro e w4 ⟨rfl, h4, hb4⟩; have H4 := Aside0.mk h4; have Hb4 := Aside0.mk (Hb3.out.trans hb4); clear h4 hb4))
        go_roundg g
        case measure => omega
        case rel => exact ⟨i + 1, start + j + 1, _, by first | rfl | (simp; done), by first | rfl | (simp; done), by omega, by omega, H4, Hb4, HRE, HCN, by rw [List.length_append, List.length_append, HTL.out]; show acc.length + j + 2 + _ + _ ≤ _; omega⟩
def strings_ReplaceAll.f (a0 : ByteArray) (a1 : ByteArray) (a2 : ByteArray) : Option (ByteArray) :=
  if a1.data.toList = [0] ∧ a2.data.toList = [0, 255] ∧ a0.size + 2 * a0.data.toList.count 0 ≤ 140737488355328 then some ⟨(esc a0.data.toList).toArray⟩ else none
theorem bytes_eq {a b : ByteArray} (h : a.data.toList = b.data.toList) : a = b := by
  cases a; cases b
  simp only at h
  rw [Array.toList_inj.1 h]
theorem strings_ReplaceAll.calls (a0 : ByteArray) (a1 : ByteArray) (a2 : ByteArray) (r : ByteArray) (w : World) (h : strings_ReplaceAll.f a0 a1 a2 = some r) :
    Calls Tryd.prog 37 #[.string a0, .string a1, .string a2] w fun e w' => e = .returned (.string r) ∧ Below w.heap.size w w' := by
  unfold strings_ReplaceAll.f at h
  split at h
  · next q =>
    obtain rfl := Option.some.inj h
    obtain ⟨h1, h2, h3⟩ := q
    obtain rfl : a1 = ⟨#[0]⟩ := bytes_eq h1
    obtain rfl : a2 = ⟨#[0, 255]⟩ := bytes_eq h2
    go_enter Tryd.func37, Tryd.ntmps37
    go_wp2_with (go_at_call 46; refine (replace_zero a0 w h3).mono ?_; rintro e w' ⟨rfl, hw⟩)
    go_ret
    exact ⟨rfl, hw⟩
  · cases h
end Go.Proofs.YtcheinjlgojepaaDoor.P
