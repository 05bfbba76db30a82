/- What the laws of the frame share: what is sealed, and the examples of chapter 3. -/
import Derived.Test.YtoadflcdpcfibaaPureOpen
namespace Go.Proofs.Ytoadflcdpcfibaa.Pure
open Go.RowKit Go.Proofs.Ytoadflcdpcfibaa.P Go.Proofs.YtoadflcdpcfibaaW.PrintWords Go.Proofs.YtoadflcdpcfibaaW.PrintLast Go.Proofs.YtoadflcdpcfibaaW.PrintMore
open Crc
set_option linter.unusedVariables false

def headL (a : Int) (l : List Int) : List Int := [167, a, ((l.length : Int)) % 256, ((l.length : Int) / 256) % 256, ((l.length : Int) / 65536) % 256] ++ l
def tailL (s : Int) : List Int := [s % 256, (s / 256) % 256, (s / 65536) % 256, (s / 16777216) % 256]
def sealL (a : Int) (l : List Int) : List Int := headL a l ++ tailL (sumI ((headL a l).drop 1))
theorem headL_length (a : Int) (l : List Int) : (headL a l).length = l.length + 5 := by simp [headL]
theorem headL_bytes {a : Int} {l : List Int} (ha : 0 ≤ a ∧ a < 256) (hb : bytes l) : bytes (headL a l) := by
  intro x hx
  simp only [headL, List.cons_append, List.nil_append, List.mem_cons] at hx
  rcases hx with rfl | rfl | rfl | rfl | rfl | hx
  · omega
  · exact ha
  · omega
  · omega
  · omega
  · exact hb x hx
theorem seal_ev (a : Int) (l : List Int) (ha : 0 ≤ a ∧ a < 256) (hb : bytes l) (hl : l.length ≤ 1048575) : Ev (fun k => frame_Seal.f k a l) (sealL a l, 0) := by
  have hs := sum_ev ((headL a l).drop 1) (bytes_drop (headL_bytes ha hb) 1) (by rw [List.length_drop, headL_length]; omega)
  have h5 : headL a l = [] ++ [167, a, ((l.length : Int)) % 256, ((l.length : Int) / 256) % 256, ((l.length : Int) / 65536) % 256] ++ l := by simp [headL]
  refine Ev.congr (f := fun k => (frame_Sum.f k ((headL a l).drop 1)).bind fun s => some (headL a l ++ tailL s, 0)) (fun k => ?_) (Ev.bind hs (Ev.now _))
  simp only [frame_Seal.f]
  rw [if_neg (by omega), wrap_of (x := 5 + (l.length : Int)) (by omega) (by omega), wrap_of (by omega) (by omega), if_pos (by omega), if_pos (by omega)]
  simp only [Option.bind_some]
  rw [if_pos (by simp), if_pos (by simp; omega), ← h5, if_pos (by rw [headL_length]; omega)]
  congr 1
  funext s
  rw [if_pos (by rw [headL_length]; simp; omega)]
  rfl
theorem rseal_ev (a : Int) (l : List Int) (ha : 0 ≤ a ∧ a < 256) (hb : bytes l) (hl : l.length ≤ 1048575) : Ev (fun k => reefref03_Seal.f k a l) (sealL a l, 0) := by
  have hs := rsum_ev ((headL a l).drop 1) (bytes_drop (headL_bytes ha hb) 1) (by rw [List.length_drop, headL_length]; omega)
  have h5 : headL a l = [167, a, ((l.length : Int)) % 256, ((l.length : Int) / 256) % 256, ((l.length : Int) / 65536) % 256] ++ l := rfl
  refine Ev.congr (f := fun k => (reefref03_Sum.f k ((headL a l).drop 1)).bind fun s => some (headL a l ++ tailL s, 0)) (fun k => ?_) (Ev.bind hs (Ev.now _))
  simp only [reefref03_Seal.f]
  rw [if_neg (by omega)]
  simp only [Option.bind_some]
  rw [if_pos (by simp; omega), ← h5, if_pos (by rw [headL_length]; omega)]
  congr 1
  funext s
  rw [if_pos (by rw [headL_length]; simp; omega)]
  rfl
theorem seal_long (a : Int) (l : List Int) (hl : 1048575 < l.length) : Ev (fun k => frame_Seal.f k a l) ([], 13) := by
  refine Ev.congr (f := fun _ => some ([], 13)) (fun k => ?_) (Ev.now _)
  simp only [frame_Seal.f]
  rw [if_pos (by omega)]
theorem rseal_long (a : Int) (l : List Int) (hl : 1048575 < l.length) : Ev (fun k => reefref03_Seal.f k a l) ([], 13) := by
  refine Ev.congr (f := fun _ => some ([], 13)) (fun k => ?_) (Ev.now _)
  simp only [reefref03_Seal.f]
  rw [if_pos (by omega)]
set_option maxRecDepth 100000 in
theorem awake_ev : Ev (fun k => reeflaw03_awake.f k) true := Ev.of (k := 100) (fun k => reeflaw03_awake.mono k) (by decide +kernel)
theorem wf_u8 {x : Int} (h : (Lit.int .u8 x).wf = true) : 0 ≤ x ∧ x < 256 := by
  simp [Lit.wf, IntKind.min, IntKind.max, IntKind.bits, IntKind.signed] at h
  omega
theorem bytes_of {l : List Int} (h : ∀ x ∈ l, (Lit.int .u8 x).wf = true) : bytes l := fun x hx => wf_u8 (h x hx)
end Go.Proofs.Ytoadflcdpcfibaa.Pure
