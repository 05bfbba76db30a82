-- left of the seat's texts by prune.py, a program of this session
import Derived.Test.YtkbdicedckmdkaaOps
import Derived.Test.YtkbdicedckmdkaaP17
import Derived.Test.YtkbdicedckmdkaaPureDoes
namespace Go.Proofs.Ytkbdicedckmdkaa.P
open Go.RowKit Go.Proofs.YtkbdicedckmdkaaW.PrintWords Go.Proofs.YtkbdicedckmdkaaW.PrintLast Go.Proofs.YtkbdicedckmdkaaW.PrintMore
theorem reeflaw15_AcceptDoes.walk (x0 : S27) (cs0 : List Value) (x1 : S24) (cs1 : List Value) (a2 : Int) (a3 : ByteArray) (a4 : Int) (A5 : Option Addr) (c5 : Nat) (l5 : List ByteArray) (a6 : Int) (a7 : Int) (w : World) (hk0 : k27.K w x0 cs0) (g0 : G27 x0) (hk1 : k24.K w x1 cs1) (g1 : G24 x1) (w2 : (Lit.int .i64 a2).wf = true) (w3 : a3.size ≤ 140737488351232) (w4 : (Lit.int .i64 a4).wf = true) (hr5 : Kd.C Kd.string w A5 l5.length l5) (hc5 : l5.length ≤ c5) (g5 : G25 l5) (w6 : (Lit.int .i64 a6).wf = true) (w7 : (Lit.int .i64 a7).wf = true) :
    Calls Try.prog 4 #[.agg cs0.toArray, .agg cs1.toArray, .int .i64 a2, .string a3, .int .i64 a4, .slice A5 l5.length c5, .int .i64 a6, .int .i64 a7] w fun e w' => e = .returned (.bool true) ∧ Below w.heap.size w w' := by
  obtain ⟨A0, c0, rfl, hc0, hr0⟩ := k27_open hk0
  obtain rfl := k24_open hk1
  have hl0 : x0.f4.length * 16 ≤ 140737488351232 := g0.2.2.2.2.2.1
  have hl5 : l5.length * 16 ≤ 140737488351232 := g5.2.1
  obtain ⟨k, hk⟩ := (Pure.does_ev x0.f0.f0 x0.f0.f1 x0.f1 x0.f2.f0 x0.f2.f1 x0.f3 x0.f4 (by omega) x1.f0 x1.f1 a2 a3 a4 a6 a7 l5 (by omega)).rounds
  refine (reeflaw15_AcceptDoes.calls k x0.f0.f0 x0.f0.f1 x0.f1 x0.f2.f0 x0.f2.f1 x0.f3 A0 c0 x0.f4 x1.f0 x1.f1 a2 a3 a4 A5 c5 l5 a6 a7 true w hr0 hc0 hr5 hc5 hk).mono ?_
  rintro e w' ⟨rfl, hd⟩
  exact ⟨rfl, hd⟩
end Go.Proofs.Ytkbdicedckmdkaa.P
