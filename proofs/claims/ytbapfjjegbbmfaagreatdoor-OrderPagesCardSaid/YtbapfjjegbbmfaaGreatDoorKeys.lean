/-
  What a map's key of three numbers reads as.
-/
import Derived.Test.YtbapfjjegbbmfaaGreatDoorPage
import Derived.Test.YtbapfjjegbbmfaaGreatDoorPOrderPagesx20
import Derived.Maps.OwnSet
import Derived.Maps.OwnOps
import Derived.DeepKeys5
import Derived.Deep.LoopGhost
namespace Go.Proofs.YtbapfjjegbbmfaaGreatDoor.POrderPages
open Go.RowKit Go.Proofs.YtbapfjjegbbmfaaGreatDoorW.PrintWords Go.Proofs.YtbapfjjegbbmfaaGreatDoorW.PrintLast Go.Proofs.YtbapfjjegbbmfaaGreatDoorW.PrintMore
open Go.Maps

theorem laidOut : laidOutB Tryz.prog = true := by kernel_rfl
theorem law33 : Keyed Tryz.prog 33 := Keyed.of_law (deep_law_laid laidOut (m := 2) (by omega) (of_decide_eq_true (by kernel_rfl)) (by kernel_rfl) (by kernel_rfl))
theorem zero3 (w : World) : (zeroValue 3).run Tryz.prog w = .ok (.int .i64 0) w := by kernel_rfl
def val33 (x : S33) : Value := .agg #[.int .i64 x.f0, .int .i64 x.f1, .int .i64 x.f2]
def wf33 (x : S33) : Prop := (Lit.int .i64 x.f0).wf = true ∧ (Lit.int .i64 x.f1).wf = true ∧ (Lit.int .i64 x.f2).wf = true
def kl (x : S33) : Lit := .string (keyBytes [.int .i64 x.f0, .int .i64 x.f1, .int .i64 x.f2])
theorem key33 {x : S33} (h : wf33 x) : keyOf Tryz.prog 33 (val33 x) = some (kl x) := by
  obtain ⟨h0, h1, h2⟩ := h
  have hk : Tryz.prog.keyType 33 = true := by kernel_rfl
  have hf : (val33 x).formed Tryz.prog 33 = true := by
    have hc : Tryz.prog.cellsOf 33 = 3 := by kernel_rfl
    simp [val33, Value.formed, Tryz.underlying33, hc]
  have hc3 : Tryz.prog.cellsOf 3 = 1 := by kernel_rfl
  have hc : Tryz.prog.cellsOf 33 = 3 := by kernel_rfl
  obtain ⟨m, hm⟩ : ∃ m, Tryz.prog.types.size = m + 1 := ⟨Tryz.prog.types.size - 1, by
    have : 0 < Tryz.prog.types.size := of_decide_eq_true (by kernel_rfl)
    omega⟩
  unfold keyOf
  rw [Tryz.underlying33]
  simp only [hk, hf, Bool.and_self, if_true, hm]
  simp [Program.keyLits, Tryz.underlying33, Tryz.underlying3, hc, hc3, val33, Value.cells, h0, h1, h2, kl]
theorem kl_inj {x y : S33} (hx : wf33 x) (hy : wf33 y) (h : kl x = kl y) : x = y := by
  have := law33.inj (key33 hx) (by rw [h]; exact key33 hy)
  obtain ⟨a, b, c⟩ := x
  obtain ⟨a', b', c'⟩ := y
  simp only [val33, Value.agg.injEq] at this
  simp at this
  obtain ⟨rfl, rfl, rfl⟩ := this
  rfl
end Go.Proofs.YtbapfjjegbbmfaaGreatDoor.POrderPages
