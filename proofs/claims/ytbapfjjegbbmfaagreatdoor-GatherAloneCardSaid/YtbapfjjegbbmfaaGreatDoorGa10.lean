/-
  Two rows of the same tokens are the same.
-/
import Derived.Test.YtbapfjjegbbmfaaGreatDoorGa8
set_option linter.unusedVariables false
set_option linter.unusedSimpArgs false
namespace Go.Proofs.YtbapfjjegbbmfaaGreatDoor.PGatherAlone
open Go.RowKit Go.Proofs.YtbapfjjegbbmfaaGreatDoorW.PrintWords Go.Proofs.YtbapfjjegbbmfaaGreatDoorW.PrintLast Go.Proofs.YtbapfjjegbbmfaaGreatDoorW.PrintMore

set_option maxRecDepth 100000 in
set_option maxHeartbeats 8000000 in
theorem eq_calls (x : S51) (w : World) : Calls Tryz.prog 22 #[.agg #[.int .i64 x.f0, .int .u8 x.f1, .int .i64 x.f2], .agg #[.int .i64 x.f0, .int .u8 x.f1, .int .i64 x.f2]] w fun e w' => e = .returned (.bool true) ∧ Below w.heap.size w w' := by
  have hu51 := Tryz.underlying51
  have b0 : (x.f0 == x.f0) = true := by simp
  have b1 : (x.f1 == x.f1) = true := by simp
  go_enter Tryz.func22, Tryz.ntmps22
  go_wp2
  go_ret
  exact ⟨by simp, two_alloc _ _ _⟩
set_option maxRecDepth 100000 in
set_option maxHeartbeats 8000000 in
theorem equal_calls (A B : Option Addr) (ca cb : Nat) (xs : List S51) (w : World) (hA : Kd.C k51 w A xs.length xs) (hB : Kd.C k51 w B xs.length xs) :
    Calls Tryz.prog 21 #[.slice A xs.length ca, .slice B xs.length cb, .func (.func 22) #[] #[]] w fun e w' => e = .returned (.bool true) ∧ Below w.heap.size w w' := by
  have hu51 := Tryz.underlying51
  have hl : xs.length ≤ 9223372036854775807 := hA.2.1
  have HA := Aside0.mk hA
  have HB := Aside0.mk hB
  have b0 : ((xs.length : Int) != (xs.length : Int)) = false := by simp
  clear hA hB
  go_enter Tryz.func21, Tryz.ntmps21
  go_wp2
  go_loopg [17] xs.length (fun gk v17 wr => ∃ (i : Nat), v17 = .int .i64 i ∧ Aside0 (i + gk = xs.length) ∧ Aside0 (Below w.heap.size w wr))
  case atStart => exact ⟨0, rfl, ⟨by omega⟩, ⟨Below.refl _ _⟩⟩
  case round =>
    obtain ⟨i, rfl, hi, hbw⟩ := hrel
    have hi := hi.out
    by_cases hlt : i < xs.length
    · obtain ⟨ad, e0, hx0, hx1, hx2⟩ := at_T51 HA.out (i : Int) (by omega) (by omega)
      obtain ⟨bd, f0, hy0, hy1, hy2⟩ := at_T51 HB.out (i : Int) (by omega) (by omega)
      subst e0 f0
      replace hx0 := (hbw.out.cell (World.block_lt_of_cell? w _ hx0)).trans hx0
      replace hx1 := (hbw.out.cell (World.block_lt_of_cell? w _ hx1)).trans hx1
      replace hx2 := (hbw.out.cell (World.block_lt_of_cell? w _ hx2)).trans hx2
      replace hy0 := (hbw.out.cell (World.block_lt_of_cell? w _ hy0)).trans hy0
      replace hy1 := (hbw.out.cell (World.block_lt_of_cell? w _ hy1)).trans hy1
      replace hy2 := (hbw.out.cell (World.block_lt_of_cell? w _ hy2)).trans hy2
      simp only [Int.toNat_natCast] at hx0 hx1 hx2 hy0 hy1 hy2
      generalize rd_T51 xs (i : Nat) = x at *
      have hz0 := ((below_alloc (Below.refl wr.heap.size wr) (.cells #[.int .i64 x.f0, .int .u8 x.f1, .int .i64 x.f2] 51)).cell (World.block_lt_of_cell? _ _ hy0)).trans hy0
      have hz1 := ((below_alloc (Below.refl wr.heap.size wr) (.cells #[.int .i64 x.f0, .int .u8 x.f1, .int .i64 x.f2] 51)).cell (World.block_lt_of_cell? _ _ hy1)).trans hy1
      have hz2 := ((below_alloc (Below.refl wr.heap.size wr) (.cells #[.int .i64 x.f0, .int .u8 x.f1, .int .i64 x.f2] 51)).cell (World.block_lt_of_cell? _ _ hy2)).trans hy2
      have HQ := fun W => Aside0.mk (eq_calls x W)
      go_wp2_with (go_at_call 22; refine (HQ _).out.mono ?_; rintro e W2 ⟨rfl, hb2⟩)
      go_roundg (gk - 1)
      case measure => omega
      case rel =>
        refine ⟨i + 1, by go_num, ⟨by omega⟩, ⟨?_⟩⟩
        exact (below_alloc (below_alloc hbw.out _) _).trans (hb2.mono (by have := hbw.out.size; simp; omega))
    · go_wp2
      go_ret
      exact ⟨rfl, hbw.out⟩
theorem same_calls (A B : Option Addr) (ca cb : Nat) (xs : List S51) (w : World) (hA : Kd.C k51 w A xs.length xs) (hB : Kd.C k51 w B xs.length xs) :
    Calls Tryz.prog 15 #[.slice A xs.length ca, .slice B xs.length cb] w fun e w' => e = .returned (.bool true) ∧ Below w.heap.size w w' := by
  have H := Aside0.mk (equal_calls A B ca cb xs w hA hB)
  clear hA hB
  go_enter Tryz.func15, Tryz.ntmps15
  go_wp2_with (go_at_call 21; refine H.out.mono ?_; rintro e W2 ⟨rfl, hb2⟩)
  go_ret
  exact ⟨rfl, hb2⟩
end Go.Proofs.YtbapfjjegbbmfaaGreatDoor.PGatherAlone
