/-
  OrderPages answers true of every input, and its arguments read behind the call as they did: the row, and its card. Condition: the two tables of Go's library that the row lists hold what the program's text lays.
-/
import Derived.Test.YtbapfjjegbbmfaaGreatDoorRead
import Derived.Test.YtbapfjjegbbmfaaGreatDoorCards
import Derived.Test.YtbapfjjegbbmfaaGreatDoorTie
import Derived.WalkKit
import Derived.ProofKit
import Derived.OpenShut
import Derived.ChangeOld
import Derived.Deep.DeepHandedRow
import Derived.Lib.LaidTab
namespace Go.Proofs.YtbapfjjegbbmfaaGreatDoor.orderPages
open Go.ChangeShapes Go.WideShapes Go.ChangeAt Go.RowKit Go.Joins
open Go.Proofs.YtbapfjjegbbmfaaGreatDoorW.PrintWords Go.Proofs.YtbapfjjegbbmfaaGreatDoorW.PrintLast Go.Proofs.YtbapfjjegbbmfaaGreatDoorW.PrintMore
open Go.Proofs.YtbapfjjegbbmfaaGreatDoor.POrderPages

theorem own : ownKnob Tryz.prog.godebug = none := by kernel_rfl
theorem c27 : Tryz.prog.cellsOf 27 = 2 := by kernel_rfl
theorem b51 : Tryz.prog.bytesOf 51 = 24 := by kernel_rfl
theorem b53 : Tryz.prog.bytesOf 53 = 32 := by kernel_rfl
theorem b33 : Tryz.prog.bytesOf 33 = 24 := by kernel_rfl

set_option maxRecDepth 100000 in
/-- What the walk gives, for every argument and every world. -/
theorem contract (H : Type) (enc : TypeId × Value → H) (W : World) (base : Nat) (args : Array Value) (ds gs : List (DataW H)) (before : List MemPlace)
    (hval : ∀ (j : Nat) t v, Tryz.f3.params[j]? = some t → args[j]? = some v → Value.okWide Tryz.prog W .any base t v)
    (hW : DataW.Whole enc Tryz.prog Tryz.f3.params.toList Rows.orderPagesSpec.vars false W args.toList ds gs before)
    (hsz : (DataW.weightsEach Tryz.prog (Tryz.f3.params.toList ++ Rows.orderPagesSpec.plain.varTypes Tryz.prog) (ds ++ gs)).all (· ≤ reachBytes) = true) :
    Calls Tryz.prog 3 args W fun e W' => ∃ v, e = .returned v ∧ Rows.orderPagesSpec.post enc Tryz.prog Tryz.f3 false true false false W args v W' := by
  have hW' := hW
  obtain ⟨p, q, hA0, hV, rfl, hfz, hnd⟩ := hW
  have hA : DataW.TrodAll enc Tryz.prog W 0 (fun _ => true) true Tryz.f3.params.toList args.toList ds p := hA0
  rw [Tryz.params3] at hA hval hsz
  obtain ⟨v0, vs0, d0, ds0, p0, q0, hargs, rfl, rfl, h0, r0⟩ := trodAll_cons hA
  obtain ⟨v1, vs1, d1, ds1, p1, q1, rfl, rfl, rfl, h1, r1⟩ := trodAll_cons r0
  obtain ⟨v2, vs2, d2, ds2, p2, q2, rfl, rfl, rfl, h2, r2⟩ := trodAll_cons r1
  obtain ⟨v3, vs3, d3, ds3, p3, q3, rfl, rfl, rfl, h3, r3⟩ := trodAll_cons r2
  obtain ⟨rfl, rfl, rfl⟩ := trodAll_nil r3
  obtain rfl : args = #[v0, v1, v2, v3] := by cases args; simp_all
  obtain ⟨rfl, rfl⟩ := trodVars_none hV
  obtain ⟨a0, len0, cap0, rfl⟩ := okWide_slice Tryz.underlying22 (hval 0 22 v0 rfl rfl)
  obtain ⟨a1, len1, cap1, rfl⟩ := okWide_slice Tryz.underlying23 (hval 1 23 v1 rfl rfl)
  obtain ⟨a2, rfl, rfl, rfl, w2⟩ := open_int Tryz.underlying3 (hval 2 3 v2 rfl rfl) h2
  have k0 := h0
  have k1 := h1
  have k3 := h3
  have lt0 : ∀ x ∈ p0, x.block < W.heap.size := by obtain ⟨m, hm⟩ := k0; exact DataW.trod_lt m _ _ _ hm
  have lt1 : ∀ x ∈ p1, x.block < W.heap.size := by obtain ⟨m, hm⟩ := k1; exact DataW.trod_lt m _ _ _ hm
  have lt3 : ∀ x ∈ p3, x.block < W.heap.size := by obtain ⟨m, hm⟩ := k3; exact DataW.trod_lt m _ _ _ hm
  obtain ⟨u0, u1, y0, y1, n, rfl, hd3, _, hy0, hy1⟩ := open_agg2 Tryz.underlying27 (by kernel_rfl) c27 (hval 3 27 v3 rfl rfl) h3
  obtain ⟨f0, hf0⟩ := h0
  obtain ⟨f1, hf1⟩ := h1
  obtain ⟨A0, c0, l0, e0, hc0, hr0, _, z0⟩ := kd_of_slice (d := k51) (wf := fun _ => True) z51 Tryz.underlying22 c51 el51 (v := .slice a0 len0 cap0) (by simpa [Value.cells] using hf0)
  obtain ⟨A1, c1, l1, e1, hc1, hr1, _, z1⟩ := kd_of_slice (d := Kd.int .i64) (wf := fun _ => True) 0 Tryz.underlying23 c3 el3 (v := .slice a1 len1 cap1) (by simpa [Value.cells] using hf1)
  obtain ⟨An, cn, n0, en, hcn, hrn, _, zn⟩ := kd_of_slice (d := k53) (wf := fun _ => True) z53 Tryz.underlying24 c53 el53 hy0
  obtain ⟨Ap, cp, pl, ep, hcp, hrp, hwp, zp⟩ := kd_of_slice (d := k33) (wf := wf33) z33 Tryz.underlying25 c33 el33 hy1
  have hb0 : l0.length * 24 ≤ 140737488351232 := by
    rcases z0 with rfl | ⟨el, sp, hx, hl⟩
    · simp
    · have := sized_slice hsz (j := 0) (t := 22) (e := 51) (elems := el) (spare := sp) rfl (by simpa using hx) Tryz.underlying22
      rw [b51, hl] at this
      unfold reachBytes at this
      have h9 : l0.length * 24 ≤ (l0.length + sp.length) * 24 := Nat.mul_le_mul_right _ (by omega)
      omega
  have hbn : n0.length * 32 ≤ 140737488351232 := by
    rcases zn with rfl | ⟨el, sp, hx, hl⟩
    · simp
    · have := List.all_eq_true.1 hsz _ (DataW.weights_mem_each (j := 3) (t := 27) (d := d3) rfl rfl ((el.length + sp.length) * Tryz.prog.bytesOf 53) (by
        rw [hd3, hx]
        simp [DataW.weights, DataW.weightsEach, Tryz.underlying27, Tryz.underlying24]))
      rw [b53, hl] at this
      simp only [decide_eq_true_eq] at this
      unfold reachBytes at this
      have h9 : n0.length * 32 ≤ (n0.length + sp.length) * 32 := Nat.mul_le_mul_right _ (by omega)
      omega
  have hbp : pl.length * 24 ≤ 140737488351232 := by
    rcases zp with rfl | ⟨el, sp, hx, hl⟩
    · simp
    · have := List.all_eq_true.1 hsz _ (DataW.weights_mem_each (j := 3) (t := 27) (d := d3) rfl rfl ((el.length + sp.length) * Tryz.prog.bytesOf 33) (by
        rw [hd3, hx]
        simp [DataW.weights, DataW.weightsEach, Tryz.underlying27, Tryz.underlying25]))
      rw [b33, hl] at this
      simp only [decide_eq_true_eq] at this
      unfold reachBytes at this
      have h9 : pl.length * 24 ≤ (pl.length + sp.length) * 24 := Nat.mul_le_mul_right _ (by omega)
      omega
  obtain ⟨hp1, hp2⟩ := pages_eq l0 l1 a2 (by omega) (l0.length + n0.length + pl.length + 3) (by omega)
  have hs := same_eq n0 pl (by omega) (by omega) (l0.length + n0.length + pl.length + 3) (by omega)
  clear hA0 hsz
  have hlaw := law_calls l0 A0 c0 l1 A1 c1 a2 n0 An cn pl Ap cp W hr0 hc0 hr1 hc1 hrn hcn hrp hcp (by omega) (Wf33.of hwp) _ _ hp1 hp2 hs
  rw [← e0, ← e1, ← en, ← ep] at hlaw
  refine hlaw.mono fun e W' ⟨he, bel⟩ => ?_
  subst he
  exact ⟨_, rfl, _, _, _, [], _, [], hW', trodAll_mk1 (shut_bool Tryz.underlying4 _), trodAll_cons_mk (Below.trod laidOut (by kernel_rfl) (of_decide_eq_true (by kernel_rfl)) k0 bel lt0) (trodAll_cons_mk (Below.trod laidOut (by kernel_rfl) (of_decide_eq_true (by kernel_rfl)) k1 bel lt1) (trodAll_cons_mk (shut_int Tryz.underlying3 w2) (trodAll_cons_mk (Below.trod laidOut (by kernel_rfl) (of_decide_eq_true (by kernel_rfl)) k3 bel lt3) trodAll_mk0))), rfl, bel.frame _, fun h => by cases h⟩
end Go.Proofs.YtbapfjjegbbmfaaGreatDoor.orderPages
