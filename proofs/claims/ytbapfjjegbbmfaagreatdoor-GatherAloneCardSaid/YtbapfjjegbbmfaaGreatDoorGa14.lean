/-
  GatherAlone answers true of every input, and its arguments read behind the call as they did. Condition: the two tables of Go's library that the row lists hold what the program's text lays.
-/
import Derived.Test.YtbapfjjegbbmfaaGreatDoorGa12
import Derived.Test.YtbapfjjegbbmfaaGreatDoorGa13
import Derived.Test.YtbapfjjegbbmfaaGreatDoorCards
import Derived.Test.YtbapfjjegbbmfaaGreatDoorTie
import Derived.WalkKit
import Derived.ProofKit
import Derived.OpenShut
import Derived.ChangeOld
import Derived.Deep.DeepHandedRow
import Derived.Lib.LaidTab
set_option linter.unusedVariables false
set_option linter.unusedSimpArgs false
namespace Go.Proofs.YtbapfjjegbbmfaaGreatDoor.gatherAlone
open Go.ChangeShapes Go.WideShapes Go.ChangeAt Go.RowKit Go.Joins
open Go.Proofs.YtbapfjjegbbmfaaGreatDoorW.PrintWords Go.Proofs.YtbapfjjegbbmfaaGreatDoorW.PrintLast Go.Proofs.YtbapfjjegbbmfaaGreatDoorW.PrintMore
open Go.Proofs.YtbapfjjegbbmfaaGreatDoor.PGatherAlone

theorem own : ownKnob Tryz.prog.godebug = none := by kernel_rfl
theorem c27 : Tryz.prog.cellsOf 27 = 2 := by kernel_rfl
theorem laidOut : laidOutB Tryz.prog = true := by kernel_rfl

set_option maxRecDepth 100000 in
/-- What the walk gives, for every argument and every world. -/
theorem contract (H : Type) (enc : TypeId × Value → H) (W : World) (base : Nat) (args : Array Value) (ds gs : List (DataW H)) (before : List MemPlace)
    (hval : ∀ (j : Nat) t v, Tryz.f4.params[j]? = some t → args[j]? = some v → Value.okWide Tryz.prog W .any base t v)
    (hW : DataW.Whole enc Tryz.prog Tryz.f4.params.toList Rows.gatherAloneSpec.vars false W args.toList ds gs before)
    (hsz : (DataW.weightsEach Tryz.prog (Tryz.f4.params.toList ++ Rows.gatherAloneSpec.plain.varTypes Tryz.prog) (ds ++ gs)).all (· ≤ reachBytes) = true) :
    Calls Tryz.prog 4 args W fun e W' => ∃ v, e = .returned v ∧ Rows.gatherAloneSpec.post enc Tryz.prog Tryz.f4 false true false false W args v W' := by
  have hW' := hW
  obtain ⟨p, q, hA0, hV, rfl, hfz, hnd⟩ := hW
  have hA : DataW.TrodAll enc Tryz.prog W 0 (fun _ => true) true Tryz.f4.params.toList args.toList ds p := hA0
  rw [Tryz.params4] at hA hval hsz
  obtain ⟨v0, vs0, d0, ds0, p0, q0, hargs, rfl, rfl, h0, r0⟩ := trodAll_cons hA
  obtain ⟨v1, vs1, d1, ds1, p1, q1, rfl, rfl, rfl, h1, r1⟩ := trodAll_cons r0
  obtain ⟨rfl, rfl, rfl⟩ := trodAll_nil r1
  obtain rfl : args = #[v0, v1] := by cases args; simp_all
  obtain ⟨rfl, rfl⟩ := trodVars_none hV
  obtain ⟨a0, len0, cap0, rfl⟩ := okWide_slice Tryz.underlying38 (hval 0 38 v0 rfl rfl)
  have k0 := h0
  have k1 := h1
  have lt0 : ∀ x ∈ p0, x.block < W.heap.size := by obtain ⟨m, hm⟩ := k0; exact DataW.trod_lt m _ _ _ hm
  have lt1 : ∀ x ∈ p1, x.block < W.heap.size := by obtain ⟨m, hm⟩ := k1; exact DataW.trod_lt m _ _ _ hm
  obtain ⟨u0, u1, y0, y1, n, rfl, hd1, _, hy0, hy1⟩ := open_agg2 Tryz.underlying27 (by kernel_rfl) c27 (hval 1 27 v1 rfl rfl) h1
  have hsz0 : WgtOk 38 d0 := fun m hm => by
    have := List.all_eq_true.1 hsz _ (DataW.weights_mem_each (j := 0) (t := 38) (d := d0) rfl rfl m hm)
    simpa using this
  have hsz1 : WgtOk 27 d1 := fun m hm => by
    have := List.all_eq_true.1 hsz _ (DataW.weights_mem_each (j := 1) (t := 27) (d := d1) rfl rfl m hm)
    simpa using this
  rw [hd1] at hsz1
  obtain ⟨hs0, hs1⟩ : WgtOk 24 y0.1 ∧ WgtOk 25 y1.1 := reach2 Tryz.underlying27 hsz1
  obtain ⟨f0, hf0⟩ := h0
  obtain ⟨A0, c0, l0, e0, hc0, hr0, hw0, hb0⟩ := kd_slice (d := k43) (wf := fun a => Bl a.f0 ∧ Bl a.f1) z43 Tryz.underlying38 c43 el43 (v := .slice a0 len0 cap0) (by simpa [Value.cells] using hf0) hsz0
  obtain ⟨An, cn, n0, en, hcn, hrn, _, _⟩ := kd_slice (d := k53) (wf := fun _ => True) z53 Tryz.underlying24 c53 el53 hy0 hs0
  obtain ⟨Ap, cp, pl, ep, hcp, hrp, hwp, _⟩ := kd_slice (d := k33) (wf := wf33) z33 Tryz.underlying25 c33 el33 hy1 hs1
  have hbp : Bp l0 := ⟨by rw [b43] at hb0; unfold reachBytes at hb0; omega, hw0⟩
  clear hA0 hsz
  have hlaw := law_calls l0 A0 c0 n0 An cn pl Ap cp W hr0 hc0 hrn hcn hrp hcp hwp hbp
  rw [← e0, ← en, ← ep] at hlaw
  refine hlaw.mono fun e W' ⟨he, bel⟩ => ?_
  subst he
  exact ⟨_, rfl, _, _, _, [], _, [], hW', trodAll_mk1 (shut_bool Tryz.underlying4 _), trodAll_cons_mk (Below.trod laidOut (by kernel_rfl) (of_decide_eq_true (by kernel_rfl)) k0 bel lt0) (trodAll_cons_mk (Below.trod laidOut (by kernel_rfl) (of_decide_eq_true (by kernel_rfl)) k1 bel lt1) trodAll_mk0), rfl, bel.frame _, fun h => by cases h⟩
end Go.Proofs.YtbapfjjegbbmfaaGreatDoor.gatherAlone
