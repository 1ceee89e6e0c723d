/-
  From the reading of an argument to its cells: slices, of structs of numbers, and of structs with slices; how long they may be.
-/
import Derived.Test.YtbapfjjegbbmfaaGreatDoorGa11
import Derived.Deep.Slices
import Derived.Deep.Strs
import Derived.Lib.SmallJoins
import Derived.SizedLaws
set_option linter.unusedVariables false
set_option linter.unusedSimpArgs false
namespace Go.Proofs.YtbapfjjegbbmfaaGreatDoor.PGatherAlone
open Go.RowKit Go.Proofs.YtbapfjjegbbmfaaGreatDoorW.PrintWords Go.Proofs.YtbapfjjegbbmfaaGreatDoorW.PrintLast Go.Proofs.YtbapfjjegbbmfaaGreatDoorW.PrintMore

section
variable {H : Type} {enc : TypeId × Value → H} {w : World} {base : Nat} {spare : Nat → Bool} {held : Bool} {fuel : Nat}
/-- What a reading weighs. -/
def WgtOk (t : TypeId) (d : DataW H) : Prop := ∀ n ∈ d.weights Tryz.prog t, n ≤ reachBytes
theorem mem_all {e : TypeId} {d : DataW H} {n : Nat} : ∀ {l : List (DataW H)}, d ∈ l → n ∈ d.weights Tryz.prog e → n ∈ DataW.weightsAll Tryz.prog e l
  | a :: l, h, hn => by
    simp only [DataW.weightsAll, List.mem_append]
    rcases List.mem_cons.1 h with rfl | h
    · exact .inl hn
    · exact .inr (mem_all h hn)
theorem kd_slice {t e : TypeId} {α : Type} {d : Kd α} {wf : α → Prop} (z : α) (ht : Tryz.prog.underlying t = some (.slice e)) (hc : Tryz.prog.cellsOf e = d.sz)
    (hel : ∀ n cs y, DataW.trod enc Tryz.prog w base spare held n e cs = some y → WgtOk e y.1 → ∃ a, d.K w a cs ∧ wf a) {v : Value} {x : DataW H × List MemPlace} (h : DataW.trod enc Tryz.prog w base spare held fuel t [v] = some x) (hw : WgtOk t x.1) :
    ∃ (A : Option Addr) (c : Nat) (l : List α), v = .slice A l.length c ∧ l.length ≤ c ∧ Kd.C d w A l.length l ∧ (∀ a ∈ l, wf a) ∧ l.length * Tryz.prog.bytesOf e ≤ reachBytes := by
  rcases Go.Deep.open_slice ht h with ⟨h1, rfl⟩ | ⟨a, len, cap, m, n, D, Pl, h1, hb, hl, hm, hmm, rfl, hx⟩
  · simp at h1
    exact ⟨none, 0, [], h1, Nat.le_refl _, ⟨rfl, by simp, fun h => by simp at h⟩, fun a ha => (by cases ha), by simp⟩
  · simp at h1
    have hlm : len ≤ m := by rw [hmm]; split <;> omega
    have hw2 : ∀ i, i < len → WgtOk e (D i) := fun i hi n hn => hw n (by
      simp only [DataW.weights, ht, List.mem_cons, List.mem_append]
      exact .inr (.inl (mem_all (List.mem_map.2 ⟨i, List.mem_range.2 hi, rfl⟩) hn)))
    have hw3 : len * Tryz.prog.bytesOf e ≤ reachBytes := by
      have := hw ((((List.range len).map D).length + ((List.range (m - len)).map fun j => D (len + j)).length) * Tryz.prog.bytesOf e) (by
        simp [DataW.weights, ht])
      refine Nat.le_trans (Nat.mul_le_mul_right _ ?_) this
      simp
    haveI : Inhabited α := ⟨z⟩
    obtain ⟨V, hV⟩ := Go.Deep.choose_lt (n := len) (p := fun i (x : α) => (∃ cs', w.cells? base (a.add (i * Tryz.prog.cellsOf e)) (Tryz.prog.cellsOf e) = some cs' ∧ d.K w x cs') ∧ wf x) (fun i hi => by
      obtain ⟨cs', c1, c2⟩ := hx i (by omega)
      obtain ⟨x, k1, k2⟩ := hel _ _ _ c2 (hw2 i hi)
      exact ⟨x, ⟨cs', c1, k1⟩, k2⟩)
    have hlen : ((List.range len).map V).length = len := by simp
    refine ⟨some a, cap, (List.range len).map V, by rw [hlen]; exact h1, by omega, ?_, fun y hy => ?_, by rw [hlen]; exact hw3⟩
    · rw [hlen]
      refine ⟨hlen, by unfold maxLen at hm; omega, fun _ => ⟨a, rfl, fun j p hj => ?_⟩⟩
      have hjl : j < len := by
        have := (List.getElem?_eq_some_iff.1 hj).1; omega
      simp [hjl] at hj
      subst hj
      obtain ⟨⟨cs', c1, k1⟩, _⟩ := hV j hjl
      obtain ⟨_, s1, s2⟩ := World.cells?_some c1
      refine ⟨cs', by rw [s1, hc], k1, fun i u hu => ?_⟩
      have hi : i < Tryz.prog.cellsOf e := by
        have := (List.getElem?_eq_some_iff.1 hu).1; omega
      have := s2 i hi
      rw [Addr.add_add] at this
      rw [← hc, this]; exact hu
    · obtain ⟨i, hi, rfl⟩ := List.mem_map.1 hy
      exact (hV i (List.mem_range.1 hi)).2
theorem c33 : Tryz.prog.cellsOf 33 = 3 := by kernel_rfl
theorem c53 : Tryz.prog.cellsOf 53 = 4 := by kernel_rfl
theorem c60 : Tryz.prog.cellsOf 60 = 4 := by kernel_rfl
theorem c56 : Tryz.prog.cellsOf 56 = 3 := by kernel_rfl
theorem c43 : Tryz.prog.cellsOf 43 = 2 := by kernel_rfl
theorem c3 : Tryz.prog.cellsOf 3 = 1 := by kernel_rfl
theorem c5 : Tryz.prog.cellsOf 5 = 1 := by kernel_rfl
theorem c40 : Tryz.prog.cellsOf 40 = 1 := by kernel_rfl
theorem c54 : Tryz.prog.cellsOf 54 = 1 := by kernel_rfl
theorem b60 : Tryz.prog.bytesOf 60 = 32 := by kernel_rfl
theorem b56 : Tryz.prog.bytesOf 56 = 40 := by kernel_rfl
theorem b43 : Tryz.prog.bytesOf 43 = 48 := by kernel_rfl
set_option maxRecDepth 100000 in
theorem el33 (n : Nat) (cs : List Value) (y : DataW H × List MemPlace) (h : DataW.trod enc Tryz.prog w base spare held n 33 cs = some y) (_ : WgtOk 33 y.1) : ∃ a, k33.K w a cs ∧ wf33 a := by
  obtain ⟨y0, y1, y2, m, rfl, hl, h0, h1, h2⟩ := Go.Deep.trod_struct3 Tryz.underlying33 h
  rw [c33] at hl
  match cs, hl with
  | [u0, u1, u2], _ =>
    simp only [c3, List.drop_zero, List.take_succ_cons, List.take_zero, List.drop_succ_cons] at h0 h1 h2
    obtain ⟨a0, e0, _, w0⟩ := DataW.trod_int Tryz.underlying3 h0
    obtain ⟨a1, e1, _, w1⟩ := DataW.trod_int Tryz.underlying3 h1
    obtain ⟨a2, e2, _, w2⟩ := DataW.trod_int Tryz.underlying3 h2
    simp only [List.cons.injEq, and_true] at e0 e1 e2
    subst e0 e1 e2
    exact ⟨⟨a0, a1, a2⟩, k33_mk w ⟨a0, a1, a2⟩, w0, w1, w2⟩
set_option maxRecDepth 100000 in
theorem el53 (n : Nat) (cs : List Value) (y : DataW H × List MemPlace) (h : DataW.trod enc Tryz.prog w base spare held n 53 cs = some y) (_ : WgtOk 53 y.1) : ∃ a, k53.K w a cs ∧ True := by
  obtain ⟨xs, m, _, rfl, hl, hlen, hf⟩ := DataW.trod_struct Tryz.underlying53 h
  rw [c53] at hl
  match cs, hl, xs, hlen with
  | [u0, u1, u2, u3], _, [y0, y1, y2, y3], _ =>
    have h0 : DataW.trod enc Tryz.prog w base spare held m 5 ((([u0, u1, u2, u3] : List Value).drop 0).take (Tryz.prog.cellsOf 5)) = some y0 := hf 0 _ rfl
    have h1 : DataW.trod enc Tryz.prog w base spare held m 3 ((([u0, u1, u2, u3] : List Value).drop 1).take (Tryz.prog.cellsOf 3)) = some y1 := hf 1 _ rfl
    have h2 : DataW.trod enc Tryz.prog w base spare held m 3 ((([u0, u1, u2, u3] : List Value).drop 2).take (Tryz.prog.cellsOf 3)) = some y2 := hf 2 _ rfl
    have h3 : DataW.trod enc Tryz.prog w base spare held m 3 ((([u0, u1, u2, u3] : List Value).drop 3).take (Tryz.prog.cellsOf 3)) = some y3 := hf 3 _ rfl
    simp only [c3, c5, List.drop_zero, List.take_succ_cons, List.take_zero, List.drop_succ_cons] at h0 h1 h2 h3
    obtain ⟨a0, e0, _, w0⟩ := DataW.trod_int Tryz.underlying5 h0
    obtain ⟨a1, e1, _, w1⟩ := DataW.trod_int Tryz.underlying3 h1
    obtain ⟨a2, e2, _, w2⟩ := DataW.trod_int Tryz.underlying3 h2
    obtain ⟨a3, e3, _, w3⟩ := DataW.trod_int Tryz.underlying3 h3
    simp only [List.cons.injEq, and_true] at e0 e1 e2 e3
    subst e0 e1 e2 e3
    exact ⟨⟨a0, a1, a2, a3⟩, k53_mk w ⟨a0, a1, a2, a3⟩, trivial⟩
set_option maxRecDepth 100000 in
theorem el60 (n : Nat) (cs : List Value) (y : DataW H × List MemPlace) (h : DataW.trod enc Tryz.prog w base spare held n 60 cs = some y) (_ : WgtOk 60 y.1) : ∃ a, k60.K w a cs ∧ True := by
  obtain ⟨xs, m, _, rfl, hl, hlen, hf⟩ := DataW.trod_struct Tryz.underlying60 h
  rw [c60] at hl
  match cs, hl, xs, hlen with
  | [u0, u1, u2, u3], _, [y0, y1, y2, y3], _ =>
    have h0 : DataW.trod enc Tryz.prog w base spare held m 3 ((([u0, u1, u2, u3] : List Value).drop 0).take (Tryz.prog.cellsOf 3)) = some y0 := hf 0 _ rfl
    have h1 : DataW.trod enc Tryz.prog w base spare held m 5 ((([u0, u1, u2, u3] : List Value).drop 1).take (Tryz.prog.cellsOf 5)) = some y1 := hf 1 _ rfl
    have h2 : DataW.trod enc Tryz.prog w base spare held m 3 ((([u0, u1, u2, u3] : List Value).drop 2).take (Tryz.prog.cellsOf 3)) = some y2 := hf 2 _ rfl
    have h3 : DataW.trod enc Tryz.prog w base spare held m 3 ((([u0, u1, u2, u3] : List Value).drop 3).take (Tryz.prog.cellsOf 3)) = some y3 := hf 3 _ rfl
    simp only [c3, c5, List.drop_zero, List.take_succ_cons, List.take_zero, List.drop_succ_cons] at h0 h1 h2 h3
    obtain ⟨a0, e0, _, w0⟩ := DataW.trod_int Tryz.underlying3 h0
    obtain ⟨a1, e1, _, w1⟩ := DataW.trod_int Tryz.underlying5 h1
    obtain ⟨a2, e2, _, w2⟩ := DataW.trod_int Tryz.underlying3 h2
    obtain ⟨a3, e3, _, w3⟩ := DataW.trod_int Tryz.underlying3 h3
    simp only [List.cons.injEq, and_true] at e0 e1 e2 e3
    subst e0 e1 e2 e3
    exact ⟨⟨a0, a1, a2, a3⟩, k60_mk w ⟨a0, a1, a2, a3⟩, trivial⟩
theorem reach3 {t : TypeId} {f0 f1 f2 : Field} {d0 d1 d2 : DataW H} (hu : Tryz.prog.underlying t = some (.struct #[f0, f1, f2])) (h : WgtOk t (.agg [d0, d1, d2])) : WgtOk f0.type d0 := fun n hn => h n (by
  simp only [DataW.weights, hu, List.map_cons, List.map_nil, DataW.weightsEach, List.mem_append]; exact .inl hn)
theorem reach2 {t : TypeId} {f0 f1 : Field} {d0 d1 : DataW H} (hu : Tryz.prog.underlying t = some (.struct #[f0, f1])) (h : WgtOk t (.agg [d0, d1])) : WgtOk f0.type d0 ∧ WgtOk f1.type d1 :=
  ⟨fun n hn => h n (by simp only [DataW.weights, hu, List.map_cons, List.map_nil, DataW.weightsEach, List.mem_append]; exact .inl hn), fun n hn => h n (by simp only [DataW.weights, hu, List.map_cons, List.map_nil, DataW.weightsEach, List.mem_append]; exact .inr (.inl hn))⟩
set_option maxRecDepth 100000 in
theorem el56 (n : Nat) (cs : List Value) (y : DataW H × List MemPlace) (h : DataW.trod enc Tryz.prog w base spare held n 56 cs = some y) (hr : WgtOk 56 y.1) : ∃ a, k56.K w a cs ∧ a.f0.length < 4398046511104 := by
  obtain ⟨y0, y1, y2, m, rfl, hl, h0, h1, h2⟩ := Go.Deep.trod_struct3 Tryz.underlying56 h
  have hr0 : WgtOk 54 y0.1 := reach3 Tryz.underlying56 hr
  rw [c56] at hl
  match cs, hl with
  | [u0, u1, u2], _ =>
    simp only [c3, c54, List.drop_zero, List.take_succ_cons, List.take_zero, List.drop_succ_cons] at h0 h1 h2
    obtain ⟨A, c, l, rfl, hc, hC, _, hb⟩ := kd_slice (d := k60) (wf := fun _ => True) z60 Tryz.underlying54 c60 el60 h0 hr0
    obtain ⟨a1, e1, _, w1⟩ := DataW.trod_int Tryz.underlying3 h1
    obtain ⟨a2, e2, _, w2⟩ := DataW.trod_int Tryz.underlying3 h2
    simp only [List.cons.injEq, and_true] at e1 e2
    subst e1 e2
    rw [b60] at hb
    unfold reachBytes at hb
    exact ⟨⟨l, a1, a2⟩, k56_mk w ⟨l, a1, a2⟩ hc hC, by show l.length < _; omega⟩
set_option maxRecDepth 100000 in
theorem el43 (n : Nat) (cs : List Value) (y : DataW H × List MemPlace) (h : DataW.trod enc Tryz.prog w base spare held n 43 cs = some y) (hr : WgtOk 43 y.1) : ∃ a, k43.K w a cs ∧ Bl a.f0 ∧ Bl a.f1 := by
  obtain ⟨y0, y1, m, rfl, hl, h0, h1⟩ := Go.ChangeShapes.trod_struct2 Tryz.underlying43 h
  obtain ⟨hr0, hr1⟩ : WgtOk 40 y0.1 ∧ WgtOk 40 y1.1 := reach2 Tryz.underlying43 hr
  rw [c43] at hl
  match cs, hl with
  | [u0, u1], _ =>
    simp only [c40, List.drop_zero, List.take_succ_cons, List.take_zero, List.drop_succ_cons] at h0 h1
    obtain ⟨A, c, l, rfl, hc, hC, hw, hb⟩ := kd_slice (d := k56) (wf := fun a => a.f0.length < 4398046511104) z56 Tryz.underlying40 c56 el56 h0 hr0
    obtain ⟨A', c', l', rfl, hc', hC', hw', hb'⟩ := kd_slice (d := k56) (wf := fun a => a.f0.length < 4398046511104) z56 Tryz.underlying40 c56 el56 h1 hr1
    rw [b56] at hb hb'
    unfold reachBytes at hb hb'
    exact ⟨⟨l, l'⟩, k43_mk w ⟨l, l'⟩ hc hC hc' hC', ⟨(by omega : l.length ≤ 3518437208800), hw⟩, ⟨(by omega : l'.length ≤ 3518437208800), hw'⟩⟩
end
end Go.Proofs.YtbapfjjegbbmfaaGreatDoor.PGatherAlone
