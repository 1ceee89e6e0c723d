/-
  From the reading of an argument to its cells: slices of structs of numbers.
-/
import Derived.Test.YtbapfjjegbbmfaaGreatDoorStep
import Derived.Test.YtbapfjjegbbmfaaGreatDoorPlain
import Derived.Deep.Slices
import Derived.Deep.Strs
import Derived.Lib.SmallJoins
import Derived.SizedLaws
namespace Go.Proofs.YtbapfjjegbbmfaaGreatDoor.POrderPages
open Go.RowKit Go.Proofs.YtbapfjjegbbmfaaGreatDoorW.PrintWords Go.Proofs.YtbapfjjegbbmfaaGreatDoorW.PrintLast Go.Proofs.YtbapfjjegbbmfaaGreatDoorW.PrintMore

section
variable {H : Type} {enc : TypeId × Value → H} {w : World} {base : Nat} {spare : Nat → Bool} {held : Bool} {fuel : Nat}
theorem kd_of_slice {t e : TypeId} {α : Type} {d : Kd α} {wf : α → Prop} (z : α) (ht : Tryz.prog.underlying t = some (.slice e)) (hc : Tryz.prog.cellsOf e = d.sz)
    (hel : ∀ n cs y, DataW.trod enc Tryz.prog w base spare held n e cs = some y → ∃ a, d.K w a cs ∧ wf a) {v : Value} {x : DataW H × List MemPlace} (h : DataW.trod enc Tryz.prog w base spare held fuel t [v] = some x) :
    ∃ (A : Option Addr) (c : Nat) (l : List α), v = .slice A l.length c ∧ l.length ≤ c ∧ Kd.C d w A l.length l ∧ (∀ a ∈ l, wf a) ∧ (l = [] ∨ ∃ el sp, x.1 = .slice el sp ∧ el.length = l.length) := by
  rcases Go.Deep.open_slice ht h with ⟨h1, rfl⟩ | ⟨a, len, cap, m, n, D, Pl, h1, hb, hl, hm, hmm, rfl, hx⟩
  · simp at h1
    exact ⟨none, 0, [], h1, Nat.le_refl _, ⟨rfl, by simp, fun h => by simp at h⟩, fun a ha => (by cases ha), .inl rfl⟩
  · simp at h1
    have hlm : len ≤ m := by rw [hmm]; split <;> omega
    haveI : Inhabited α := ⟨z⟩
    obtain ⟨V, hV⟩ := Go.Deep.choose_lt (n := len) (p := fun i (x : α) => (∃ cs', w.cells? base (a.add (i * Tryz.prog.cellsOf e)) (Tryz.prog.cellsOf e) = some cs' ∧ d.K w x cs') ∧ wf x) (fun i hi => by
      obtain ⟨cs', c1, c2⟩ := hx i (by omega)
      obtain ⟨x, k1, k2⟩ := hel _ _ _ c2
      exact ⟨x, ⟨cs', c1, k1⟩, k2⟩)
    have hlen : ((List.range len).map V).length = len := by simp
    refine ⟨some a, cap, (List.range len).map V, by rw [hlen]; exact h1, by omega, ?_, fun y hy => ?_, .inr ⟨_, _, rfl, by simp⟩⟩
    · rw [hlen]
      refine ⟨hlen, by unfold maxLen at hm; omega, fun _ => ⟨a, rfl, fun j p hj => ?_⟩⟩
      have hjl : j < len := by
        have := (List.getElem?_eq_some_iff.1 hj).1; omega
      simp [hjl] at hj
      subst hj
      obtain ⟨⟨cs', c1, k1⟩, _⟩ := hV j hjl
      obtain ⟨_, s1, s2⟩ := World.cells?_some c1
      refine ⟨cs', by rw [s1, hc], k1, fun i u hu => ?_⟩
      have hi : i < Tryz.prog.cellsOf e := by
        have := (List.getElem?_eq_some_iff.1 hu).1; omega
      have := s2 i hi
      rw [Addr.add_add] at this
      rw [← hc, this]; exact hu
    · obtain ⟨i, hi, rfl⟩ := List.mem_map.1 hy
      exact (hV i (List.mem_range.1 hi)).2
theorem c33 : Tryz.prog.cellsOf 33 = 3 := by kernel_rfl
theorem c51 : Tryz.prog.cellsOf 51 = 3 := by kernel_rfl
theorem c53 : Tryz.prog.cellsOf 53 = 4 := by kernel_rfl
theorem c3 : Tryz.prog.cellsOf 3 = 1 := by kernel_rfl
theorem c5 : Tryz.prog.cellsOf 5 = 1 := by kernel_rfl
set_option maxRecDepth 100000 in
theorem el33 (n : Nat) (cs : List Value) (y : DataW H × List MemPlace) (h : DataW.trod enc Tryz.prog w base spare held n 33 cs = some y) : ∃ a, k33.K w a cs ∧ wf33 a := by
  obtain ⟨y0, y1, y2, m, rfl, hl, h0, h1, h2⟩ := Go.Deep.trod_struct3 Tryz.underlying33 h
  rw [c33] at hl
  match cs, hl with
  | [u0, u1, u2], _ =>
    simp only [c3, List.drop_zero, List.take_succ_cons, List.take_zero, List.drop_succ_cons] at h0 h1 h2
    obtain ⟨a0, e0, _, w0⟩ := DataW.trod_int Tryz.underlying3 h0
    obtain ⟨a1, e1, _, w1⟩ := DataW.trod_int Tryz.underlying3 h1
    obtain ⟨a2, e2, _, w2⟩ := DataW.trod_int Tryz.underlying3 h2
    simp only [List.cons.injEq, and_true] at e0 e1 e2
    subst e0 e1 e2
    exact ⟨⟨a0, a1, a2⟩, k33_mk w ⟨a0, a1, a2⟩, w0, w1, w2⟩
set_option maxRecDepth 100000 in
theorem el51 (n : Nat) (cs : List Value) (y : DataW H × List MemPlace) (h : DataW.trod enc Tryz.prog w base spare held n 51 cs = some y) : ∃ a, k51.K w a cs ∧ True := by
  obtain ⟨y0, y1, y2, m, rfl, hl, h0, h1, h2⟩ := Go.Deep.trod_struct3 Tryz.underlying51 h
  rw [c51] at hl
  match cs, hl with
  | [u0, u1, u2], _ =>
    simp only [c3, c5, List.drop_zero, List.take_succ_cons, List.take_zero, List.drop_succ_cons] at h0 h1 h2
    obtain ⟨a0, e0, _, w0⟩ := DataW.trod_int Tryz.underlying3 h0
    obtain ⟨a1, e1, _, w1⟩ := DataW.trod_int Tryz.underlying5 h1
    obtain ⟨a2, e2, _, w2⟩ := DataW.trod_int Tryz.underlying3 h2
    simp only [List.cons.injEq, and_true] at e0 e1 e2
    subst e0 e1 e2
    exact ⟨⟨a0, a1, a2⟩, k51_mk w ⟨a0, a1, a2⟩, trivial⟩
set_option maxRecDepth 100000 in
theorem el53 (n : Nat) (cs : List Value) (y : DataW H × List MemPlace) (h : DataW.trod enc Tryz.prog w base spare held n 53 cs = some y) : ∃ a, k53.K w a cs ∧ True := by
  obtain ⟨xs, m, _, rfl, hl, hlen, hf⟩ := DataW.trod_struct Tryz.underlying53 h
  rw [c53] at hl
  match cs, hl, xs, hlen with
  | [u0, u1, u2, u3], _, [y0, y1, y2, y3], _ =>
    have h0 : DataW.trod enc Tryz.prog w base spare held m 5 ((([u0, u1, u2, u3] : List Value).drop 0).take (Tryz.prog.cellsOf 5)) = some y0 := hf 0 _ rfl
    have h1 : DataW.trod enc Tryz.prog w base spare held m 3 ((([u0, u1, u2, u3] : List Value).drop 1).take (Tryz.prog.cellsOf 3)) = some y1 := hf 1 _ rfl
    have h2 : DataW.trod enc Tryz.prog w base spare held m 3 ((([u0, u1, u2, u3] : List Value).drop 2).take (Tryz.prog.cellsOf 3)) = some y2 := hf 2 _ rfl
    have h3 : DataW.trod enc Tryz.prog w base spare held m 3 ((([u0, u1, u2, u3] : List Value).drop 3).take (Tryz.prog.cellsOf 3)) = some y3 := hf 3 _ rfl
    simp only [c3, c5, List.drop_zero, List.take_succ_cons, List.take_zero, List.drop_succ_cons] at h0 h1 h2 h3
    obtain ⟨a0, e0, _, w0⟩ := DataW.trod_int Tryz.underlying5 h0
    obtain ⟨a1, e1, _, w1⟩ := DataW.trod_int Tryz.underlying3 h1
    obtain ⟨a2, e2, _, w2⟩ := DataW.trod_int Tryz.underlying3 h2
    obtain ⟨a3, e3, _, w3⟩ := DataW.trod_int Tryz.underlying3 h3
    simp only [List.cons.injEq, and_true] at e0 e1 e2 e3
    subst e0 e1 e2 e3
    exact ⟨⟨a0, a1, a2, a3⟩, k53_mk w ⟨a0, a1, a2, a3⟩, trivial⟩
theorem el3 (n : Nat) (cs : List Value) (y : DataW H × List MemPlace) (h : DataW.trod enc Tryz.prog w base spare held n 3 cs = some y) : ∃ a, (Kd.int .i64).K w a cs ∧ True := by
  obtain ⟨a, rfl, _, _⟩ := DataW.trod_int Tryz.underlying3 h
  exact ⟨a, rfl, trivial⟩
end
end Go.Proofs.YtbapfjjegbbmfaaGreatDoor.POrderPages
