/-
  The program: what a run of the executor asks of it.
-/
import Derived.Test.YtbapfjjegbbmfaaGreatDoorXb
import Derived.Test.YtbapfjjegbbmfaaGreatDoorProg
set_option linter.unusedVariables false
set_option linter.unusedSimpArgs false
namespace Go.X.Ents
set_option maxRecDepth 1000000
noncomputable abbrev prog : Program := Go.Proofs.Tryz.prog
def by_ (l : List Nat) : List UInt8 := l.map UInt8.ofNat
theorem follows_ok : prog.follows .mixedOrders = true := by decide +kernel
def noGo : List Func → Bool
  | [] => true
  | f :: r => !(f.name == "runtime.NumGoroutine") && noGo r
theorem noGo_ok : ∀ {l : List Func}, noGo l = true → ∀ f ∈ l, (f.name == "runtime.NumGoroutine") = false := by
  intro l
  induction l with
  | nil => intro _ f hf; cases hf
  | cons a l ih =>
    intro e f hf
    simp only [noGo, Bool.and_eq_true, Bool.not_eq_true'] at e
    rcases List.mem_cons.1 hf with rfl | hf
    · exact e.1
    · exact ih e.2 f hf
theorem names_ok : ∀ (k : Nat) (fn : Func), prog.funcs[k]? = some fn → (fn.name == "runtime.NumGoroutine") = false := by
  intro k fn h
  have : noGo prog.funcs.toList = true := by decide +kernel
  exact noGo_ok this fn (by rw [← Array.getElem?_toList] at h; exact List.mem_of_getElem? h)
theorem exts_ok : ExtsOK prog (exts2 197 195) :=
  exts2_ok Go.Proofs.Tryz.func197 Go.Proofs.Tryz.func195 (by kernel_rfl) (by kernel_rfl) (by kernel_rfl) (by kernel_rfl) (by kernel_rfl) (by kernel_rfl) (by kernel_rfl) (by kernel_rfl)
noncomputable def hasBody (k : Nat) : Bool := match prog.funcs[k]? with
  | some fn => !fn.body.isNone
  | none => false
theorem run_ok {e : Ent} {l : List Ent} (hl : ∀ x ∈ l, EntOK prog x) (sel : List Nat) (hb : hasBody e.k = true) (hi : e.is sel ((deepM prog (exts2 197 195) (memoOf l) 400).call e.k e.args e.beg) = true) : EntOK prog e := by
  unfold hasBody at hb
  cases g : prog.funcs[e.k]? with
  | none => simp [g] at hb
  | some fn =>
    simp only [g, Bool.not_eq_true'] at hb
    exact Ent.ok_of_run follows_ok names_ok exts_ok (memoOf_ok hl) g hb 400 sel hi
theorem nil_ok : ∀ x ∈ ([] : List Ent), EntOK prog x := fun x hx => by cases hx
theorem cons_ok {e : Ent} {l : List Ent} (h : EntOK prog e) (hl : ∀ x ∈ l, EntOK prog x) : ∀ x ∈ e :: l, EntOK prog x := fun x hx => by
  rcases List.mem_cons.1 hx with rfl | hx
  · exact h
  · exact hl x hx
end Go.X.Ents
