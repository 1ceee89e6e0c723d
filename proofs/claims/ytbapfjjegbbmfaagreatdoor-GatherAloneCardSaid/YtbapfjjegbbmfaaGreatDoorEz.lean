/-
  The chapter's examples answer true, in every world.
-/
import Derived.Test.YtbapfjjegbbmfaaGreatDoorE6
set_option linter.unusedVariables false
set_option linter.unusedSimpArgs false
namespace Go.X.Ents
theorem awake_calls (w : World) : Calls prog 12 #[] w fun ex w' => ex = .returned (.bool true) ∧ RowKit.Below w.heap.size w w' :=
  Ent.calls e20_ok rfl (A := #[]) .nil (fun m V' h => by cases h; rfl) w
end Go.X.Ents
