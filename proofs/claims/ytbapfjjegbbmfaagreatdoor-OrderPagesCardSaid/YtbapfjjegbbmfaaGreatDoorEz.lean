/-
  The chapter's examples answer true, in every world.
-/
import Derived.Test.YtbapfjjegbbmfaaGreatDoorE12
namespace Go.X.Ents
theorem awake_calls (w : World) : Calls prog 5 #[] w fun ex w' => ex = .returned (.bool true) ∧ RowKit.Below w.heap.size w w' :=
  Ent.calls e54_ok rfl (A := #[]) .nil (fun m V' h => by cases h; rfl) w
end Go.X.Ents
