/-
  Calls of a closed run, part 6: each by a run of the executor that knows of those ahead.
-/
import Derived.Test.YtbapfjjegbbmfaaGreatDoorE5
set_option linter.unusedVariables false
set_option linter.unusedSimpArgs false
namespace Go.X.Ents
set_option maxRecDepth 1000000

/-- stylus styluslaw24 awake -/
def e20 : Ent := ⟨12, [], [], (.bool true), [], []⟩
theorem e20_ok : EntOK prog e20 := run_ok (l := [e0, e1, e19]) (cons_ok e0_ok <| cons_ok e1_ok <| cons_ok e19_ok <| nil_ok) [] (by decide +kernel) (by decide +kernel)
end Go.X.Ents
