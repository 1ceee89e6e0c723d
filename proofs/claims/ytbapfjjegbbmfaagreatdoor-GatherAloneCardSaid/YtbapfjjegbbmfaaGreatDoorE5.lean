/-
  Calls of a closed run, part 5: each by a run of the executor that knows of those ahead.
-/
import Derived.Test.YtbapfjjegbbmfaaGreatDoorE4
set_option linter.unusedVariables false
set_option linter.unusedSimpArgs false
namespace Go.X.Ents
set_option maxRecDepth 1000000

/-- stylus styluslaw24 again -/
def e19 : Ent := ⟨19, [(.str (by_ [123,112,32,97,32,98,125]))], [], (.bool true), [], []⟩
theorem e19_ok : EntOK prog e19 := run_ok (l := [e6, e16, e17, e18]) (cons_ok e6_ok <| cons_ok e16_ok <| cons_ok e17_ok <| cons_ok e18_ok <| nil_ok) [] (by decide +kernel) (by decide +kernel)
end Go.X.Ents
