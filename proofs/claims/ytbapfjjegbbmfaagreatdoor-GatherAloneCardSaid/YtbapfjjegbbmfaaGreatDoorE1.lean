/-
  Calls of a closed run, part 1: each by a run of the executor that knows of those ahead.
-/
import Derived.Test.YtbapfjjegbbmfaaGreatDoorE0
set_option linter.unusedVariables false
set_option linter.unusedSimpArgs false
namespace Go.X.Ents
set_option maxRecDepth 1000000

/-- stylus chars classes -/
def e7 : Ent := ⟨189, [], [], (.agg [(.int .u64 (.ofNat 0)), (.int .u64 (.ofNat 0)), (.int .u64 (.ofNat 0)), (.int .u64 (.ofNat 0)), (.int .u64 (.ofNat 0)), (.int .u64 (.ofNat 576460743713488896)), (.int .u64 (.ofNat 0)), (.int .u64 (.ofNat 0)), (.int .u64 (.ofNat 0)), (.int .u64 (.ofNat 134217726)), (.int .u64 (.ofNat 0)), (.int .u64 (.ofNat 0)), (.int .u64 (.ofNat 287948901175001088)), (.int .u64 (.ofNat 0)), (.int .u64 (.ofNat 0)), (.int .u64 (.ofNat 0)), (.int .u64 (.ofNat 10088330922161078272)), (.int .u64 (.ofNat 0)), (.int .u64 (.ofNat 0)), (.int .u64 (.ofNat 0)), (.int .u64 (.ofNat 4294967296)), (.int .u64 (.ofNat 0)), (.int .u64 (.ofNat 0)), (.int .u64 (.ofNat 0)), (.int .u64 (.ofNat 1024)), (.int .u64 (.ofNat 0)), (.int .u64 (.ofNat 0)), (.int .u64 (.ofNat 0))]), [], []⟩
theorem e7_ok : EntOK prog e7 := run_ok (l := []) (nil_ok) [] (by decide +kernel) (by decide +kernel)

/-- stylus tree Check -/
def e8 : Ent := ⟨69, [(.slice 0 0 2 2 4 false)], [.row [(.int .u8 (.ofNat 112)), (.str (by_ [])), (.int .i64 (.ofNat 0)), (.int .i64 (.ofNat 2)), (.int .u8 (.ofNat 46)), (.str (by_ [97,32,98])), (.int .i64 (.ofNat 3)), (.int .i64 (.ofNat 1))]], (.int .i64 (.ofNat 0)), [], []⟩
theorem e8_ok : EntOK prog e8 := run_ok (l := [e7]) (cons_ok e7_ok <| nil_ok) [] (by decide +kernel) (by decide +kernel)

/-- stylus norm Is -/
def e9 : Ent := ⟨70, [(.slice 0 0 2 2 4 false)], [.row [(.int .u8 (.ofNat 112)), (.str (by_ [])), (.int .i64 (.ofNat 0)), (.int .i64 (.ofNat 2)), (.int .u8 (.ofNat 46)), (.str (by_ [97,32,98])), (.int .i64 (.ofNat 3)), (.int .i64 (.ofNat 1))]], (.bool true), [], []⟩
theorem e9_ok : EntOK prog e9 := run_ok (l := [e8]) (cons_ok e8_ok <| nil_ok) [] (by decide +kernel) (by decide +kernel)

/-- stylus flat Tree -/
def e10 : Ent := ⟨39, [(.slice 0 0 5 5 3 false)], [.row [(.int .i64 (.ofNat 2)), (.int .u8 (.ofNat 112)), (.int .i64 (.ofNat 0)), (.int .i64 (.ofNat 1)), (.int .u8 (.ofNat 97)), (.int .i64 (.ofNat 3)), (.int .i64 (.ofNat 1)), (.int .u8 (.ofNat 32)), (.int .i64 (.ofNat 4)), (.int .i64 (.ofNat 1)), (.int .u8 (.ofNat 98)), (.int .i64 (.ofNat 5)), (.int .i64 (.ofNat 3)), (.int .u8 (.ofNat 112)), (.int .i64 (.ofNat 5))]], (.tuple [(.slice 1 0 2 2 4 false), (.int .i64 (.ofNat 0))]), [], [.row [(.int .u8 (.ofNat 112)), (.str (by_ [])), (.int .i64 (.ofNat 0)), (.int .i64 (.ofNat 2)), (.int .u8 (.ofNat 46)), (.str (by_ [97,32,98])), (.int .i64 (.ofNat 3)), (.int .i64 (.ofNat 1))]]⟩
theorem e10_ok : EntOK prog e10 := run_ok (l := [e8, e9]) (cons_ok e8_ok <| cons_ok e9_ok <| nil_ok) [11] (by decide +kernel) (by decide +kernel)
end Go.X.Ents
