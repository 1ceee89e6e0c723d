/-
  Calls of a closed run, part 0: each by a run of the executor that knows of those ahead.
-/
import Derived.Test.YtbapfjjegbbmfaaGreatDoorE
set_option linter.unusedVariables false
set_option linter.unusedSimpArgs false
namespace Go.X.Ents
set_option maxRecDepth 1000000

/-- stylus gather Of -/
def e0 : Ent := ⟨14, [.nilslice, (.agg [.nilslice, .nilslice])], [], (.tuple [.nilslice, (.int .i64 (.ofNat 0))]), [], []⟩
theorem e0_ok : EntOK prog e0 := run_ok (l := []) (nil_ok) [] (by decide +kernel) (by decide +kernel)

/-- stylus gather Of -/
def e1 : Ent := ⟨14, [.nilslice, (.agg [(.slice 0 0 1 1 4 true), (.slice 1 0 1 1 3 true)])], [.row [(.int .u8 (.ofNat 46)), (.int .i64 (.ofNat 1)), (.int .i64 (.ofNat 0)), (.int .i64 (.ofNat 1))], .row [(.int .i64 (.ofNat 0)), (.int .i64 (.ofNat 0)), (.int .i64 (.ofNat 0))]], (.tuple [.nilslice, (.int .i64 (.ofNat 1))]), [], []⟩
theorem e1_ok : EntOK prog e1 := run_ok (l := []) (nil_ok) [] (by decide +kernel) (by decide +kernel)

/-- stylus stylusref04 Parse -/
def e2 : Ent := ⟨27, [(.str (by_ [123,112,32,97,32,98,125]))], [], (.tuple [(.slice 0 0 2 2 4 false), (.int .i64 (.ofNat 0)), (.int .i64 (.ofNat 0))]), [], [.row [(.int .u8 (.ofNat 112)), (.str (by_ [])), (.int .i64 (.ofNat 0)), (.int .i64 (.ofNat 2)), (.int .u8 (.ofNat 46)), (.str (by_ [97,32,98])), (.int .i64 (.ofNat 3)), (.int .i64 (.ofNat 1))]]⟩
theorem e2_ok : EntOK prog e2 := run_ok (l := []) (nil_ok) [42] (by decide +kernel) (by decide +kernel)

/-- stylus stylusref04 Check -/
def e3 : Ent := ⟨46, [(.slice 0 0 2 2 4 false)], [.row [(.int .u8 (.ofNat 112)), (.str (by_ [])), (.int .i64 (.ofNat 0)), (.int .i64 (.ofNat 2)), (.int .u8 (.ofNat 46)), (.str (by_ [97,32,98])), (.int .i64 (.ofNat 3)), (.int .i64 (.ofNat 1))]], (.int .i64 (.ofNat 0)), [], []⟩
theorem e3_ok : EntOK prog e3 := run_ok (l := []) (nil_ok) [] (by decide +kernel) (by decide +kernel)

/-- stylus stylusref05 Of -/
def e4 : Ent := ⟨28, [(.slice 0 0 2 2 4 false)], [.row [(.int .u8 (.ofNat 112)), (.str (by_ [])), (.int .i64 (.ofNat 0)), (.int .i64 (.ofNat 2)), (.int .u8 (.ofNat 46)), (.str (by_ [97,32,98])), (.int .i64 (.ofNat 3)), (.int .i64 (.ofNat 1))]], (.tuple [(.slice 1 0 2 2 4 false), (.int .i64 (.ofNat 0))]), [], [.row [(.int .u8 (.ofNat 112)), (.str (by_ [])), (.int .i64 (.ofNat 0)), (.int .i64 (.ofNat 2)), (.int .u8 (.ofNat 46)), (.str (by_ [97,32,98])), (.int .i64 (.ofNat 3)), (.int .i64 (.ofNat 1))]]⟩
theorem e4_ok : EntOK prog e4 := run_ok (l := [e3]) (cons_ok e3_ok <| nil_ok) [2] (by decide +kernel) (by decide +kernel)

/-- stylus stylusref07 Of -/
def e5 : Ent := ⟨29, [(.slice 0 0 2 2 4 false)], [.row [(.int .u8 (.ofNat 112)), (.str (by_ [])), (.int .i64 (.ofNat 0)), (.int .i64 (.ofNat 2)), (.int .u8 (.ofNat 46)), (.str (by_ [97,32,98])), (.int .i64 (.ofNat 3)), (.int .i64 (.ofNat 1))]], (.tuple [(.slice 1 0 5 5 3 false), (.int .i64 (.ofNat 0))]), [], [.row [(.int .i64 (.ofNat 2)), (.int .u8 (.ofNat 112)), (.int .i64 (.ofNat 0)), (.int .i64 (.ofNat 1)), (.int .u8 (.ofNat 97)), (.int .i64 (.ofNat 3)), (.int .i64 (.ofNat 1)), (.int .u8 (.ofNat 32)), (.int .i64 (.ofNat 4)), (.int .i64 (.ofNat 1)), (.int .u8 (.ofNat 98)), (.int .i64 (.ofNat 5)), (.int .i64 (.ofNat 3)), (.int .u8 (.ofNat 112)), (.int .i64 (.ofNat 5))]]⟩
theorem e5_ok : EntOK prog e5 := run_ok (l := [e3, e4]) (cons_ok e3_ok <| cons_ok e4_ok <| nil_ok) [13] (by decide +kernel) (by decide +kernel)

/-- stylus styluslaw24 toks -/
def e6 : Ent := ⟨31, [(.str (by_ [123,112,32,97,32,98,125]))], [], (.slice 0 0 5 5 3 false), [], [.row [(.int .i64 (.ofNat 2)), (.int .u8 (.ofNat 112)), (.int .i64 (.ofNat 0)), (.int .i64 (.ofNat 1)), (.int .u8 (.ofNat 97)), (.int .i64 (.ofNat 3)), (.int .i64 (.ofNat 1)), (.int .u8 (.ofNat 32)), (.int .i64 (.ofNat 4)), (.int .i64 (.ofNat 1)), (.int .u8 (.ofNat 98)), (.int .i64 (.ofNat 5)), (.int .i64 (.ofNat 3)), (.int .u8 (.ofNat 112)), (.int .i64 (.ofNat 5))]]⟩
theorem e6_ok : EntOK prog e6 := run_ok (l := [e2, e4, e5]) (cons_ok e2_ok <| cons_ok e4_ok <| cons_ok e5_ok <| nil_ok) [2] (by decide +kernel) (by decide +kernel)
end Go.X.Ents
