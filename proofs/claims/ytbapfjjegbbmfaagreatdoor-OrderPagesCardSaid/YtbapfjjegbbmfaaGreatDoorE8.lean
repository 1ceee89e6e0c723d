/-
  Calls of a closed run, part 8: each by a run of the executor that knows of those ahead.
-/
import Derived.Test.YtbapfjjegbbmfaaGreatDoorE7
namespace Go.X.Ents
set_option maxRecDepth 1000000

/-- stylus stylusref05 Of -/
def e21 : Ent := ⟨28, [(.slice 0 0 5 5 4 false)], [.row [(.int .u8 (.ofNat 112)), (.str (by_ [])), (.int .i64 (.ofNat 0)), (.int .i64 (.ofNat 5)), (.int .u8 (.ofNat 46)), (.str (by_ [97])), (.int .i64 (.ofNat 3)), (.int .i64 (.ofNat 1)), (.int .u8 (.ofNat 110)), (.str (by_ [])), (.int .i64 (.ofNat 4)), (.int .i64 (.ofNat 2)), (.int .u8 (.ofNat 46)), (.str (by_ [120])), (.int .i64 (.ofNat 7)), (.int .i64 (.ofNat 1)), (.int .u8 (.ofNat 46)), (.str (by_ [98])), (.int .i64 (.ofNat 9)), (.int .i64 (.ofNat 1))]], (.tuple [(.slice 1 0 5 5 4 false), (.int .i64 (.ofNat 0))]), [], [.row [(.int .u8 (.ofNat 112)), (.str (by_ [])), (.int .i64 (.ofNat 0)), (.int .i64 (.ofNat 5)), (.int .u8 (.ofNat 46)), (.str (by_ [97])), (.int .i64 (.ofNat 3)), (.int .i64 (.ofNat 1)), (.int .u8 (.ofNat 110)), (.str (by_ [])), (.int .i64 (.ofNat 4)), (.int .i64 (.ofNat 2)), (.int .u8 (.ofNat 46)), (.str (by_ [120])), (.int .i64 (.ofNat 7)), (.int .i64 (.ofNat 1)), (.int .u8 (.ofNat 46)), (.str (by_ [98])), (.int .i64 (.ofNat 9)), (.int .i64 (.ofNat 1))]]⟩
theorem e21_ok : EntOK prog e21 := run_ok (l := [e20]) (cons_ok e20_ok <| nil_ok) [2] (by decide +kernel) (by decide +kernel)

/-- stylus stylusref07 Of -/
def e22 : Ent := ⟨29, [(.slice 0 0 5 5 4 false)], [.row [(.int .u8 (.ofNat 112)), (.str (by_ [])), (.int .i64 (.ofNat 0)), (.int .i64 (.ofNat 5)), (.int .u8 (.ofNat 46)), (.str (by_ [97])), (.int .i64 (.ofNat 3)), (.int .i64 (.ofNat 1)), (.int .u8 (.ofNat 110)), (.str (by_ [])), (.int .i64 (.ofNat 4)), (.int .i64 (.ofNat 2)), (.int .u8 (.ofNat 46)), (.str (by_ [120])), (.int .i64 (.ofNat 7)), (.int .i64 (.ofNat 1)), (.int .u8 (.ofNat 46)), (.str (by_ [98])), (.int .i64 (.ofNat 9)), (.int .i64 (.ofNat 1))]], (.tuple [(.slice 1 0 7 7 3 false), (.int .i64 (.ofNat 0))]), [], [.row [(.int .i64 (.ofNat 2)), (.int .u8 (.ofNat 112)), (.int .i64 (.ofNat 0)), (.int .i64 (.ofNat 1)), (.int .u8 (.ofNat 97)), (.int .i64 (.ofNat 3)), (.int .i64 (.ofNat 2)), (.int .u8 (.ofNat 110)), (.int .i64 (.ofNat 4)), (.int .i64 (.ofNat 1)), (.int .u8 (.ofNat 120)), (.int .i64 (.ofNat 7)), (.int .i64 (.ofNat 3)), (.int .u8 (.ofNat 110)), (.int .i64 (.ofNat 7)), (.int .i64 (.ofNat 1)), (.int .u8 (.ofNat 98)), (.int .i64 (.ofNat 9)), (.int .i64 (.ofNat 3)), (.int .u8 (.ofNat 112)), (.int .i64 (.ofNat 9))]]⟩
theorem e22_ok : EntOK prog e22 := run_ok (l := [e20, e21]) (cons_ok e20_ok <| cons_ok e21_ok <| nil_ok) [20] (by decide +kernel) (by decide +kernel)

/-- stylus styluslaw23 toks -/
def e23 : Ent := ⟨17, [(.str (by_ [123,112,32,97,123,110,32,120,125,98,125]))], [], (.slice 0 0 7 7 3 false), [], [.row [(.int .i64 (.ofNat 2)), (.int .u8 (.ofNat 112)), (.int .i64 (.ofNat 0)), (.int .i64 (.ofNat 1)), (.int .u8 (.ofNat 97)), (.int .i64 (.ofNat 3)), (.int .i64 (.ofNat 2)), (.int .u8 (.ofNat 110)), (.int .i64 (.ofNat 4)), (.int .i64 (.ofNat 1)), (.int .u8 (.ofNat 120)), (.int .i64 (.ofNat 7)), (.int .i64 (.ofNat 3)), (.int .u8 (.ofNat 110)), (.int .i64 (.ofNat 7)), (.int .i64 (.ofNat 1)), (.int .u8 (.ofNat 98)), (.int .i64 (.ofNat 9)), (.int .i64 (.ofNat 3)), (.int .u8 (.ofNat 112)), (.int .i64 (.ofNat 9))]]⟩
theorem e23_ok : EntOK prog e23 := run_ok (l := [e19, e21, e22]) (cons_ok e19_ok <| cons_ok e21_ok <| cons_ok e22_ok <| nil_ok) [2] (by decide +kernel) (by decide +kernel)

/-- stylus tree Check -/
def e24 : Ent := ⟨69, [(.slice 0 0 5 5 4 false)], [.row [(.int .u8 (.ofNat 112)), (.str (by_ [])), (.int .i64 (.ofNat 0)), (.int .i64 (.ofNat 5)), (.int .u8 (.ofNat 46)), (.str (by_ [97])), (.int .i64 (.ofNat 3)), (.int .i64 (.ofNat 1)), (.int .u8 (.ofNat 110)), (.str (by_ [])), (.int .i64 (.ofNat 4)), (.int .i64 (.ofNat 2)), (.int .u8 (.ofNat 46)), (.str (by_ [120])), (.int .i64 (.ofNat 7)), (.int .i64 (.ofNat 1)), (.int .u8 (.ofNat 46)), (.str (by_ [98])), (.int .i64 (.ofNat 9)), (.int .i64 (.ofNat 1))]], (.int .i64 (.ofNat 0)), [], []⟩
theorem e24_ok : EntOK prog e24 := run_ok (l := [e6]) (cons_ok e6_ok <| nil_ok) [] (by decide +kernel) (by decide +kernel)
end Go.X.Ents
