/-
  Calls of a closed run, part 7: each by a run of the executor that knows of those ahead.
-/
import Derived.Test.YtbapfjjegbbmfaaGreatDoorE6
namespace Go.X.Ents
set_option maxRecDepth 1000000

/-- stylus stylusref04 Check -/
def e20 : Ent := ⟨46, [(.slice 0 0 5 5 4 false)], [.row [(.int .u8 (.ofNat 112)), (.str (by_ [])), (.int .i64 (.ofNat 0)), (.int .i64 (.ofNat 5)), (.int .u8 (.ofNat 46)), (.str (by_ [97])), (.int .i64 (.ofNat 3)), (.int .i64 (.ofNat 1)), (.int .u8 (.ofNat 110)), (.str (by_ [])), (.int .i64 (.ofNat 4)), (.int .i64 (.ofNat 2)), (.int .u8 (.ofNat 46)), (.str (by_ [120])), (.int .i64 (.ofNat 7)), (.int .i64 (.ofNat 1)), (.int .u8 (.ofNat 46)), (.str (by_ [98])), (.int .i64 (.ofNat 9)), (.int .i64 (.ofNat 1))]], (.int .i64 (.ofNat 0)), [], []⟩
theorem e20_ok : EntOK prog e20 := run_ok (l := []) (nil_ok) [] (by decide +kernel) (by decide +kernel)
end Go.X.Ents
