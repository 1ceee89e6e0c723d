/-
  Calls of a closed run, part 6: each by a run of the executor that knows of those ahead.
-/
import Derived.Test.YtbapfjjegbbmfaaGreatDoorE5
namespace Go.X.Ents
set_option maxRecDepth 1000000

/-- stylus stylusref04 Parse -/
def e19 : Ent := ⟨27, [(.str (by_ [123,112,32,97,123,110,32,120,125,98,125]))], [], (.tuple [(.slice 0 0 5 5 4 false), (.int .i64 (.ofNat 0)), (.int .i64 (.ofNat 0))]), [], [.row [(.int .u8 (.ofNat 112)), (.str (by_ [])), (.int .i64 (.ofNat 0)), (.int .i64 (.ofNat 5)), (.int .u8 (.ofNat 46)), (.str (by_ [97])), (.int .i64 (.ofNat 3)), (.int .i64 (.ofNat 1)), (.int .u8 (.ofNat 110)), (.str (by_ [])), (.int .i64 (.ofNat 4)), (.int .i64 (.ofNat 2)), (.int .u8 (.ofNat 46)), (.str (by_ [120])), (.int .i64 (.ofNat 7)), (.int .i64 (.ofNat 1)), (.int .u8 (.ofNat 46)), (.str (by_ [98])), (.int .i64 (.ofNat 9)), (.int .i64 (.ofNat 1))]]⟩
theorem e19_ok : EntOK prog e19 := run_ok (l := []) (nil_ok) [151] (by decide +kernel) (by decide +kernel)
end Go.X.Ents
