/- This text lists functions of this seat's program, compiled for the evaluator; no condition. -/
import Derived.Test.YtjmaghejnagjeaaGreatRTb1
import Derived.KernelRfl
set_option linter.unusedVariables false
namespace Go.TrRun
open Go Go.Eng Go.Eng.Ins
theorem zKb:L.lookup 289=some zHF:=by kernel_rfl
theorem zhw:L.lookup 295=some zcS:=by kernel_rfl
theorem zgc:L.lookup 301=some zce:=by kernel_rfl
theorem zcU:L.lookup 302=some zc:=by kernel_rfl
theorem zKy:L.lookup 304=some zHG:=by kernel_rfl
theorem zfR:L.lookup 306=some zbh:=by kernel_rfl
theorem zo8:L.lookup 312=some zg8:=by kernel_rfl
theorem zh9:L.lookup 316=some zdk:=by kernel_rfl
theorem zhc:L.lookup 322=some zcH:=by kernel_rfl
theorem zKg:L.lookup 2182=some zHO:=by kernel_rfl
end Go.TrRun
