/- This text lists functions of this seat's program, compiled for the evaluator; no condition. -/
import Derived.Test.YtjmaghejnagjeaaGreatTb1
import Derived.KernelRfl
set_option linter.unusedVariables false
namespace Go.TrRun
open Go Go.Eng
theorem zlw:L.lookup 208=some zeY:=by kernel_rfl
theorem zlv:L.lookup 211=some zeX:=by kernel_rfl
theorem zmZ:L.lookup 213=some zfE:=by kernel_rfl
theorem zxi:L.lookup 214=some znA:=by kernel_rfl
theorem zou:L.lookup 215=some zh5:=by kernel_rfl
theorem zov:L.lookup 216=some zgM:=by kernel_rfl
theorem zuy:L.lookup 217=some zh2:=by kernel_rfl
theorem zv0:L.lookup 218=some zme:=by kernel_rfl
theorem zam:L.lookup 219=some za:=by kernel_rfl
theorem zp4:L.lookup 222=some zhF:=by kernel_rfl
theorem zjx:L.lookup 223=some zb6:=by kernel_rfl
theorem zp6:L.lookup 225=some zhH:=by kernel_rfl
theorem zhK:L.lookup 226=some zcd:=by kernel_rfl
theorem zp5:L.lookup 227=some zhG:=by kernel_rfl
theorem zsw:L.lookup 228=some zfO:=by kernel_rfl
theorem zi9:L.lookup 242=some ze6:=by kernel_rfl
theorem zle:L.lookup 243=some zfU:=by kernel_rfl
theorem zst:L.lookup 249=some zhf:=by kernel_rfl
theorem zrU:L.lookup 253=some zgL:=by kernel_rfl
theorem znG:L.lookup 259=some zf9:=by kernel_rfl
theorem zmY:L.lookup 260=some zfD:=by kernel_rfl
theorem zk1:L.lookup 261=some zdl:=by kernel_rfl
theorem zj5:L.lookup 272=some zc2:=by kernel_rfl
theorem zh8:L.lookup 273=some zdj:=by kernel_rfl
theorem zhw:L.lookup 295=some zcS:=by kernel_rfl
theorem zgc:L.lookup 301=some zce:=by kernel_rfl
theorem zcU:L.lookup 302=some zc:=by kernel_rfl
theorem zfR:L.lookup 306=some zbh:=by kernel_rfl
theorem zo8:L.lookup 312=some zg8:=by kernel_rfl
theorem zh9:L.lookup 316=some zdk:=by kernel_rfl
theorem zhc:L.lookup 322=some zcH:=by kernel_rfl
end Go.TrRun
