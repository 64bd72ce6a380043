/- This text proves that the laboratory's first sign of life is given, in the evaluator; no condition. -/
import Derived.Test.YtalckbmgdimcpaaGreatDoorLbTab
set_option linter.unusedVariables false
set_option maxRecDepth 100000
namespace Go.LbRun
open Go Go.Eng
theorem erun {e : Ent} (h : checkE tree Cs [] [] 3000 e = true) : Holds L Cs e := ent_run (t := tree) (hot := []) (es := []) (n := 3000) tree_eq L_nodup Cs_none .nil h
theorem R_awake : R L Cs f_kerbstonelaw10_awake [] [] = some (.w (Bo true), []) := erun (e := ⟨f_kerbstonelaw10_awake, [], [], .w (Bo true), []⟩) (by kernel_rfl)
end Go.LbRun
