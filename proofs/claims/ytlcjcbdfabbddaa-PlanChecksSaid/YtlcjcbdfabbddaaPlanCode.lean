/- This text proves that the listed functions are this seat's program's, compiled; no condition. -/
import Derived.Test.YtlcjcbdfabbddaaPlanTab
import Derived.Test.YtlcjcbdfabbddaaRows
namespace Go.Proofs.Ytlcjcbdfabbddaa
open Go.Eng Go.PlanRun
theorem PlanL_eq : (L.map fun p => compileAny Try.prog an true p.1) = L.map fun p => some p.2 := by kernel_rfl
theorem PlanV_ok : virtOK Try.prog L = true := by kernel_rfl
theorem PlanC_ok : (Cs.all fun c => cloneCheck Try.prog c.1 c.2.1 c.2.2.1) = true := by kernel_rfl
theorem Planmixed : Try.prog.follows .mixedOrders = true := by kernel_rfl
theorem Planlaid : laidOutB Try.prog = true := by kernel_rfl
theorem Planmaps : mapsRowed Try.prog = true := by kernel_rfl
theorem Planfull : ((List.range Try.prog.types.size).all fun t => match Try.prog.underlying t with | some (.slice e) => decide (0 < Try.prog.cellsOf e) | _ => true) = true := by kernel_rfl
end Go.Proofs.Ytlcjcbdfabbddaa
