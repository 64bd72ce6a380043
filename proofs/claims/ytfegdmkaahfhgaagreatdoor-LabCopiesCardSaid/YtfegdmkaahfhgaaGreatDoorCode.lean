/- This text proves that the listed functions are this seat's program's, compiled; no condition. -/
import Derived.Test.YtfegdmkaahfhgaaGreatDoorTb1
import Derived.Test.YtfegdmkaahfhgaaGreatDoorRows
namespace Go.Proofs.YtfegdmkaahfhgaaGreatDoor
open Go.Eng Go.LcRun
theorem LcL_at0 : ((L.drop 0).take 40).map (fun p => compileAny Tryz.prog an true p.1) = ((L.drop 0).take 40).map fun p => some p.2 := by kernel_rfl
theorem LcL_at40 : ((L.drop 40).take 40).map (fun p => compileAny Tryz.prog an true p.1) = ((L.drop 40).take 40).map fun p => some p.2 := by kernel_rfl
theorem LcL_at80 : ((L.drop 80).take 40).map (fun p => compileAny Tryz.prog an true p.1) = ((L.drop 80).take 40).map fun p => some p.2 := by kernel_rfl
theorem LcL_at120 : ((L.drop 120).take 40).map (fun p => compileAny Tryz.prog an true p.1) = ((L.drop 120).take 40).map fun p => some p.2 := by kernel_rfl
theorem LcL_at160 : ((L.drop 160).take 40).map (fun p => compileAny Tryz.prog an true p.1) = ((L.drop 160).take 40).map fun p => some p.2 := by kernel_rfl
theorem LcL_at200 : ((L.drop 200).take 40).map (fun p => compileAny Tryz.prog an true p.1) = ((L.drop 200).take 40).map fun p => some p.2 := by kernel_rfl
theorem LcL_eq : (L.map fun p => compileAny Tryz.prog an true p.1) = L.map fun p => some p.2 := by
  have h := map_chunk (n := 40) (i := 0) LcL_at0 (map_chunk (n := 40) (i := 40) LcL_at40 (map_chunk (n := 40) (i := 80) LcL_at80 (map_chunk (n := 40) (i := 120) LcL_at120 (map_chunk (n := 40) (i := 160) LcL_at160 (map_chunk (n := 40) (i := 200) LcL_at200 (map_chunk_nil (Nat.le_of_ble_eq_true (by kernel_rfl))))))))
  simpa only [List.drop_zero] using h
theorem LcV_ok : virtOK Tryz.prog L = true := by kernel_rfl
theorem LcC_ok : (Cs.all fun c => c.2.1 == 0 || cloneCheck Tryz.prog c.1 c.2.1 (c.2.2.1 % 1048576)) = true := by kernel_rfl
theorem LcS_ok : ∀ c ∈ Cs, c.2.1 = 0 → SortAny Tryz.prog c := fun c hc h0 => by
  have h : (Cs.all fun c => c.2.1 != 0) = true := by kernel_rfl
  have := List.all_eq_true.1 h c hc
  rw [h0] at this
  cases this
theorem Lcmixed : Tryz.prog.follows .mixedOrders = true := by kernel_rfl
theorem Lclaid : laidOutB Tryz.prog = true := by kernel_rfl
theorem Lcmaps : mapsRowed Tryz.prog = true := by kernel_rfl
theorem Lcfull : ((List.range Tryz.prog.types.size).all fun t => match Tryz.prog.underlying t with | some (.slice e) => decide (0 < Tryz.prog.cellsOf e) | _ => true) = true := by kernel_rfl
end Go.Proofs.YtfegdmkaahfhgaaGreatDoor
