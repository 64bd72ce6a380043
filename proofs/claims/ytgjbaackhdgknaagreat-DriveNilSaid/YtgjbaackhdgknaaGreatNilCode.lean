/- This text proves that the listed functions are this seat's program's, compiled; no condition. -/
import Derived.Test.YtgjbaackhdgknaaGreatNilTab
import Derived.Test.YtgjbaackhdgknaaGreatRows
namespace Go.Proofs.YtgjbaackhdgknaaGreat
open Go.Eng Go.NilRun
theorem NilL_at0 : ((L.drop 0).take 40).map (fun p => compileAny Tryz.prog an true p.1) = ((L.drop 0).take 40).map fun p => some p.2 := by kernel_rfl
theorem NilL_at40 : ((L.drop 40).take 40).map (fun p => compileAny Tryz.prog an true p.1) = ((L.drop 40).take 40).map fun p => some p.2 := by kernel_rfl
theorem NilL_at80 : ((L.drop 80).take 40).map (fun p => compileAny Tryz.prog an true p.1) = ((L.drop 80).take 40).map fun p => some p.2 := by kernel_rfl
theorem NilL_at120 : ((L.drop 120).take 40).map (fun p => compileAny Tryz.prog an true p.1) = ((L.drop 120).take 40).map fun p => some p.2 := by kernel_rfl
theorem NilL_at160 : ((L.drop 160).take 40).map (fun p => compileAny Tryz.prog an true p.1) = ((L.drop 160).take 40).map fun p => some p.2 := by kernel_rfl
theorem NilL_at200 : ((L.drop 200).take 40).map (fun p => compileAny Tryz.prog an true p.1) = ((L.drop 200).take 40).map fun p => some p.2 := by kernel_rfl
theorem NilL_at240 : ((L.drop 240).take 40).map (fun p => compileAny Tryz.prog an true p.1) = ((L.drop 240).take 40).map fun p => some p.2 := by kernel_rfl
theorem NilL_at280 : ((L.drop 280).take 40).map (fun p => compileAny Tryz.prog an true p.1) = ((L.drop 280).take 40).map fun p => some p.2 := by kernel_rfl
theorem NilL_eq : (L.map fun p => compileAny Tryz.prog an true p.1) = L.map fun p => some p.2 := by
  have h := map_chunk (n := 40) (i := 0) NilL_at0 (map_chunk (n := 40) (i := 40) NilL_at40 (map_chunk (n := 40) (i := 80) NilL_at80 (map_chunk (n := 40) (i := 120) NilL_at120 (map_chunk (n := 40) (i := 160) NilL_at160 (map_chunk (n := 40) (i := 200) NilL_at200 (map_chunk (n := 40) (i := 240) NilL_at240 (map_chunk (n := 40) (i := 280) NilL_at280 (map_chunk_nil (Nat.le_of_ble_eq_true (by kernel_rfl))))))))))
  simpa only [List.drop_zero] using h
theorem NilV_ok : virtOK Tryz.prog L = true := by kernel_rfl
theorem NilC_ok : (Cs.all fun c => cloneCheck Tryz.prog c.1 c.2.1 c.2.2.1) = true := by kernel_rfl
theorem Nilmixed : Tryz.prog.follows .mixedOrders = true := by kernel_rfl
theorem Nillaid : laidOutB Tryz.prog = true := by kernel_rfl
theorem Nilmaps : mapsRowed Tryz.prog = true := by kernel_rfl
theorem Nilfull : ((List.range Tryz.prog.types.size).all fun t => match Tryz.prog.underlying t with | some (.slice e) => decide (0 < Tryz.prog.cellsOf e) | _ => true) = true := by kernel_rfl
end Go.Proofs.YtgjbaackhdgknaaGreat
