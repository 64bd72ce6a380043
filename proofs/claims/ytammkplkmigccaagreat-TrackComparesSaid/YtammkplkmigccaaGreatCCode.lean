/- This text proves that the listed functions are this seat's program's, compiled; no condition. -/
import Derived.Test.YtammkplkmigccaaGreatCTb1
import Derived.Test.YtammkplkmigccaaGreatRows
namespace Go.Proofs.YtammkplkmigccaaGreat
open Go.Eng Go.TrRun
theorem TrL_at0:((L.drop 0).take 40).map (fun p=>zcF Tryz.prog an true p.1)=((L.drop 0).take 40).map fun p=>some p.2:=by kernel_rfl
theorem TrL_at40:((L.drop 40).take 40).map (fun p=>zcF Tryz.prog an true p.1)=((L.drop 40).take 40).map fun p=>some p.2:=by kernel_rfl
theorem TrL_at80:((L.drop 80).take 40).map (fun p=>zcF Tryz.prog an true p.1)=((L.drop 80).take 40).map fun p=>some p.2:=by kernel_rfl
theorem TrL_at120:((L.drop 120).take 40).map (fun p=>zcF Tryz.prog an true p.1)=((L.drop 120).take 40).map fun p=>some p.2:=by kernel_rfl
theorem TrL_eq:(L.map fun p=>zcF Tryz.prog an true p.1)=L.map fun p=>some p.2:=by
 have h:=zmE (n:=40) (i:=0) TrL_at0 (zmE (n:=40) (i:=40) TrL_at40 (zmE (n:=40) (i:=80) TrL_at80 (zmE (n:=40) (i:=120) TrL_at120 (zsc (Nat.le_of_ble_eq_true (by kernel_rfl))))));simpa only[List.drop_zero]using h
theorem TrV_ok:zql Tryz.prog L=true:=by kernel_rfl
theorem TrC_ok:(Cs.all fun c=>c.2.1==0||zf2 Tryz.prog c.1 c.2.1 c.2.2.1)=true:=by kernel_rfl
theorem TrS_ok:∀c∈Cs,c.2.1=0->zqh Tryz.prog c:=fun c hc h0=>by
 have h:(Cs.all fun c=>c.2.1 !=0)=true:=by kernel_rfl
 have:=jo.1 h c hc;rw[h0]at this;cases this
theorem Trmixed:Tryz.prog.follows .mixedOrders=true:=by kernel_rfl
theorem Trlaid:laidOutB Tryz.prog=true:=by kernel_rfl
theorem Trmaps:mapsRowed Tryz.prog=true:=by kernel_rfl
theorem Trfull:((List.range Tryz.prog.types.size).all fun t=>match Tryz.prog.underlying t with |some (.slice e)=>decide (0<Tryz.prog.cellsOf e) |_=>true)=true:=by kernel_rfl
end Go.Proofs.YtammkplkmigccaaGreat
