/- This text proves that the program's slices.Sort of integers sorts, by the library's contract; no condition. -/
import Derived.Test.YtalckbmgdimcpaaGreatDoorLbTab
import Derived.Test.YtalckbmgdimcpaaGreatDoorShelf
import Derived.Sort.EveryDepth
namespace Go.Proofs.YtalckbmgdimcpaaGreatDoor
open Go.Eng Go.LbRun Go.Proofs
theorem sortC : SortC Tryz.prog f_slices_Sort_int := {
  fn := ⟨_, Tryz.func43, by kernel_rfl, by kernel_rfl⟩
  none := fun p cap w => Any.slices_Sort_int_none Tryz.laysSort p cap w
  some := fun blk off cap zs w hH hb hz => calls_of_every_depth fun D => AnyS.slices_Sort_int_alone Tryz.laysSort D blk off cap zs w hH hb hz }
theorem LbS_ok : ∀ c ∈ Cs, c.2.1 = 0 → SortC Tryz.prog c.1 := fun c hc h0 => by
  have h : (Cs.all fun c => c.2.1 != 0 || c.1 == f_slices_Sort_int) = true := by kernel_rfl
  have h1 := List.all_eq_true.1 h c hc
  rw [h0] at h1
  have h2 : c.1 = f_slices_Sort_int := by simpa using h1
  rw [h2]
  exact sortC
end Go.Proofs.YtalckbmgdimcpaaGreatDoor
