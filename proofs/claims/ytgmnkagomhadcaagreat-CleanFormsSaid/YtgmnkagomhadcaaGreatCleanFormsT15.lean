/- Pieces 71 to 75 of the run of 'cleanForms': from the state ahead of each to the state behind it. -/
import Derived.Test.YtgmnkagomhadcaaGreatCleanFormsD3
import Derived.WalkKit
namespace Go.Proofs.YtgmnkagomhadcaaGreat.cleanForms
open Go.Ev Go.Ev.Lit
theorem t71 : (chkNx s71 (run F 13391 s70.fr s70.cs s70.h s70.ls), codesNx (idsOf s71.ls) (run F 13391 s70.fr s70.cs s70.h s70.ls)) = (true, k71) := by kernel_rfl
theorem t72 : (chkNx s72 (run F 12920 s71.fr s71.cs s71.h s71.ls), codesNx (idsOf s72.ls) (run F 12920 s71.fr s71.cs s71.h s71.ls)) = (true, k72) := by kernel_rfl
theorem t73 : (chkNx s73 (run F 12911 s72.fr s72.cs s72.h s72.ls), codesNx (idsOf s73.ls) (run F 12911 s72.fr s72.cs s72.h s72.ls)) = (true, k73) := by kernel_rfl
theorem t74 : (chkNx s74 (run F 13999 s73.fr s73.cs s73.h s73.ls), codesNx (idsOf s74.ls) (run F 13999 s73.fr s73.cs s73.h s73.ls)) = (true, k74) := by kernel_rfl
theorem t75 : (chkNx s75 (run F 14573 s74.fr s74.cs s74.h s74.ls), codesNx (idsOf s75.ls) (run F 14573 s74.fr s74.cs s74.h s74.ls)) = (true, k75) := by kernel_rfl
end Go.Proofs.YtgmnkagomhadcaaGreat.cleanForms
