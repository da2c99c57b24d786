/- Single calls that the statement 'CheckBuilt' of 'YtonikibacahebaaGreatDoor' makes: what each reads and what it leaves, by runs of the abstract machine in the kernel. No condition. -/
import Derived.Test.YtonikibacahebaaGreatDoorCheckBuiltBase
namespace Go.Proofs.YtonikibacahebaaGreatDoor
set_option maxRecDepth 100000
noncomputable def cb0_M : List (FuncId × Abs.Memo) := []
noncomputable def cb0_C : Abs.Ctx := Abs.mkCtx Tryz.prog (fun _ => false) checkBuilt_absX cb0_M
theorem cb0_good : Abs.Good cb0_C := Abs.good_ofM (Abs.memos_of (M := cb0_M) trivial) checkBuilt_absValid checkBuilt_absNum (Abs.ext_of checkBuilt_absExt)
noncomputable def cb1_M : List (FuncId × Abs.Memo) := []
noncomputable def cb1_C : Abs.Ctx := Abs.mkCtx Tryz.prog (fun _ => false) checkBuilt_absX cb1_M
theorem cb1_good : Abs.Good cb1_C := Abs.good_ofM (Abs.memos_of (M := cb1_M) trivial) checkBuilt_absValid checkBuilt_absNum (Abs.ext_of checkBuilt_absExt)
noncomputable def cb2_M : List (FuncId × Abs.Memo) := []
noncomputable def cb2_C : Abs.Ctx := Abs.mkCtx Tryz.prog (fun _ => false) checkBuilt_absX cb2_M
theorem cb2_good : Abs.Good cb2_C := Abs.good_ofM (Abs.memos_of (M := cb2_M) trivial) checkBuilt_absValid checkBuilt_absNum (Abs.ext_of checkBuilt_absExt)
end Go.Proofs.YtonikibacahebaaGreatDoor
