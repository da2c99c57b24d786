/- Runs of the law's cases by the abstract machine in the kernel. No condition. -/
import Derived.Test.YtnkjhomdkpghlaaGreatRegistryAccessFacts
namespace Go.Proofs.YtnkjhomdkpghlaaGreat
noncomputable def ra_c8 : Abs.Case := ([(0, (.int .i64 (.ofNat 2))), (2, (.int .i64 (.ofNat 1))), (3, (.bool true))], [])
set_option maxRecDepth 100000 in
theorem ra_r8 (N : Nat) : Abs.runCase (ra_C N) 1000000 3 kTs N ra_c8 = some (ra_g4R.map fun r => r.map (ra_g4 N)) := by kernel_rfl
noncomputable def ra_c9 : Abs.Case := ([(0, (.int .i64 (.ofNat 2))), (2, (.int .i64 (.ofNat 1))), (3, (.bool false))], [])
set_option maxRecDepth 100000 in
theorem ra_r9 (N : Nat) : Abs.runCase (ra_C N) 1000000 3 kTs N ra_c9 = some (ra_g5R.map fun r => r.map (ra_g5 N)) := by kernel_rfl
noncomputable def ra_c10 : Abs.Case := ([(0, (.int .i64 (.ofNat 2))), (2, (.int .i64 (.ofNat 2))), (3, (.bool true))], [])
set_option maxRecDepth 100000 in
theorem ra_r10 (N : Nat) : Abs.runCase (ra_C N) 1000000 3 kTs N ra_c10 = some (ra_g6R.map fun r => r.map (ra_g6 N)) := by kernel_rfl
end Go.Proofs.YtnkjhomdkpghlaaGreat
