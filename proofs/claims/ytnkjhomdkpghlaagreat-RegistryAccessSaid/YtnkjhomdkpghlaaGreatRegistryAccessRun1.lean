/- Runs of the law's cases by the abstract machine in the kernel. No condition. -/
import Derived.Test.YtnkjhomdkpghlaaGreatRegistryAccessFacts
namespace Go.Proofs.YtnkjhomdkpghlaaGreat
noncomputable def ra_c0 : Abs.Case := ([(0, (.int .i64 (.ofNat 1))), (2, (.int .i64 (.ofNat 1))), (3, (.bool true))], [])
set_option maxRecDepth 100000 in
theorem ra_r0 (N : Nat) : Abs.runCase (ra_C N) 1000000 3 kTs N ra_c0 = some (ra_g0R.map fun r => r.map (ra_g0 N)) := by kernel_rfl
noncomputable def ra_c1 : Abs.Case := ([(0, (.int .i64 (.ofNat 1))), (2, (.int .i64 (.ofNat 1))), (3, (.bool false))], [])
set_option maxRecDepth 100000 in
theorem ra_r1 (N : Nat) : Abs.runCase (ra_C N) 1000000 3 kTs N ra_c1 = some (ra_g1R.map fun r => r.map (ra_g1 N)) := by kernel_rfl
noncomputable def ra_c2 : Abs.Case := ([(0, (.int .i64 (.ofNat 1))), (2, (.int .i64 (.ofNat 2))), (3, (.bool true))], [])
set_option maxRecDepth 100000 in
theorem ra_r2 (N : Nat) : Abs.runCase (ra_C N) 1000000 3 kTs N ra_c2 = some (ra_g2R.map fun r => r.map (ra_g2 N)) := by kernel_rfl
end Go.Proofs.YtnkjhomdkpghlaaGreat
