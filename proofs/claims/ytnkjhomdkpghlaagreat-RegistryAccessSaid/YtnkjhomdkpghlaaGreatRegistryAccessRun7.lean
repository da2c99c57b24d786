/- Runs of the law's cases by the abstract machine in the kernel. No condition. -/
import Derived.Test.YtnkjhomdkpghlaaGreatRegistryAccessFacts
namespace Go.Proofs.YtnkjhomdkpghlaaGreat
noncomputable def ra_c24 : Abs.Case := ([(0, (.int .i64 (.ofNat 4))), (2, (.int .i64 (.ofNat 1))), (3, (.bool true))], [])
set_option maxRecDepth 100000 in
theorem ra_r24 (N : Nat) : Abs.runCase (ra_C N) 1000000 3 kTs N ra_c24 = some (ra_g0R.map fun r => r.map (ra_g0 N)) := by kernel_rfl
noncomputable def ra_c25 : Abs.Case := ([(0, (.int .i64 (.ofNat 4))), (2, (.int .i64 (.ofNat 1))), (3, (.bool false))], [])
set_option maxRecDepth 100000 in
theorem ra_r25 (N : Nat) : Abs.runCase (ra_C N) 1000000 3 kTs N ra_c25 = some (ra_g1R.map fun r => r.map (ra_g1 N)) := by kernel_rfl
noncomputable def ra_c26 : Abs.Case := ([(0, (.int .i64 (.ofNat 4))), (2, (.int .i64 (.ofNat 2))), (3, (.bool true))], [])
set_option maxRecDepth 100000 in
theorem ra_r26 (N : Nat) : Abs.runCase (ra_C N) 1000000 3 kTs N ra_c26 = some (ra_g2R.map fun r => r.map (ra_g2 N)) := by kernel_rfl
end Go.Proofs.YtnkjhomdkpghlaaGreat
