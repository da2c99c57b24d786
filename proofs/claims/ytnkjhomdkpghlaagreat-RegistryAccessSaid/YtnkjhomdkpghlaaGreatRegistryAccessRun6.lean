/- Runs of the law's cases by the abstract machine in the kernel. No condition. -/
import Derived.Test.YtnkjhomdkpghlaaGreatRegistryAccessFacts
namespace Go.Proofs.YtnkjhomdkpghlaaGreat
noncomputable def ra_c19 : Abs.Case := ([(0, (.int .i64 (.ofNat 3))), (2, (.int .i64 (.ofNat 2))), (3, (.bool false))], [])
set_option maxRecDepth 100000 in
theorem ra_r19 (N : Nat) : Abs.runCase (ra_C N) 1000000 3 kTs N ra_c19 = some (ra_g1R.map fun r => r.map (ra_g1 N)) := by kernel_rfl
noncomputable def ra_c20 : Abs.Case := ([(0, (.int .i64 (.ofNat 3))), (2, (.int .i64 (.ofNat 3))), (3, (.bool true))], [])
set_option maxRecDepth 100000 in
theorem ra_r20 (N : Nat) : Abs.runCase (ra_C N) 1000000 3 kTs N ra_c20 = some (ra_g2R.map fun r => r.map (ra_g2 N)) := by kernel_rfl
noncomputable def ra_c21 : Abs.Case := ([(0, (.int .i64 (.ofNat 3))), (2, (.int .i64 (.ofNat 3))), (3, (.bool false))], [])
set_option maxRecDepth 100000 in
theorem ra_r21 (N : Nat) : Abs.runCase (ra_C N) 1000000 3 kTs N ra_c21 = some (ra_g1R.map fun r => r.map (ra_g1 N)) := by kernel_rfl
noncomputable def ra_c22 : Abs.Case := ([(0, (.int .i64 (.ofNat 3))), (3, (.bool true))], [.fl (.a2 (.bin .eql) (.var 2) (.int .i64 (.ofNat 1))), .fl (.a2 (.bin .eql) (.var 2) (.int .i64 (.ofNat 2))), .fl (.a2 (.bin .eql) (.var 2) (.int .i64 (.ofNat 3)))])
set_option maxRecDepth 100000 in
theorem ra_r22 (N : Nat) : Abs.runCase (ra_C N) 1000000 3 kTs N ra_c22 = some (ra_g3R.map fun r => r.map (ra_g3 N)) := by kernel_rfl
noncomputable def ra_c23 : Abs.Case := ([(0, (.int .i64 (.ofNat 3))), (3, (.bool false))], [.fl (.a2 (.bin .eql) (.var 2) (.int .i64 (.ofNat 1))), .fl (.a2 (.bin .eql) (.var 2) (.int .i64 (.ofNat 2))), .fl (.a2 (.bin .eql) (.var 2) (.int .i64 (.ofNat 3)))])
set_option maxRecDepth 100000 in
theorem ra_r23 (N : Nat) : Abs.runCase (ra_C N) 1000000 3 kTs N ra_c23 = some (ra_g3R.map fun r => r.map (ra_g3 N)) := by kernel_rfl
end Go.Proofs.YtnkjhomdkpghlaaGreat
