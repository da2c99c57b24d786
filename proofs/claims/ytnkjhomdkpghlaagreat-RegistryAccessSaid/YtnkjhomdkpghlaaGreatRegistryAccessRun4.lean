/- Runs of the law's cases by the abstract machine in the kernel. No condition. -/
import Derived.Test.YtnkjhomdkpghlaaGreatRegistryAccessFacts
namespace Go.Proofs.YtnkjhomdkpghlaaGreat
noncomputable def ra_c11 : Abs.Case := ([(0, (.int .i64 (.ofNat 2))), (2, (.int .i64 (.ofNat 2))), (3, (.bool false))], [])
set_option maxRecDepth 100000 in
theorem ra_r11 (N : Nat) : Abs.runCase (ra_C N) 1000000 3 kTs N ra_c11 = some (ra_g5R.map fun r => r.map (ra_g5 N)) := by kernel_rfl
noncomputable def ra_c12 : Abs.Case := ([(0, (.int .i64 (.ofNat 2))), (2, (.int .i64 (.ofNat 3))), (3, (.bool true))], [])
set_option maxRecDepth 100000 in
theorem ra_r12 (N : Nat) : Abs.runCase (ra_C N) 1000000 3 kTs N ra_c12 = some (ra_g6R.map fun r => r.map (ra_g6 N)) := by kernel_rfl
noncomputable def ra_c13 : Abs.Case := ([(0, (.int .i64 (.ofNat 2))), (2, (.int .i64 (.ofNat 3))), (3, (.bool false))], [])
set_option maxRecDepth 100000 in
theorem ra_r13 (N : Nat) : Abs.runCase (ra_C N) 1000000 3 kTs N ra_c13 = some (ra_g5R.map fun r => r.map (ra_g5 N)) := by kernel_rfl
noncomputable def ra_c14 : Abs.Case := ([(0, (.int .i64 (.ofNat 2))), (3, (.bool true))], [.fl (.a2 (.bin .eql) (.var 2) (.int .i64 (.ofNat 1))), .fl (.a2 (.bin .eql) (.var 2) (.int .i64 (.ofNat 2))), .fl (.a2 (.bin .eql) (.var 2) (.int .i64 (.ofNat 3)))])
set_option maxRecDepth 100000 in
theorem ra_r14 (N : Nat) : Abs.runCase (ra_C N) 1000000 3 kTs N ra_c14 = some (ra_g3R.map fun r => r.map (ra_g3 N)) := by kernel_rfl
noncomputable def ra_c15 : Abs.Case := ([(0, (.int .i64 (.ofNat 2))), (3, (.bool false))], [.fl (.a2 (.bin .eql) (.var 2) (.int .i64 (.ofNat 1))), .fl (.a2 (.bin .eql) (.var 2) (.int .i64 (.ofNat 2))), .fl (.a2 (.bin .eql) (.var 2) (.int .i64 (.ofNat 3)))])
set_option maxRecDepth 100000 in
theorem ra_r15 (N : Nat) : Abs.runCase (ra_C N) 1000000 3 kTs N ra_c15 = some (ra_g3R.map fun r => r.map (ra_g3 N)) := by kernel_rfl
end Go.Proofs.YtnkjhomdkpghlaaGreat
