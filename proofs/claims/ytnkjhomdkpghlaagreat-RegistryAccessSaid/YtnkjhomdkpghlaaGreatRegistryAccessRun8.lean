/- Runs of the law's cases by the abstract machine in the kernel. No condition. -/
import Derived.Test.YtnkjhomdkpghlaaGreatRegistryAccessFacts
namespace Go.Proofs.YtnkjhomdkpghlaaGreat
noncomputable def ra_c27 : Abs.Case := ([(0, (.int .i64 (.ofNat 4))), (2, (.int .i64 (.ofNat 2))), (3, (.bool false))], [])
set_option maxRecDepth 100000 in
theorem ra_r27 (N : Nat) : Abs.runCase (ra_C N) 1000000 3 kTs N ra_c27 = some (ra_g1R.map fun r => r.map (ra_g1 N)) := by kernel_rfl
noncomputable def ra_c28 : Abs.Case := ([(0, (.int .i64 (.ofNat 4))), (2, (.int .i64 (.ofNat 3))), (3, (.bool true))], [])
set_option maxRecDepth 100000 in
theorem ra_r28 (N : Nat) : Abs.runCase (ra_C N) 1000000 3 kTs N ra_c28 = some (ra_g2R.map fun r => r.map (ra_g2 N)) := by kernel_rfl
noncomputable def ra_c29 : Abs.Case := ([(0, (.int .i64 (.ofNat 4))), (2, (.int .i64 (.ofNat 3))), (3, (.bool false))], [])
set_option maxRecDepth 100000 in
theorem ra_r29 (N : Nat) : Abs.runCase (ra_C N) 1000000 3 kTs N ra_c29 = some (ra_g1R.map fun r => r.map (ra_g1 N)) := by kernel_rfl
noncomputable def ra_c30 : Abs.Case := ([(0, (.int .i64 (.ofNat 4))), (3, (.bool true))], [.fl (.a2 (.bin .eql) (.var 2) (.int .i64 (.ofNat 1))), .fl (.a2 (.bin .eql) (.var 2) (.int .i64 (.ofNat 2))), .fl (.a2 (.bin .eql) (.var 2) (.int .i64 (.ofNat 3)))])
set_option maxRecDepth 100000 in
theorem ra_r30 (N : Nat) : Abs.runCase (ra_C N) 1000000 3 kTs N ra_c30 = some (ra_g3R.map fun r => r.map (ra_g3 N)) := by kernel_rfl
noncomputable def ra_c31 : Abs.Case := ([(0, (.int .i64 (.ofNat 4))), (3, (.bool false))], [.fl (.a2 (.bin .eql) (.var 2) (.int .i64 (.ofNat 1))), .fl (.a2 (.bin .eql) (.var 2) (.int .i64 (.ofNat 2))), .fl (.a2 (.bin .eql) (.var 2) (.int .i64 (.ofNat 3)))])
set_option maxRecDepth 100000 in
theorem ra_r31 (N : Nat) : Abs.runCase (ra_C N) 1000000 3 kTs N ra_c31 = some (ra_g3R.map fun r => r.map (ra_g3 N)) := by kernel_rfl
noncomputable def ra_c32 : Abs.Case := ([(2, (.int .i64 (.ofNat 1))), (3, (.bool true))], [.fl (.a2 (.bin .eql) (.var 0) (.int .i64 (.ofNat 1))), .fl (.a2 (.bin .eql) (.var 0) (.int .i64 (.ofNat 2))), .fl (.a2 (.bin .eql) (.var 0) (.int .i64 (.ofNat 3))), .fl (.a2 (.bin .eql) (.var 0) (.int .i64 (.ofNat 4)))])
set_option maxRecDepth 100000 in
theorem ra_r32 (N : Nat) : Abs.runCase (ra_C N) 1000000 3 kTs N ra_c32 = some (ra_g7R.map fun r => r.map (ra_g7 N)) := by kernel_rfl
noncomputable def ra_c33 : Abs.Case := ([(2, (.int .i64 (.ofNat 1))), (3, (.bool false))], [.fl (.a2 (.bin .eql) (.var 0) (.int .i64 (.ofNat 1))), .fl (.a2 (.bin .eql) (.var 0) (.int .i64 (.ofNat 2))), .fl (.a2 (.bin .eql) (.var 0) (.int .i64 (.ofNat 3))), .fl (.a2 (.bin .eql) (.var 0) (.int .i64 (.ofNat 4)))])
set_option maxRecDepth 100000 in
theorem ra_r33 (N : Nat) : Abs.runCase (ra_C N) 1000000 3 kTs N ra_c33 = some (ra_g7R.map fun r => r.map (ra_g7 N)) := by kernel_rfl
noncomputable def ra_c34 : Abs.Case := ([(2, (.int .i64 (.ofNat 2))), (3, (.bool true))], [.fl (.a2 (.bin .eql) (.var 0) (.int .i64 (.ofNat 1))), .fl (.a2 (.bin .eql) (.var 0) (.int .i64 (.ofNat 2))), .fl (.a2 (.bin .eql) (.var 0) (.int .i64 (.ofNat 3))), .fl (.a2 (.bin .eql) (.var 0) (.int .i64 (.ofNat 4)))])
set_option maxRecDepth 100000 in
theorem ra_r34 (N : Nat) : Abs.runCase (ra_C N) 1000000 3 kTs N ra_c34 = some (ra_g7R.map fun r => r.map (ra_g7 N)) := by kernel_rfl
end Go.Proofs.YtnkjhomdkpghlaaGreat
