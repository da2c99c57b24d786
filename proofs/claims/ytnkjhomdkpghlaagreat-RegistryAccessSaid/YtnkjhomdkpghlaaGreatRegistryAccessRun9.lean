/- Runs of the law's cases by the abstract machine in the kernel. No condition. -/
import Derived.Test.YtnkjhomdkpghlaaGreatRegistryAccessFacts
namespace Go.Proofs.YtnkjhomdkpghlaaGreat
noncomputable def ra_c35 : Abs.Case := ([(2, (.int .i64 (.ofNat 2))), (3, (.bool false))], [.fl (.a2 (.bin .eql) (.var 0) (.int .i64 (.ofNat 1))), .fl (.a2 (.bin .eql) (.var 0) (.int .i64 (.ofNat 2))), .fl (.a2 (.bin .eql) (.var 0) (.int .i64 (.ofNat 3))), .fl (.a2 (.bin .eql) (.var 0) (.int .i64 (.ofNat 4)))])
set_option maxRecDepth 100000 in
theorem ra_r35 (N : Nat) : Abs.runCase (ra_C N) 1000000 3 kTs N ra_c35 = some (ra_g7R.map fun r => r.map (ra_g7 N)) := by kernel_rfl
noncomputable def ra_c36 : Abs.Case := ([(2, (.int .i64 (.ofNat 3))), (3, (.bool true))], [.fl (.a2 (.bin .eql) (.var 0) (.int .i64 (.ofNat 1))), .fl (.a2 (.bin .eql) (.var 0) (.int .i64 (.ofNat 2))), .fl (.a2 (.bin .eql) (.var 0) (.int .i64 (.ofNat 3))), .fl (.a2 (.bin .eql) (.var 0) (.int .i64 (.ofNat 4)))])
set_option maxRecDepth 100000 in
theorem ra_r36 (N : Nat) : Abs.runCase (ra_C N) 1000000 3 kTs N ra_c36 = some (ra_g7R.map fun r => r.map (ra_g7 N)) := by kernel_rfl
noncomputable def ra_c37 : Abs.Case := ([(2, (.int .i64 (.ofNat 3))), (3, (.bool false))], [.fl (.a2 (.bin .eql) (.var 0) (.int .i64 (.ofNat 1))), .fl (.a2 (.bin .eql) (.var 0) (.int .i64 (.ofNat 2))), .fl (.a2 (.bin .eql) (.var 0) (.int .i64 (.ofNat 3))), .fl (.a2 (.bin .eql) (.var 0) (.int .i64 (.ofNat 4)))])
set_option maxRecDepth 100000 in
theorem ra_r37 (N : Nat) : Abs.runCase (ra_C N) 1000000 3 kTs N ra_c37 = some (ra_g7R.map fun r => r.map (ra_g7 N)) := by kernel_rfl
noncomputable def ra_c38 : Abs.Case := ([(3, (.bool true))], [.fl (.a2 (.bin .eql) (.var 0) (.int .i64 (.ofNat 1))), .fl (.a2 (.bin .eql) (.var 0) (.int .i64 (.ofNat 2))), .fl (.a2 (.bin .eql) (.var 0) (.int .i64 (.ofNat 3))), .fl (.a2 (.bin .eql) (.var 0) (.int .i64 (.ofNat 4))), .fl (.a2 (.bin .eql) (.var 2) (.int .i64 (.ofNat 1))), .fl (.a2 (.bin .eql) (.var 2) (.int .i64 (.ofNat 2))), .fl (.a2 (.bin .eql) (.var 2) (.int .i64 (.ofNat 3)))])
set_option maxRecDepth 100000 in
theorem ra_r38 (N : Nat) : Abs.runCase (ra_C N) 1000000 3 kTs N ra_c38 = some (ra_g8R.map fun r => r.map (ra_g8 N)) := by kernel_rfl
noncomputable def ra_c39 : Abs.Case := ([(3, (.bool false))], [.fl (.a2 (.bin .eql) (.var 0) (.int .i64 (.ofNat 1))), .fl (.a2 (.bin .eql) (.var 0) (.int .i64 (.ofNat 2))), .fl (.a2 (.bin .eql) (.var 0) (.int .i64 (.ofNat 3))), .fl (.a2 (.bin .eql) (.var 0) (.int .i64 (.ofNat 4))), .fl (.a2 (.bin .eql) (.var 2) (.int .i64 (.ofNat 1))), .fl (.a2 (.bin .eql) (.var 2) (.int .i64 (.ofNat 2))), .fl (.a2 (.bin .eql) (.var 2) (.int .i64 (.ofNat 3)))])
set_option maxRecDepth 100000 in
theorem ra_r39 (N : Nat) : Abs.runCase (ra_C N) 1000000 3 kTs N ra_c39 = some (ra_g8R.map fun r => r.map (ra_g8 N)) := by kernel_rfl
end Go.Proofs.YtnkjhomdkpghlaaGreat
