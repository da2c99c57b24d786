/- What the law's run asks for, and that it cannot fail. No condition. -/
import Derived.Test.YteibjeicgeophaaGreatDoorBuiltCountsCon
namespace Go.Proofs.YteibjeicgeophaaGreatDoor
noncomputable def kTs : List TypeId := [22]
noncomputable def builtCounts_ka (N : Nat) : Nat → Abs.Fact := fun i => ([
  .rel "cnt" true (kCnt 64) [(.a1 .len (.var 4)), (.int .i64 (.ofNat 1)), (.a2 (.bin .add) (.int .i64 (.ofNat 1)) (.a1 (.ld 0) (.a2 .el (.var 4) (.int .i64 (.ofNat 0)))))],
  .fl (.a2 (.bin .gtr) (.a1 (.ld 0) (.a2 .el (.var 4) (.int .i64 (.ofNat 0)))) (.int .i64 (.ofNat 1073741824))),
  .fl (.a2 (.bin .lss) (.a1 (.ld 0) (.a2 .el (.var 4) (.int .i64 (.ofNat 0)))) (.int .i64 (.negSucc 1073741823))),
  .tr (.a2 (.bin .lss) (.int .i64 (.ofNat 0)) (.a1 .len (.var 4))),
  .fl (.a2 (.bin .gtr) (.a1 .len (.var 4)) (.int .i64 (.ofNat 40))),
  .rel "args" false (Abs.pArgs kK kTs N) [(.var 4)],
  .rel "in" true Abs.pIn [(.int .i64 (.ofNat 1)), (.int .i64 (.ofNat 41))],
  .rel "tr" true Abs.pTr [(.a2 (.bin .leq) (.a2 (.bin .add) (.int .i64 (.ofNat 1)) (.a1 (.ld 0) (.a2 .el (.var 4) (.int .i64 (.ofNat 0))))) (.int .i64 (.ofNat 44023414784)))],
  .rel "tr" true Abs.pTr [(.a2 (.bin .geq) (.a2 (.bin .add) (.int .i64 (.ofNat 1)) (.a1 (.ld 0) (.a2 .el (.var 4) (.int .i64 (.ofNat 0))))) (.int .i64 (.negSucc 44023414783)))]] : List Abs.Fact).getD i (.tr (.bool true))
noncomputable def builtCounts_kaR : List (List Nat) := [[0, 1, 2, 3, 4, 5], [6, 1, 2, 3, 4, 5], [7, 1, 2, 3, 4, 5], [8, 1, 2, 3, 4, 5]]
theorem builtCounts_uns (N : Nat) : Abs.Unsats (builtCounts_kaR.map fun r => r.map (builtCounts_ka N)) :=
  (Abs.unsats_of (F := builtCounts_ka N) (pats := [[0, 1, 2, 3, 4], [6, 1, 2, 3, 4], [7, 1, 2, 3, 4], [8, 1, 2, 3, 4]]) (fun p hp γ h => by
    simp only [List.mem_cons, List.not_mem_nil, or_false] at hp
    rcases hp with rfl | rfl | rfl | rfl
    · exact nxt_cnt (cnt_fst (h 1 (by simp)) (h 2 (by simp)) (h 3 (by simp)) (h 4 (by simp))) (h 0 (by simp))
    · exact nxt_in (cnt_fst (h 1 (by simp)) (h 2 (by simp)) (h 3 (by simp)) (h 4 (by simp))) (h 6 (by simp))
    · exact nxt_le (cnt_fst (h 1 (by simp)) (h 2 (by simp)) (h 3 (by simp)) (h 4 (by simp))) (h 7 (by simp))
    · exact nxt_ge (cnt_fst (h 1 (by simp)) (h 2 (by simp)) (h 3 (by simp)) (h 4 (by simp))) (h 8 (by simp))) (by kernel_rfl))
end Go.Proofs.YteibjeicgeophaaGreatDoor
