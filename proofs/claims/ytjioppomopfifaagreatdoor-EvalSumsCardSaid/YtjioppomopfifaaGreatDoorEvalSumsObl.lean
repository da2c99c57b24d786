/- What the law's run asks for, and that it cannot fail. No condition. -/
import Derived.Test.YtjioppomopfifaaGreatDoorEvalSumsCon
namespace Go.Proofs.YtjioppomopfifaaGreatDoor
noncomputable def kTs:List TypeId:=[3,24]
theorem kHI:kK 3=[.int .i64]:=by kernel_rfl
noncomputable def Dl (N:Nat):Nat→Abs.Fact:=fun i=>([
 .rel "terms" true (Abs.aj kK kT (N+1)) [(.var 8),(.var 9),(.var 10),(.var 11)],
 .fl (.a2 (.bin .gtr) (.var 7) (.int .i64 (.ofNat 200))),
 .fl (.a2 (.bin .lss) (.var 7) (.int .i64 (.ofNat 0))),
 .rel "args" false (Abs.aaw kK kTs N) [(.var 7),(.var 8),(.var 9),(.var 10),(.var 11)],
 .rel "most" true Abs.oI [(.int .i64 (.ofNat 101))],
 .rel "term" true (Abs.aj kK kT kB) [(.var 8),(.var 9),(.var 10),(.var 11)],
 .fl (.a2 (.bin .gtr) (.var 2373) (.int .i64 (.ofNat 100))),
 .rel "sz" false (Abs.zT kT) [(.int .i64 (.ofNat 101)),(.var 2373),(.var 11)],
 .rel "sound" false Abs.ah [(.var 8),(.var 9),(.var 10),(.var 11)],
 .fl (.a2 (.bin .eql) (.int .i64 (.ofNat 0)) (.a2 (.bin .quo) (.a2 (.bin .mul) (.var 7) (.a2 (.bin .add) (.var 7) (.int .i64 (.ofNat 1)))) (.int .i64 (.ofNat 2)))),
 .tr (.a2 (.bin .eql) (.var 7) (.int .i64 (.ofNat 0))),
 .rel "cop" false (Abs.bU kK kT) [(.var 11),(.var 3640)],
 .tr (.a2 (.bin .gtr) (.var 7) (.int .i64 (.ofNat 1))),
 .fl (.a2 (.bin .eql) (.var 7) (.int .i64 (.ofNat 0))),
 .rel "sound" true Abs.ah [(.var 8),(.var 9),(.var 10),(.var 11)],
 .rel "tr" true Abs.uw [(.a2 (.bin .gtr) (.var 7) (.int .i64 (.ofNat 0)))],
 .fl (.a2 (.bin .gtr) (.var 7) (.int .i64 (.ofNat 1)))]:List Abs.Fact).getD i (.tr (.bool true))
noncomputable def Iw:List (List Nat):=[[0,1,2,3],[4,1,2,3],[5,6,7,1,2,3],[5,8,6,7,1,2,3],[9,10,11,8,6,7,1,2,3],[5,12,13,11,8,6,7,1,2,3],[14,12,13,11,8,6,7,1,2,3],[15,12,13,11,8,6,7,1,2,3],[5,16,13,11,8,6,7,1,2,3],[14,16,13,11,8,6,7,1,2,3],[15,16,13,11,8,6,7,1,2,3]]
theorem WB (N:Nat):Abs.lY (Iw.map fun r=>r.map (Dl N)):=
 (Abs.gW (F:=Dl N) (pats:=[[0,3],[4],[5,3,7,6],[9,10],[14,8],[15,13,2]]) (fun p hp γ h=>by
   simp only [List.mem_cons,List.not_mem_nil,or_false] at hp
   rcases hp with rfl|rfl|rfl|rfl|rfl|rfl
   ·exact (h 0 (by simp)) (a2U (nm':= "t") jO kHI (h 3 (by simp)))
   ·exact Abs.a5M (by decide) (by decide) (h 4 (by simp))
   ·exact (h 5 (by simp)) (Abs.a7Y (nm':= "t") (B:=kB) jO (a2U (nm':= "t") jO kHI (h 3 (by simp))) (h 7 (by simp)) (h 6 (by simp)) (of_decide_eq_true (by kernel_rfl)))
   ·exact a8P (h 10 (by simp)) (h 9 (by simp))
   ·exact (h 14 (by simp)) (h 8 (by simp))
   ·exact ade (h 13 (by simp)) (h 2 (by simp)) (h 15 (by simp))) (by kernel_rfl))
end Go.Proofs.YtjioppomopfifaaGreatDoor
