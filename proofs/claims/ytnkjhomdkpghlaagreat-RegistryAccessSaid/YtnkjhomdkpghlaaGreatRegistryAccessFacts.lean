/- What the law's cases ask for, and that it cannot fail. No condition. -/
import Derived.Test.YtnkjhomdkpghlaaGreatRegistryAccessCon
namespace Go.Proofs.YtnkjhomdkpghlaaGreat
noncomputable def ra_g0 (N : Nat) : Nat → Abs.Fact := fun i => ([
  .rel "terms" true (Abs.pTerm kK kT (N + 1)) [(.var 6), (.var 7), (.var 8), (.var 9)],
  .rel "args" false (Abs.pArgs kK kTs N) [(.var 0), (.var 1), (.var 2), (.var 3), (.var 4), (.var 5), (.var 6), (.var 7), (.var 8), (.var 9), (.var 10), (.var 11), (.var 12), (.var 13), (.var 14), (.var 15)],
  .rel "most" true Abs.pMost [(.int .i64 (.ofNat 61))],
  .rel "terms" true (Abs.pTerm kK kT (N + 1)) [(.var 12), (.var 13), (.var 14), (.var 15)],
  .fl (.a2 (.bin .gtr) (.var 223) (.int .i64 (.ofNat 60))),
  .rel "sz" false (Abs.pSz kT) [(.int .i64 (.ofNat 61)), (.var 223), (.var 9)],
  .rel "term" true (Abs.pTerm kK kT kB) [(.var 6), (.var 7), (.var 8), (.var 9)],
  .tr (.a2 (.bin .leq) (.a1 .len (.var 4)) (.int .i64 (.ofNat 64))),
  .tr (.a2 (.bin .leq) (.var 1) (.int .i64 (.ofNat 64))),
  .tr (.a2 (.bin .geq) (.var 1) (.int .i64 (.ofNat 1))),
  .tr (.a2 (.bin .eql) (.a1 .len (.var 9)) (.int .i64 (.ofNat 0))),
  .tr (.a2 (.bin .eql) (.var 8) (.str [])),
  .tr (.a2 (.bin .eql) (.var 7) (.int .i64 (.ofNat 0))),
  .tr (.a2 (.bin .eql) (.var 6) (.int .i64 (.ofNat 0))),
  .tr (.a2 (.bin .eql) (.var 5) (.int .i64 (.ofNat 0))),
  .tr (.a2 (.bin .leq) (.var 10) (.int .i64 (.ofNat 1073741824))),
  .tr (.a2 (.bin .geq) (.var 10) (.int .i64 (.ofNat 1))),
  .fl (.a2 (.bin .gtr) (.a1 .len (.var 4)) (.int .i64 (.ofNat 100))),
  .fl (.a2 (.bin .gtr) (.var 225) (.int .i64 (.ofNat 60))),
  .rel "sz" false (Abs.pSz kT) [(.int .i64 (.ofNat 61)), (.var 225), (.var 15)],
  .rel "term" true (Abs.pTerm kK kT kB) [(.var 12), (.var 13), (.var 14), (.var 15)],
  .fl (.a2 (.bin .gtr) (.var 11) (.int .i64 (.ofNat 1073741824))),
  .fl (.a2 (.bin .lss) (.var 11) (.int .i64 (.ofNat 1))),
  .fl (.a2 (.bin .eql) (.var 11) (.var 10)),
  .rel "cop" false (Abs.pCop kK kT) [(.var 9), (.var 284)],
  .tr (.a2 (.bin .eql) (.var 337) (.int .i64 (.ofNat 0))),
  .rel "term" true (Abs.pTerm kK kT kB) [(.var 6), (.var 7), (.var 8), (.var 284)],
  .tr (.a2 (.bin .eql) (.var 4) (.str [122])),
  .tr (.a2 (.bin .eql) (.var 367) (.int .i64 (.ofNat 0))),
  .fl (.a2 (.bin .eql) (.var 4) (.str [122])),
  .fl (.a2 (.bin .eql) (.var 367) (.int .i64 (.ofNat 0))),
  .fl (.a2 (.bin .eql) (.var 337) (.int .i64 (.ofNat 0))),
  .tr (.a2 (.bin .eql) (.var 349) (.int .i64 (.ofNat 0))),
  .fl (.a2 (.bin .eql) (.var 349) (.int .i64 (.ofNat 0))),
  .tr (.a2 (.bin .leq) (.var 5) (.int .i64 (.ofNat 1073741824))),
  .tr (.a2 (.bin .geq) (.var 5) (.int .i64 (.ofNat 1))),
  .fl (.a2 (.bin .eql) (.var 5) (.int .i64 (.ofNat 0))),
  .tr (.a2 (.bin .eql) (.var 247) (.int .i64 (.ofNat 0))),
  .rel "cop" false (Abs.pCop kK kT) [(.var 9), (.var 285)],
  .tr (.a2 (.bin .eql) (.var 338) (.int .i64 (.ofNat 0))),
  .rel "term" true (Abs.pTerm kK kT kB) [(.var 6), (.var 7), (.var 8), (.var 285)],
  .tr (.a2 (.bin .eql) (.var 368) (.int .i64 (.ofNat 0))),
  .fl (.a2 (.bin .eql) (.var 368) (.int .i64 (.ofNat 0))),
  .fl (.a2 (.bin .eql) (.var 338) (.int .i64 (.ofNat 0))),
  .tr (.a2 (.bin .eql) (.var 350) (.int .i64 (.ofNat 0))),
  .fl (.a2 (.bin .eql) (.var 350) (.int .i64 (.ofNat 0)))] : List Abs.Fact).getD i (.tr (.bool true))
noncomputable def ra_g0R : List (List Nat) := [[0, 1], [2, 1], [3, 4, 5, 1], [2, 4, 5, 1], [6, 7, 8, 9, 10, 11, 12, 13, 14, 15, 16, 17, 18, 19, 4, 5, 1], [20, 21, 22, 23, 24, 7, 8, 9, 10, 11, 12, 13, 14, 15, 16, 17, 18, 19, 4, 5, 1], [20, 25, 21, 22, 23, 24, 7, 8, 9, 10, 11, 12, 13, 14, 15, 16, 17, 18, 19, 4, 5, 1], [26, 27, 28, 25, 21, 22, 23, 24, 7, 8, 9, 10, 11, 12, 13, 14, 15, 16, 17, 18, 19, 4, 5, 1], [26, 29, 28, 25, 21, 22, 23, 24, 7, 8, 9, 10, 11, 12, 13, 14, 15, 16, 17, 18, 19, 4, 5, 1], [26, 27, 30, 25, 21, 22, 23, 24, 7, 8, 9, 10, 11, 12, 13, 14, 15, 16, 17, 18, 19, 4, 5, 1], [26, 29, 30, 25, 21, 22, 23, 24, 7, 8, 9, 10, 11, 12, 13, 14, 15, 16, 17, 18, 19, 4, 5, 1], [20, 31, 21, 22, 23, 24, 7, 8, 9, 10, 11, 12, 13, 14, 15, 16, 17, 18, 19, 4, 5, 1], [26, 27, 32, 31, 21, 22, 23, 24, 7, 8, 9, 10, 11, 12, 13, 14, 15, 16, 17, 18, 19, 4, 5, 1], [26, 29, 32, 31, 21, 22, 23, 24, 7, 8, 9, 10, 11, 12, 13, 14, 15, 16, 17, 18, 19, 4, 5, 1], [26, 27, 33, 31, 21, 22, 23, 24, 7, 8, 9, 10, 11, 12, 13, 14, 15, 16, 17, 18, 19, 4, 5, 1], [26, 29, 33, 31, 21, 22, 23, 24, 7, 8, 9, 10, 11, 12, 13, 14, 15, 16, 17, 18, 19, 4, 5, 1], [6, 34, 35, 36, 15, 16, 17, 18, 19, 4, 5, 1], [6, 37, 7, 8, 9, 34, 35, 36, 15, 16, 17, 18, 19, 4, 5, 1], [20, 21, 22, 23, 38, 37, 7, 8, 9, 34, 35, 36, 15, 16, 17, 18, 19, 4, 5, 1], [20, 39, 21, 22, 23, 38, 37, 7, 8, 9, 34, 35, 36, 15, 16, 17, 18, 19, 4, 5, 1], [40, 27, 41, 39, 21, 22, 23, 38, 37, 7, 8, 9, 34, 35, 36, 15, 16, 17, 18, 19, 4, 5, 1], [40, 29, 41, 39, 21, 22, 23, 38, 37, 7, 8, 9, 34, 35, 36, 15, 16, 17, 18, 19, 4, 5, 1], [40, 27, 42, 39, 21, 22, 23, 38, 37, 7, 8, 9, 34, 35, 36, 15, 16, 17, 18, 19, 4, 5, 1], [40, 29, 42, 39, 21, 22, 23, 38, 37, 7, 8, 9, 34, 35, 36, 15, 16, 17, 18, 19, 4, 5, 1], [20, 43, 21, 22, 23, 38, 37, 7, 8, 9, 34, 35, 36, 15, 16, 17, 18, 19, 4, 5, 1], [40, 27, 44, 43, 21, 22, 23, 38, 37, 7, 8, 9, 34, 35, 36, 15, 16, 17, 18, 19, 4, 5, 1], [40, 29, 44, 43, 21, 22, 23, 38, 37, 7, 8, 9, 34, 35, 36, 15, 16, 17, 18, 19, 4, 5, 1], [40, 27, 45, 43, 21, 22, 23, 38, 37, 7, 8, 9, 34, 35, 36, 15, 16, 17, 18, 19, 4, 5, 1], [40, 29, 45, 43, 21, 22, 23, 38, 37, 7, 8, 9, 34, 35, 36, 15, 16, 17, 18, 19, 4, 5, 1]]
theorem ra_u0 (N : Nat) : Abs.Unsats (ra_g0R.map fun r => r.map (ra_g0 N)) :=
  (Abs.unsats_of (F := ra_g0 N) (pats := [[0, 1], [2], [3, 1], [6, 1, 5, 4], [20, 1, 19, 18], [26, 1, 5, 4, 24], [40, 1, 5, 4, 38]]) (fun p hp γ h => by
    simp only [List.mem_cons, List.not_mem_nil, or_false] at hp
    rcases hp with rfl | rfl | rfl | rfl | rfl | rfl | rfl
    · exact (h 0 (by simp)) (Abs.args_acc (nm1 := "t") (nm2 := "t") kHK kHO kHI (h 1 (by simp))).1
    · exact Abs.most_lit (by decide) (by decide) (h 2 (by simp))
    · exact (h 3 (by simp)) (Abs.args_acc (nm1 := "t") (nm2 := "t") kHK kHO kHI (h 1 (by simp))).2
    · exact (h 6 (by simp)) (Abs.sz_fine (nm' := "t") (B := kB) kHK (Abs.args_acc (nm1 := "t") (nm2 := "t") kHK kHO kHI (h 1 (by simp))).1 (h 5 (by simp)) (h 4 (by simp)) (of_decide_eq_true (by kernel_rfl)))
    · exact (h 20 (by simp)) (Abs.sz_fine (nm' := "t") (B := kB) kHK (Abs.args_acc (nm1 := "t") (nm2 := "t") kHK kHO kHI (h 1 (by simp))).2 (h 19 (by simp)) (h 18 (by simp)) (of_decide_eq_true (by kernel_rfl)))
    · exact Abs.copy_of_args kHK (Abs.sz_fine (nm' := "t") (B := kB) kHK (Abs.args_acc (nm1 := "t") (nm2 := "t") kHK kHO kHI (h 1 (by simp))).1 (h 5 (by simp)) (h 4 (by simp)) (of_decide_eq_true (by kernel_rfl))) (h 24 (by simp)) (h 26 (by simp))
    · exact Abs.copy_of_args kHK (Abs.sz_fine (nm' := "t") (B := kB) kHK (Abs.args_acc (nm1 := "t") (nm2 := "t") kHK kHO kHI (h 1 (by simp))).1 (h 5 (by simp)) (h 4 (by simp)) (of_decide_eq_true (by kernel_rfl))) (h 38 (by simp)) (h 40 (by simp))) (by kernel_rfl))
noncomputable def ra_g1 (N : Nat) : Nat → Abs.Fact := fun i => ([
  .rel "terms" true (Abs.pTerm kK kT (N + 1)) [(.var 6), (.var 7), (.var 8), (.var 9)],
  .rel "args" false (Abs.pArgs kK kTs N) [(.var 0), (.var 1), (.var 2), (.var 3), (.var 4), (.var 5), (.var 6), (.var 7), (.var 8), (.var 9), (.var 10), (.var 11), (.var 12), (.var 13), (.var 14), (.var 15)],
  .rel "most" true Abs.pMost [(.int .i64 (.ofNat 61))],
  .rel "terms" true (Abs.pTerm kK kT (N + 1)) [(.var 12), (.var 13), (.var 14), (.var 15)],
  .fl (.a2 (.bin .gtr) (.var 223) (.int .i64 (.ofNat 60))),
  .rel "sz" false (Abs.pSz kT) [(.int .i64 (.ofNat 61)), (.var 223), (.var 9)],
  .rel "term" true (Abs.pTerm kK kT kB) [(.var 6), (.var 7), (.var 8), (.var 9)],
  .tr (.a2 (.bin .leq) (.a1 .len (.var 4)) (.int .i64 (.ofNat 64))),
  .tr (.a2 (.bin .leq) (.var 1) (.int .i64 (.ofNat 64))),
  .tr (.a2 (.bin .geq) (.var 1) (.int .i64 (.ofNat 1))),
  .tr (.a2 (.bin .eql) (.a1 .len (.var 9)) (.int .i64 (.ofNat 0))),
  .tr (.a2 (.bin .eql) (.var 8) (.str [])),
  .tr (.a2 (.bin .eql) (.var 7) (.int .i64 (.ofNat 0))),
  .tr (.a2 (.bin .eql) (.var 6) (.int .i64 (.ofNat 0))),
  .tr (.a2 (.bin .eql) (.var 5) (.int .i64 (.ofNat 0))),
  .tr (.a2 (.bin .leq) (.var 10) (.int .i64 (.ofNat 1073741824))),
  .tr (.a2 (.bin .geq) (.var 10) (.int .i64 (.ofNat 1))),
  .fl (.a2 (.bin .gtr) (.a1 .len (.var 4)) (.int .i64 (.ofNat 100))),
  .fl (.a2 (.bin .gtr) (.var 225) (.int .i64 (.ofNat 60))),
  .rel "sz" false (Abs.pSz kT) [(.int .i64 (.ofNat 61)), (.var 225), (.var 15)],
  .rel "term" true (Abs.pTerm kK kT kB) [(.var 12), (.var 13), (.var 14), (.var 15)],
  .fl (.a2 (.bin .gtr) (.var 11) (.int .i64 (.ofNat 1073741824))),
  .fl (.a2 (.bin .lss) (.var 11) (.int .i64 (.ofNat 1))),
  .fl (.a2 (.bin .eql) (.var 11) (.var 10)),
  .rel "cop" false (Abs.pCop kK kT) [(.var 9), (.var 274)],
  .tr (.a2 (.bin .eql) (.var 327) (.int .i64 (.ofNat 0))),
  .rel "term" true (Abs.pTerm kK kT kB) [(.var 6), (.var 7), (.var 8), (.var 274)],
  .tr (.a2 (.bin .eql) (.var 357) (.int .i64 (.ofNat 0))),
  .fl (.a2 (.bin .eql) (.var 357) (.int .i64 (.ofNat 0))),
  .fl (.a2 (.bin .eql) (.var 327) (.int .i64 (.ofNat 0))),
  .tr (.a2 (.bin .eql) (.var 339) (.int .i64 (.ofNat 0))),
  .fl (.a2 (.bin .eql) (.var 339) (.int .i64 (.ofNat 0))),
  .tr (.a2 (.bin .leq) (.var 5) (.int .i64 (.ofNat 1073741824))),
  .tr (.a2 (.bin .geq) (.var 5) (.int .i64 (.ofNat 1))),
  .fl (.a2 (.bin .eql) (.var 5) (.int .i64 (.ofNat 0))),
  .tr (.a2 (.bin .eql) (.var 247) (.int .i64 (.ofNat 0))),
  .rel "cop" false (Abs.pCop kK kT) [(.var 9), (.var 275)],
  .tr (.a2 (.bin .eql) (.var 328) (.int .i64 (.ofNat 0))),
  .rel "term" true (Abs.pTerm kK kT kB) [(.var 6), (.var 7), (.var 8), (.var 275)],
  .tr (.a2 (.bin .eql) (.var 358) (.int .i64 (.ofNat 0))),
  .fl (.a2 (.bin .eql) (.var 358) (.int .i64 (.ofNat 0))),
  .fl (.a2 (.bin .eql) (.var 328) (.int .i64 (.ofNat 0))),
  .tr (.a2 (.bin .eql) (.var 340) (.int .i64 (.ofNat 0))),
  .fl (.a2 (.bin .eql) (.var 340) (.int .i64 (.ofNat 0)))] : List Abs.Fact).getD i (.tr (.bool true))
noncomputable def ra_g1R : List (List Nat) := [[0, 1], [2, 1], [3, 4, 5, 1], [2, 4, 5, 1], [6, 7, 8, 9, 10, 11, 12, 13, 14, 15, 16, 17, 18, 19, 4, 5, 1], [20, 21, 22, 23, 24, 7, 8, 9, 10, 11, 12, 13, 14, 15, 16, 17, 18, 19, 4, 5, 1], [20, 25, 21, 22, 23, 24, 7, 8, 9, 10, 11, 12, 13, 14, 15, 16, 17, 18, 19, 4, 5, 1], [26, 27, 25, 21, 22, 23, 24, 7, 8, 9, 10, 11, 12, 13, 14, 15, 16, 17, 18, 19, 4, 5, 1], [26, 28, 25, 21, 22, 23, 24, 7, 8, 9, 10, 11, 12, 13, 14, 15, 16, 17, 18, 19, 4, 5, 1], [20, 29, 21, 22, 23, 24, 7, 8, 9, 10, 11, 12, 13, 14, 15, 16, 17, 18, 19, 4, 5, 1], [26, 30, 29, 21, 22, 23, 24, 7, 8, 9, 10, 11, 12, 13, 14, 15, 16, 17, 18, 19, 4, 5, 1], [26, 31, 29, 21, 22, 23, 24, 7, 8, 9, 10, 11, 12, 13, 14, 15, 16, 17, 18, 19, 4, 5, 1], [6, 32, 33, 34, 15, 16, 17, 18, 19, 4, 5, 1], [6, 35, 7, 8, 9, 32, 33, 34, 15, 16, 17, 18, 19, 4, 5, 1], [20, 21, 22, 23, 36, 35, 7, 8, 9, 32, 33, 34, 15, 16, 17, 18, 19, 4, 5, 1], [20, 37, 21, 22, 23, 36, 35, 7, 8, 9, 32, 33, 34, 15, 16, 17, 18, 19, 4, 5, 1], [38, 39, 37, 21, 22, 23, 36, 35, 7, 8, 9, 32, 33, 34, 15, 16, 17, 18, 19, 4, 5, 1], [38, 40, 37, 21, 22, 23, 36, 35, 7, 8, 9, 32, 33, 34, 15, 16, 17, 18, 19, 4, 5, 1], [20, 41, 21, 22, 23, 36, 35, 7, 8, 9, 32, 33, 34, 15, 16, 17, 18, 19, 4, 5, 1], [38, 42, 41, 21, 22, 23, 36, 35, 7, 8, 9, 32, 33, 34, 15, 16, 17, 18, 19, 4, 5, 1], [38, 43, 41, 21, 22, 23, 36, 35, 7, 8, 9, 32, 33, 34, 15, 16, 17, 18, 19, 4, 5, 1]]
theorem ra_u1 (N : Nat) : Abs.Unsats (ra_g1R.map fun r => r.map (ra_g1 N)) :=
  (Abs.unsats_of (F := ra_g1 N) (pats := [[0, 1], [2], [3, 1], [6, 1, 5, 4], [20, 1, 19, 18], [26, 1, 5, 4, 24], [38, 1, 5, 4, 36]]) (fun p hp γ h => by
    simp only [List.mem_cons, List.not_mem_nil, or_false] at hp
    rcases hp with rfl | rfl | rfl | rfl | rfl | rfl | rfl
    · exact (h 0 (by simp)) (Abs.args_acc (nm1 := "t") (nm2 := "t") kHK kHO kHI (h 1 (by simp))).1
    · exact Abs.most_lit (by decide) (by decide) (h 2 (by simp))
    · exact (h 3 (by simp)) (Abs.args_acc (nm1 := "t") (nm2 := "t") kHK kHO kHI (h 1 (by simp))).2
    · exact (h 6 (by simp)) (Abs.sz_fine (nm' := "t") (B := kB) kHK (Abs.args_acc (nm1 := "t") (nm2 := "t") kHK kHO kHI (h 1 (by simp))).1 (h 5 (by simp)) (h 4 (by simp)) (of_decide_eq_true (by kernel_rfl)))
    · exact (h 20 (by simp)) (Abs.sz_fine (nm' := "t") (B := kB) kHK (Abs.args_acc (nm1 := "t") (nm2 := "t") kHK kHO kHI (h 1 (by simp))).2 (h 19 (by simp)) (h 18 (by simp)) (of_decide_eq_true (by kernel_rfl)))
    · exact Abs.copy_of_args kHK (Abs.sz_fine (nm' := "t") (B := kB) kHK (Abs.args_acc (nm1 := "t") (nm2 := "t") kHK kHO kHI (h 1 (by simp))).1 (h 5 (by simp)) (h 4 (by simp)) (of_decide_eq_true (by kernel_rfl))) (h 24 (by simp)) (h 26 (by simp))
    · exact Abs.copy_of_args kHK (Abs.sz_fine (nm' := "t") (B := kB) kHK (Abs.args_acc (nm1 := "t") (nm2 := "t") kHK kHO kHI (h 1 (by simp))).1 (h 5 (by simp)) (h 4 (by simp)) (of_decide_eq_true (by kernel_rfl))) (h 36 (by simp)) (h 38 (by simp))) (by kernel_rfl))
noncomputable def ra_g2 (N : Nat) : Nat → Abs.Fact := fun i => ([
  .rel "terms" true (Abs.pTerm kK kT (N + 1)) [(.var 6), (.var 7), (.var 8), (.var 9)],
  .rel "args" false (Abs.pArgs kK kTs N) [(.var 0), (.var 1), (.var 2), (.var 3), (.var 4), (.var 5), (.var 6), (.var 7), (.var 8), (.var 9), (.var 10), (.var 11), (.var 12), (.var 13), (.var 14), (.var 15)],
  .rel "most" true Abs.pMost [(.int .i64 (.ofNat 61))],
  .rel "terms" true (Abs.pTerm kK kT (N + 1)) [(.var 12), (.var 13), (.var 14), (.var 15)],
  .fl (.a2 (.bin .gtr) (.var 223) (.int .i64 (.ofNat 60))),
  .rel "sz" false (Abs.pSz kT) [(.int .i64 (.ofNat 61)), (.var 223), (.var 9)],
  .rel "term" true (Abs.pTerm kK kT kB) [(.var 6), (.var 7), (.var 8), (.var 9)],
  .tr (.a2 (.bin .leq) (.a1 .len (.var 4)) (.int .i64 (.ofNat 64))),
  .tr (.a2 (.bin .leq) (.var 1) (.int .i64 (.ofNat 64))),
  .tr (.a2 (.bin .geq) (.var 1) (.int .i64 (.ofNat 1))),
  .tr (.a2 (.bin .eql) (.a1 .len (.var 9)) (.int .i64 (.ofNat 0))),
  .tr (.a2 (.bin .eql) (.var 8) (.str [])),
  .tr (.a2 (.bin .eql) (.var 7) (.int .i64 (.ofNat 0))),
  .tr (.a2 (.bin .eql) (.var 6) (.int .i64 (.ofNat 0))),
  .tr (.a2 (.bin .eql) (.var 5) (.int .i64 (.ofNat 0))),
  .tr (.a2 (.bin .leq) (.var 10) (.int .i64 (.ofNat 1073741824))),
  .tr (.a2 (.bin .geq) (.var 10) (.int .i64 (.ofNat 1))),
  .fl (.a2 (.bin .gtr) (.a1 .len (.var 4)) (.int .i64 (.ofNat 100))),
  .fl (.a2 (.bin .gtr) (.var 225) (.int .i64 (.ofNat 60))),
  .rel "sz" false (Abs.pSz kT) [(.int .i64 (.ofNat 61)), (.var 225), (.var 15)],
  .rel "term" true (Abs.pTerm kK kT kB) [(.var 12), (.var 13), (.var 14), (.var 15)],
  .fl (.a2 (.bin .gtr) (.var 11) (.int .i64 (.ofNat 1073741824))),
  .fl (.a2 (.bin .lss) (.var 11) (.int .i64 (.ofNat 1))),
  .fl (.a2 (.bin .eql) (.var 11) (.var 10)),
  .rel "cop" false (Abs.pCop kK kT) [(.var 9), (.var 284)],
  .tr (.a2 (.bin .eql) (.var 337) (.int .i64 (.ofNat 0))),
  .rel "term" true (Abs.pTerm kK kT kB) [(.var 6), (.var 7), (.var 8), (.var 284)],
  .tr (.a2 (.bin .eql) (.var 367) (.int .i64 (.ofNat 0))),
  .fl (.a2 (.bin .eql) (.var 367) (.int .i64 (.ofNat 0))),
  .fl (.a2 (.bin .eql) (.var 337) (.int .i64 (.ofNat 0))),
  .tr (.a2 (.bin .eql) (.var 349) (.int .i64 (.ofNat 0))),
  .fl (.a2 (.bin .eql) (.var 349) (.int .i64 (.ofNat 0))),
  .tr (.a2 (.bin .leq) (.var 5) (.int .i64 (.ofNat 1073741824))),
  .tr (.a2 (.bin .geq) (.var 5) (.int .i64 (.ofNat 1))),
  .fl (.a2 (.bin .eql) (.var 5) (.int .i64 (.ofNat 0))),
  .tr (.a2 (.bin .eql) (.var 247) (.int .i64 (.ofNat 0))),
  .rel "cop" false (Abs.pCop kK kT) [(.var 9), (.var 285)],
  .tr (.a2 (.bin .eql) (.var 338) (.int .i64 (.ofNat 0))),
  .rel "term" true (Abs.pTerm kK kT kB) [(.var 6), (.var 7), (.var 8), (.var 285)],
  .tr (.a2 (.bin .eql) (.var 368) (.int .i64 (.ofNat 0))),
  .fl (.a2 (.bin .eql) (.var 368) (.int .i64 (.ofNat 0))),
  .fl (.a2 (.bin .eql) (.var 338) (.int .i64 (.ofNat 0))),
  .tr (.a2 (.bin .eql) (.var 350) (.int .i64 (.ofNat 0))),
  .fl (.a2 (.bin .eql) (.var 350) (.int .i64 (.ofNat 0)))] : List Abs.Fact).getD i (.tr (.bool true))
noncomputable def ra_g2R : List (List Nat) := [[0, 1], [2, 1], [3, 4, 5, 1], [2, 4, 5, 1], [6, 7, 8, 9, 10, 11, 12, 13, 14, 15, 16, 17, 18, 19, 4, 5, 1], [20, 21, 22, 23, 24, 7, 8, 9, 10, 11, 12, 13, 14, 15, 16, 17, 18, 19, 4, 5, 1], [20, 25, 21, 22, 23, 24, 7, 8, 9, 10, 11, 12, 13, 14, 15, 16, 17, 18, 19, 4, 5, 1], [26, 27, 25, 21, 22, 23, 24, 7, 8, 9, 10, 11, 12, 13, 14, 15, 16, 17, 18, 19, 4, 5, 1], [26, 28, 25, 21, 22, 23, 24, 7, 8, 9, 10, 11, 12, 13, 14, 15, 16, 17, 18, 19, 4, 5, 1], [20, 29, 21, 22, 23, 24, 7, 8, 9, 10, 11, 12, 13, 14, 15, 16, 17, 18, 19, 4, 5, 1], [26, 30, 29, 21, 22, 23, 24, 7, 8, 9, 10, 11, 12, 13, 14, 15, 16, 17, 18, 19, 4, 5, 1], [26, 31, 29, 21, 22, 23, 24, 7, 8, 9, 10, 11, 12, 13, 14, 15, 16, 17, 18, 19, 4, 5, 1], [6, 32, 33, 34, 15, 16, 17, 18, 19, 4, 5, 1], [6, 35, 7, 8, 9, 32, 33, 34, 15, 16, 17, 18, 19, 4, 5, 1], [20, 21, 22, 23, 36, 35, 7, 8, 9, 32, 33, 34, 15, 16, 17, 18, 19, 4, 5, 1], [20, 37, 21, 22, 23, 36, 35, 7, 8, 9, 32, 33, 34, 15, 16, 17, 18, 19, 4, 5, 1], [38, 39, 37, 21, 22, 23, 36, 35, 7, 8, 9, 32, 33, 34, 15, 16, 17, 18, 19, 4, 5, 1], [38, 40, 37, 21, 22, 23, 36, 35, 7, 8, 9, 32, 33, 34, 15, 16, 17, 18, 19, 4, 5, 1], [20, 41, 21, 22, 23, 36, 35, 7, 8, 9, 32, 33, 34, 15, 16, 17, 18, 19, 4, 5, 1], [38, 42, 41, 21, 22, 23, 36, 35, 7, 8, 9, 32, 33, 34, 15, 16, 17, 18, 19, 4, 5, 1], [38, 43, 41, 21, 22, 23, 36, 35, 7, 8, 9, 32, 33, 34, 15, 16, 17, 18, 19, 4, 5, 1]]
theorem ra_u2 (N : Nat) : Abs.Unsats (ra_g2R.map fun r => r.map (ra_g2 N)) :=
  (Abs.unsats_of (F := ra_g2 N) (pats := [[0, 1], [2], [3, 1], [6, 1, 5, 4], [20, 1, 19, 18], [26, 1, 5, 4, 24], [38, 1, 5, 4, 36]]) (fun p hp γ h => by
    simp only [List.mem_cons, List.not_mem_nil, or_false] at hp
    rcases hp with rfl | rfl | rfl | rfl | rfl | rfl | rfl
    · exact (h 0 (by simp)) (Abs.args_acc (nm1 := "t") (nm2 := "t") kHK kHO kHI (h 1 (by simp))).1
    · exact Abs.most_lit (by decide) (by decide) (h 2 (by simp))
    · exact (h 3 (by simp)) (Abs.args_acc (nm1 := "t") (nm2 := "t") kHK kHO kHI (h 1 (by simp))).2
    · exact (h 6 (by simp)) (Abs.sz_fine (nm' := "t") (B := kB) kHK (Abs.args_acc (nm1 := "t") (nm2 := "t") kHK kHO kHI (h 1 (by simp))).1 (h 5 (by simp)) (h 4 (by simp)) (of_decide_eq_true (by kernel_rfl)))
    · exact (h 20 (by simp)) (Abs.sz_fine (nm' := "t") (B := kB) kHK (Abs.args_acc (nm1 := "t") (nm2 := "t") kHK kHO kHI (h 1 (by simp))).2 (h 19 (by simp)) (h 18 (by simp)) (of_decide_eq_true (by kernel_rfl)))
    · exact Abs.copy_of_args kHK (Abs.sz_fine (nm' := "t") (B := kB) kHK (Abs.args_acc (nm1 := "t") (nm2 := "t") kHK kHO kHI (h 1 (by simp))).1 (h 5 (by simp)) (h 4 (by simp)) (of_decide_eq_true (by kernel_rfl))) (h 24 (by simp)) (h 26 (by simp))
    · exact Abs.copy_of_args kHK (Abs.sz_fine (nm' := "t") (B := kB) kHK (Abs.args_acc (nm1 := "t") (nm2 := "t") kHK kHO kHI (h 1 (by simp))).1 (h 5 (by simp)) (h 4 (by simp)) (of_decide_eq_true (by kernel_rfl))) (h 36 (by simp)) (h 38 (by simp))) (by kernel_rfl))
noncomputable def ra_g3 (N : Nat) : Nat → Abs.Fact := fun i => ([
  .rel "terms" true (Abs.pTerm kK kT (N + 1)) [(.var 6), (.var 7), (.var 8), (.var 9)],
  .fl (.a2 (.bin .eql) (.var 2) (.int .i64 (.ofNat 1))),
  .fl (.a2 (.bin .eql) (.var 2) (.int .i64 (.ofNat 2))),
  .fl (.a2 (.bin .eql) (.var 2) (.int .i64 (.ofNat 3))),
  .rel "args" false (Abs.pArgs kK kTs N) [(.var 0), (.var 1), (.var 2), (.var 3), (.var 4), (.var 5), (.var 6), (.var 7), (.var 8), (.var 9), (.var 10), (.var 11), (.var 12), (.var 13), (.var 14), (.var 15)],
  .rel "most" true Abs.pMost [(.int .i64 (.ofNat 61))],
  .rel "terms" true (Abs.pTerm kK kT (N + 1)) [(.var 12), (.var 13), (.var 14), (.var 15)],
  .fl (.a2 (.bin .gtr) (.var 223) (.int .i64 (.ofNat 60))),
  .rel "sz" false (Abs.pSz kT) [(.int .i64 (.ofNat 61)), (.var 223), (.var 9)],
  .rel "term" true (Abs.pTerm kK kT kB) [(.var 6), (.var 7), (.var 8), (.var 9)],
  .tr (.a2 (.bin .leq) (.var 5) (.int .i64 (.ofNat 1073741824))),
  .tr (.a2 (.bin .geq) (.var 5) (.int .i64 (.ofNat 1))),
  .fl (.a2 (.bin .eql) (.var 5) (.int .i64 (.ofNat 0))),
  .tr (.a2 (.bin .leq) (.var 10) (.int .i64 (.ofNat 1073741824))),
  .tr (.a2 (.bin .geq) (.var 10) (.int .i64 (.ofNat 1))),
  .fl (.a2 (.bin .gtr) (.a1 .len (.var 4)) (.int .i64 (.ofNat 100))),
  .fl (.a2 (.bin .gtr) (.var 225) (.int .i64 (.ofNat 60))),
  .rel "sz" false (Abs.pSz kT) [(.int .i64 (.ofNat 61)), (.var 225), (.var 15)]] : List Abs.Fact).getD i (.tr (.bool true))
noncomputable def ra_g3R : List (List Nat) := [[0, 1, 2, 3, 4], [5, 1, 2, 3, 4], [6, 7, 8, 1, 2, 3, 4], [5, 7, 8, 1, 2, 3, 4], [9, 10, 11, 12, 13, 14, 15, 16, 17, 7, 8, 1, 2, 3, 4]]
theorem ra_u3 (N : Nat) : Abs.Unsats (ra_g3R.map fun r => r.map (ra_g3 N)) :=
  (Abs.unsats_of (F := ra_g3 N) (pats := [[0, 4], [5], [6, 4], [9, 4, 8, 7]]) (fun p hp γ h => by
    simp only [List.mem_cons, List.not_mem_nil, or_false] at hp
    rcases hp with rfl | rfl | rfl | rfl
    · exact (h 0 (by simp)) (Abs.args_acc (nm1 := "t") (nm2 := "t") kHK kHO kHI (h 4 (by simp))).1
    · exact Abs.most_lit (by decide) (by decide) (h 5 (by simp))
    · exact (h 6 (by simp)) (Abs.args_acc (nm1 := "t") (nm2 := "t") kHK kHO kHI (h 4 (by simp))).2
    · exact (h 9 (by simp)) (Abs.sz_fine (nm' := "t") (B := kB) kHK (Abs.args_acc (nm1 := "t") (nm2 := "t") kHK kHO kHI (h 4 (by simp))).1 (h 8 (by simp)) (h 7 (by simp)) (of_decide_eq_true (by kernel_rfl)))) (by kernel_rfl))
noncomputable def ra_g4 (N : Nat) : Nat → Abs.Fact := fun i => ([
  .rel "terms" true (Abs.pTerm kK kT (N + 1)) [(.var 6), (.var 7), (.var 8), (.var 9)],
  .rel "args" false (Abs.pArgs kK kTs N) [(.var 0), (.var 1), (.var 2), (.var 3), (.var 4), (.var 5), (.var 6), (.var 7), (.var 8), (.var 9), (.var 10), (.var 11), (.var 12), (.var 13), (.var 14), (.var 15)],
  .rel "most" true Abs.pMost [(.int .i64 (.ofNat 61))],
  .rel "terms" true (Abs.pTerm kK kT (N + 1)) [(.var 12), (.var 13), (.var 14), (.var 15)],
  .fl (.a2 (.bin .gtr) (.var 223) (.int .i64 (.ofNat 60))),
  .rel "sz" false (Abs.pSz kT) [(.int .i64 (.ofNat 61)), (.var 223), (.var 9)],
  .rel "term" true (Abs.pTerm kK kT kB) [(.var 6), (.var 7), (.var 8), (.var 9)],
  .tr (.a2 (.bin .leq) (.a1 .len (.var 4)) (.int .i64 (.ofNat 64))),
  .tr (.a2 (.bin .leq) (.var 1) (.int .i64 (.ofNat 64))),
  .tr (.a2 (.bin .geq) (.var 1) (.int .i64 (.ofNat 1))),
  .tr (.a2 (.bin .eql) (.a1 .len (.var 9)) (.int .i64 (.ofNat 0))),
  .tr (.a2 (.bin .eql) (.var 8) (.str [])),
  .tr (.a2 (.bin .eql) (.var 7) (.int .i64 (.ofNat 0))),
  .tr (.a2 (.bin .eql) (.var 6) (.int .i64 (.ofNat 0))),
  .tr (.a2 (.bin .eql) (.var 5) (.int .i64 (.ofNat 0))),
  .tr (.a2 (.bin .leq) (.var 10) (.int .i64 (.ofNat 1073741824))),
  .tr (.a2 (.bin .geq) (.var 10) (.int .i64 (.ofNat 1))),
  .fl (.a2 (.bin .gtr) (.a1 .len (.var 4)) (.int .i64 (.ofNat 100))),
  .fl (.a2 (.bin .gtr) (.var 225) (.int .i64 (.ofNat 60))),
  .rel "sz" false (Abs.pSz kT) [(.int .i64 (.ofNat 61)), (.var 225), (.var 15)],
  .rel "term" true (Abs.pTerm kK kT kB) [(.var 12), (.var 13), (.var 14), (.var 15)],
  .fl (.a2 (.bin .gtr) (.var 11) (.int .i64 (.ofNat 1073741824))),
  .fl (.a2 (.bin .lss) (.var 11) (.int .i64 (.ofNat 1))),
  .fl (.a2 (.bin .eql) (.var 11) (.var 10)),
  .rel "cop" false (Abs.pCop kK kT) [(.var 9), (.var 278)],
  .tr (.a2 (.bin .eql) (.var 331) (.int .i64 (.ofNat 0))),
  .rel "term" true (Abs.pTerm kK kT kB) [(.var 6), (.var 7), (.var 8), (.var 278)],
  .tr (.a2 (.bin .eql) (.var 4) (.str [122])),
  .tr (.a2 (.bin .eql) (.var 361) (.int .i64 (.ofNat 0))),
  .fl (.a2 (.bin .eql) (.var 4) (.str [122])),
  .fl (.a2 (.bin .eql) (.var 361) (.int .i64 (.ofNat 0))),
  .fl (.a2 (.bin .eql) (.var 331) (.int .i64 (.ofNat 0))),
  .tr (.a2 (.bin .eql) (.var 343) (.int .i64 (.ofNat 0))),
  .fl (.a2 (.bin .eql) (.var 343) (.int .i64 (.ofNat 0))),
  .tr (.a2 (.bin .leq) (.var 5) (.int .i64 (.ofNat 1073741824))),
  .tr (.a2 (.bin .geq) (.var 5) (.int .i64 (.ofNat 1))),
  .fl (.a2 (.bin .eql) (.var 5) (.int .i64 (.ofNat 0))),
  .tr (.a2 (.bin .eql) (.var 247) (.int .i64 (.ofNat 0))),
  .rel "cop" false (Abs.pCop kK kT) [(.var 9), (.var 279)],
  .tr (.a2 (.bin .eql) (.var 332) (.int .i64 (.ofNat 0))),
  .rel "term" true (Abs.pTerm kK kT kB) [(.var 6), (.var 7), (.var 8), (.var 279)],
  .tr (.a2 (.bin .eql) (.var 362) (.int .i64 (.ofNat 0))),
  .fl (.a2 (.bin .eql) (.var 362) (.int .i64 (.ofNat 0))),
  .fl (.a2 (.bin .eql) (.var 332) (.int .i64 (.ofNat 0))),
  .tr (.a2 (.bin .eql) (.var 344) (.int .i64 (.ofNat 0))),
  .fl (.a2 (.bin .eql) (.var 344) (.int .i64 (.ofNat 0)))] : List Abs.Fact).getD i (.tr (.bool true))
noncomputable def ra_g4R : List (List Nat) := [[0, 1], [2, 1], [3, 4, 5, 1], [2, 4, 5, 1], [6, 7, 8, 9, 10, 11, 12, 13, 14, 15, 16, 17, 18, 19, 4, 5, 1], [20, 21, 22, 23, 24, 7, 8, 9, 10, 11, 12, 13, 14, 15, 16, 17, 18, 19, 4, 5, 1], [20, 25, 21, 22, 23, 24, 7, 8, 9, 10, 11, 12, 13, 14, 15, 16, 17, 18, 19, 4, 5, 1], [26, 27, 28, 25, 21, 22, 23, 24, 7, 8, 9, 10, 11, 12, 13, 14, 15, 16, 17, 18, 19, 4, 5, 1], [26, 29, 28, 25, 21, 22, 23, 24, 7, 8, 9, 10, 11, 12, 13, 14, 15, 16, 17, 18, 19, 4, 5, 1], [26, 27, 30, 25, 21, 22, 23, 24, 7, 8, 9, 10, 11, 12, 13, 14, 15, 16, 17, 18, 19, 4, 5, 1], [26, 29, 30, 25, 21, 22, 23, 24, 7, 8, 9, 10, 11, 12, 13, 14, 15, 16, 17, 18, 19, 4, 5, 1], [20, 31, 21, 22, 23, 24, 7, 8, 9, 10, 11, 12, 13, 14, 15, 16, 17, 18, 19, 4, 5, 1], [26, 27, 32, 31, 21, 22, 23, 24, 7, 8, 9, 10, 11, 12, 13, 14, 15, 16, 17, 18, 19, 4, 5, 1], [26, 29, 32, 31, 21, 22, 23, 24, 7, 8, 9, 10, 11, 12, 13, 14, 15, 16, 17, 18, 19, 4, 5, 1], [26, 27, 33, 31, 21, 22, 23, 24, 7, 8, 9, 10, 11, 12, 13, 14, 15, 16, 17, 18, 19, 4, 5, 1], [26, 29, 33, 31, 21, 22, 23, 24, 7, 8, 9, 10, 11, 12, 13, 14, 15, 16, 17, 18, 19, 4, 5, 1], [6, 34, 35, 36, 15, 16, 17, 18, 19, 4, 5, 1], [6, 37, 7, 8, 9, 34, 35, 36, 15, 16, 17, 18, 19, 4, 5, 1], [20, 21, 22, 23, 38, 37, 7, 8, 9, 34, 35, 36, 15, 16, 17, 18, 19, 4, 5, 1], [20, 39, 21, 22, 23, 38, 37, 7, 8, 9, 34, 35, 36, 15, 16, 17, 18, 19, 4, 5, 1], [40, 27, 41, 39, 21, 22, 23, 38, 37, 7, 8, 9, 34, 35, 36, 15, 16, 17, 18, 19, 4, 5, 1], [40, 29, 41, 39, 21, 22, 23, 38, 37, 7, 8, 9, 34, 35, 36, 15, 16, 17, 18, 19, 4, 5, 1], [40, 27, 42, 39, 21, 22, 23, 38, 37, 7, 8, 9, 34, 35, 36, 15, 16, 17, 18, 19, 4, 5, 1], [40, 29, 42, 39, 21, 22, 23, 38, 37, 7, 8, 9, 34, 35, 36, 15, 16, 17, 18, 19, 4, 5, 1], [20, 43, 21, 22, 23, 38, 37, 7, 8, 9, 34, 35, 36, 15, 16, 17, 18, 19, 4, 5, 1], [40, 27, 44, 43, 21, 22, 23, 38, 37, 7, 8, 9, 34, 35, 36, 15, 16, 17, 18, 19, 4, 5, 1], [40, 29, 44, 43, 21, 22, 23, 38, 37, 7, 8, 9, 34, 35, 36, 15, 16, 17, 18, 19, 4, 5, 1], [40, 27, 45, 43, 21, 22, 23, 38, 37, 7, 8, 9, 34, 35, 36, 15, 16, 17, 18, 19, 4, 5, 1], [40, 29, 45, 43, 21, 22, 23, 38, 37, 7, 8, 9, 34, 35, 36, 15, 16, 17, 18, 19, 4, 5, 1]]
theorem ra_u4 (N : Nat) : Abs.Unsats (ra_g4R.map fun r => r.map (ra_g4 N)) :=
  (Abs.unsats_of (F := ra_g4 N) (pats := [[0, 1], [2], [3, 1], [6, 1, 5, 4], [20, 1, 19, 18], [26, 1, 5, 4, 24], [40, 1, 5, 4, 38]]) (fun p hp γ h => by
    simp only [List.mem_cons, List.not_mem_nil, or_false] at hp
    rcases hp with rfl | rfl | rfl | rfl | rfl | rfl | rfl
    · exact (h 0 (by simp)) (Abs.args_acc (nm1 := "t") (nm2 := "t") kHK kHO kHI (h 1 (by simp))).1
    · exact Abs.most_lit (by decide) (by decide) (h 2 (by simp))
    · exact (h 3 (by simp)) (Abs.args_acc (nm1 := "t") (nm2 := "t") kHK kHO kHI (h 1 (by simp))).2
    · exact (h 6 (by simp)) (Abs.sz_fine (nm' := "t") (B := kB) kHK (Abs.args_acc (nm1 := "t") (nm2 := "t") kHK kHO kHI (h 1 (by simp))).1 (h 5 (by simp)) (h 4 (by simp)) (of_decide_eq_true (by kernel_rfl)))
    · exact (h 20 (by simp)) (Abs.sz_fine (nm' := "t") (B := kB) kHK (Abs.args_acc (nm1 := "t") (nm2 := "t") kHK kHO kHI (h 1 (by simp))).2 (h 19 (by simp)) (h 18 (by simp)) (of_decide_eq_true (by kernel_rfl)))
    · exact Abs.copy_of_args kHK (Abs.sz_fine (nm' := "t") (B := kB) kHK (Abs.args_acc (nm1 := "t") (nm2 := "t") kHK kHO kHI (h 1 (by simp))).1 (h 5 (by simp)) (h 4 (by simp)) (of_decide_eq_true (by kernel_rfl))) (h 24 (by simp)) (h 26 (by simp))
    · exact Abs.copy_of_args kHK (Abs.sz_fine (nm' := "t") (B := kB) kHK (Abs.args_acc (nm1 := "t") (nm2 := "t") kHK kHO kHI (h 1 (by simp))).1 (h 5 (by simp)) (h 4 (by simp)) (of_decide_eq_true (by kernel_rfl))) (h 38 (by simp)) (h 40 (by simp))) (by kernel_rfl))
noncomputable def ra_g5 (N : Nat) : Nat → Abs.Fact := fun i => ([
  .rel "terms" true (Abs.pTerm kK kT (N + 1)) [(.var 6), (.var 7), (.var 8), (.var 9)],
  .rel "args" false (Abs.pArgs kK kTs N) [(.var 0), (.var 1), (.var 2), (.var 3), (.var 4), (.var 5), (.var 6), (.var 7), (.var 8), (.var 9), (.var 10), (.var 11), (.var 12), (.var 13), (.var 14), (.var 15)],
  .rel "most" true Abs.pMost [(.int .i64 (.ofNat 61))],
  .rel "terms" true (Abs.pTerm kK kT (N + 1)) [(.var 12), (.var 13), (.var 14), (.var 15)],
  .fl (.a2 (.bin .gtr) (.var 223) (.int .i64 (.ofNat 60))),
  .rel "sz" false (Abs.pSz kT) [(.int .i64 (.ofNat 61)), (.var 223), (.var 9)],
  .rel "term" true (Abs.pTerm kK kT kB) [(.var 6), (.var 7), (.var 8), (.var 9)],
  .tr (.a2 (.bin .leq) (.a1 .len (.var 4)) (.int .i64 (.ofNat 64))),
  .tr (.a2 (.bin .leq) (.var 1) (.int .i64 (.ofNat 64))),
  .tr (.a2 (.bin .geq) (.var 1) (.int .i64 (.ofNat 1))),
  .tr (.a2 (.bin .eql) (.a1 .len (.var 9)) (.int .i64 (.ofNat 0))),
  .tr (.a2 (.bin .eql) (.var 8) (.str [])),
  .tr (.a2 (.bin .eql) (.var 7) (.int .i64 (.ofNat 0))),
  .tr (.a2 (.bin .eql) (.var 6) (.int .i64 (.ofNat 0))),
  .tr (.a2 (.bin .eql) (.var 5) (.int .i64 (.ofNat 0))),
  .tr (.a2 (.bin .leq) (.var 10) (.int .i64 (.ofNat 1073741824))),
  .tr (.a2 (.bin .geq) (.var 10) (.int .i64 (.ofNat 1))),
  .fl (.a2 (.bin .gtr) (.a1 .len (.var 4)) (.int .i64 (.ofNat 100))),
  .fl (.a2 (.bin .gtr) (.var 225) (.int .i64 (.ofNat 60))),
  .rel "sz" false (Abs.pSz kT) [(.int .i64 (.ofNat 61)), (.var 225), (.var 15)],
  .rel "term" true (Abs.pTerm kK kT kB) [(.var 12), (.var 13), (.var 14), (.var 15)],
  .fl (.a2 (.bin .gtr) (.var 11) (.int .i64 (.ofNat 1073741824))),
  .fl (.a2 (.bin .lss) (.var 11) (.int .i64 (.ofNat 1))),
  .fl (.a2 (.bin .eql) (.var 11) (.var 10)),
  .rel "cop" false (Abs.pCop kK kT) [(.var 9), (.var 268)],
  .tr (.a2 (.bin .eql) (.var 321) (.int .i64 (.ofNat 0))),
  .rel "term" true (Abs.pTerm kK kT kB) [(.var 6), (.var 7), (.var 8), (.var 268)],
  .tr (.a2 (.bin .eql) (.var 351) (.int .i64 (.ofNat 0))),
  .fl (.a2 (.bin .eql) (.var 351) (.int .i64 (.ofNat 0))),
  .fl (.a2 (.bin .eql) (.var 321) (.int .i64 (.ofNat 0))),
  .tr (.a2 (.bin .eql) (.var 333) (.int .i64 (.ofNat 0))),
  .fl (.a2 (.bin .eql) (.var 333) (.int .i64 (.ofNat 0))),
  .tr (.a2 (.bin .leq) (.var 5) (.int .i64 (.ofNat 1073741824))),
  .tr (.a2 (.bin .geq) (.var 5) (.int .i64 (.ofNat 1))),
  .fl (.a2 (.bin .eql) (.var 5) (.int .i64 (.ofNat 0))),
  .tr (.a2 (.bin .eql) (.var 247) (.int .i64 (.ofNat 0))),
  .rel "cop" false (Abs.pCop kK kT) [(.var 9), (.var 269)],
  .tr (.a2 (.bin .eql) (.var 322) (.int .i64 (.ofNat 0))),
  .rel "term" true (Abs.pTerm kK kT kB) [(.var 6), (.var 7), (.var 8), (.var 269)],
  .tr (.a2 (.bin .eql) (.var 352) (.int .i64 (.ofNat 0))),
  .fl (.a2 (.bin .eql) (.var 352) (.int .i64 (.ofNat 0))),
  .fl (.a2 (.bin .eql) (.var 322) (.int .i64 (.ofNat 0))),
  .tr (.a2 (.bin .eql) (.var 334) (.int .i64 (.ofNat 0))),
  .fl (.a2 (.bin .eql) (.var 334) (.int .i64 (.ofNat 0)))] : List Abs.Fact).getD i (.tr (.bool true))
noncomputable def ra_g5R : List (List Nat) := [[0, 1], [2, 1], [3, 4, 5, 1], [2, 4, 5, 1], [6, 7, 8, 9, 10, 11, 12, 13, 14, 15, 16, 17, 18, 19, 4, 5, 1], [20, 21, 22, 23, 24, 7, 8, 9, 10, 11, 12, 13, 14, 15, 16, 17, 18, 19, 4, 5, 1], [20, 25, 21, 22, 23, 24, 7, 8, 9, 10, 11, 12, 13, 14, 15, 16, 17, 18, 19, 4, 5, 1], [26, 27, 25, 21, 22, 23, 24, 7, 8, 9, 10, 11, 12, 13, 14, 15, 16, 17, 18, 19, 4, 5, 1], [26, 28, 25, 21, 22, 23, 24, 7, 8, 9, 10, 11, 12, 13, 14, 15, 16, 17, 18, 19, 4, 5, 1], [20, 29, 21, 22, 23, 24, 7, 8, 9, 10, 11, 12, 13, 14, 15, 16, 17, 18, 19, 4, 5, 1], [26, 30, 29, 21, 22, 23, 24, 7, 8, 9, 10, 11, 12, 13, 14, 15, 16, 17, 18, 19, 4, 5, 1], [26, 31, 29, 21, 22, 23, 24, 7, 8, 9, 10, 11, 12, 13, 14, 15, 16, 17, 18, 19, 4, 5, 1], [6, 32, 33, 34, 15, 16, 17, 18, 19, 4, 5, 1], [6, 35, 7, 8, 9, 32, 33, 34, 15, 16, 17, 18, 19, 4, 5, 1], [20, 21, 22, 23, 36, 35, 7, 8, 9, 32, 33, 34, 15, 16, 17, 18, 19, 4, 5, 1], [20, 37, 21, 22, 23, 36, 35, 7, 8, 9, 32, 33, 34, 15, 16, 17, 18, 19, 4, 5, 1], [38, 39, 37, 21, 22, 23, 36, 35, 7, 8, 9, 32, 33, 34, 15, 16, 17, 18, 19, 4, 5, 1], [38, 40, 37, 21, 22, 23, 36, 35, 7, 8, 9, 32, 33, 34, 15, 16, 17, 18, 19, 4, 5, 1], [20, 41, 21, 22, 23, 36, 35, 7, 8, 9, 32, 33, 34, 15, 16, 17, 18, 19, 4, 5, 1], [38, 42, 41, 21, 22, 23, 36, 35, 7, 8, 9, 32, 33, 34, 15, 16, 17, 18, 19, 4, 5, 1], [38, 43, 41, 21, 22, 23, 36, 35, 7, 8, 9, 32, 33, 34, 15, 16, 17, 18, 19, 4, 5, 1]]
theorem ra_u5 (N : Nat) : Abs.Unsats (ra_g5R.map fun r => r.map (ra_g5 N)) :=
  (Abs.unsats_of (F := ra_g5 N) (pats := [[0, 1], [2], [3, 1], [6, 1, 5, 4], [20, 1, 19, 18], [26, 1, 5, 4, 24], [38, 1, 5, 4, 36]]) (fun p hp γ h => by
    simp only [List.mem_cons, List.not_mem_nil, or_false] at hp
    rcases hp with rfl | rfl | rfl | rfl | rfl | rfl | rfl
    · exact (h 0 (by simp)) (Abs.args_acc (nm1 := "t") (nm2 := "t") kHK kHO kHI (h 1 (by simp))).1
    · exact Abs.most_lit (by decide) (by decide) (h 2 (by simp))
    · exact (h 3 (by simp)) (Abs.args_acc (nm1 := "t") (nm2 := "t") kHK kHO kHI (h 1 (by simp))).2
    · exact (h 6 (by simp)) (Abs.sz_fine (nm' := "t") (B := kB) kHK (Abs.args_acc (nm1 := "t") (nm2 := "t") kHK kHO kHI (h 1 (by simp))).1 (h 5 (by simp)) (h 4 (by simp)) (of_decide_eq_true (by kernel_rfl)))
    · exact (h 20 (by simp)) (Abs.sz_fine (nm' := "t") (B := kB) kHK (Abs.args_acc (nm1 := "t") (nm2 := "t") kHK kHO kHI (h 1 (by simp))).2 (h 19 (by simp)) (h 18 (by simp)) (of_decide_eq_true (by kernel_rfl)))
    · exact Abs.copy_of_args kHK (Abs.sz_fine (nm' := "t") (B := kB) kHK (Abs.args_acc (nm1 := "t") (nm2 := "t") kHK kHO kHI (h 1 (by simp))).1 (h 5 (by simp)) (h 4 (by simp)) (of_decide_eq_true (by kernel_rfl))) (h 24 (by simp)) (h 26 (by simp))
    · exact Abs.copy_of_args kHK (Abs.sz_fine (nm' := "t") (B := kB) kHK (Abs.args_acc (nm1 := "t") (nm2 := "t") kHK kHO kHI (h 1 (by simp))).1 (h 5 (by simp)) (h 4 (by simp)) (of_decide_eq_true (by kernel_rfl))) (h 36 (by simp)) (h 38 (by simp))) (by kernel_rfl))
noncomputable def ra_g6 (N : Nat) : Nat → Abs.Fact := fun i => ([
  .rel "terms" true (Abs.pTerm kK kT (N + 1)) [(.var 6), (.var 7), (.var 8), (.var 9)],
  .rel "args" false (Abs.pArgs kK kTs N) [(.var 0), (.var 1), (.var 2), (.var 3), (.var 4), (.var 5), (.var 6), (.var 7), (.var 8), (.var 9), (.var 10), (.var 11), (.var 12), (.var 13), (.var 14), (.var 15)],
  .rel "most" true Abs.pMost [(.int .i64 (.ofNat 61))],
  .rel "terms" true (Abs.pTerm kK kT (N + 1)) [(.var 12), (.var 13), (.var 14), (.var 15)],
  .fl (.a2 (.bin .gtr) (.var 223) (.int .i64 (.ofNat 60))),
  .rel "sz" false (Abs.pSz kT) [(.int .i64 (.ofNat 61)), (.var 223), (.var 9)],
  .rel "term" true (Abs.pTerm kK kT kB) [(.var 6), (.var 7), (.var 8), (.var 9)],
  .tr (.a2 (.bin .leq) (.a1 .len (.var 4)) (.int .i64 (.ofNat 64))),
  .tr (.a2 (.bin .leq) (.var 1) (.int .i64 (.ofNat 64))),
  .tr (.a2 (.bin .geq) (.var 1) (.int .i64 (.ofNat 1))),
  .tr (.a2 (.bin .eql) (.a1 .len (.var 9)) (.int .i64 (.ofNat 0))),
  .tr (.a2 (.bin .eql) (.var 8) (.str [])),
  .tr (.a2 (.bin .eql) (.var 7) (.int .i64 (.ofNat 0))),
  .tr (.a2 (.bin .eql) (.var 6) (.int .i64 (.ofNat 0))),
  .tr (.a2 (.bin .eql) (.var 5) (.int .i64 (.ofNat 0))),
  .tr (.a2 (.bin .leq) (.var 10) (.int .i64 (.ofNat 1073741824))),
  .tr (.a2 (.bin .geq) (.var 10) (.int .i64 (.ofNat 1))),
  .fl (.a2 (.bin .gtr) (.a1 .len (.var 4)) (.int .i64 (.ofNat 100))),
  .fl (.a2 (.bin .gtr) (.var 225) (.int .i64 (.ofNat 60))),
  .rel "sz" false (Abs.pSz kT) [(.int .i64 (.ofNat 61)), (.var 225), (.var 15)],
  .rel "term" true (Abs.pTerm kK kT kB) [(.var 12), (.var 13), (.var 14), (.var 15)],
  .fl (.a2 (.bin .gtr) (.var 11) (.int .i64 (.ofNat 1073741824))),
  .fl (.a2 (.bin .lss) (.var 11) (.int .i64 (.ofNat 1))),
  .fl (.a2 (.bin .eql) (.var 11) (.var 10)),
  .rel "cop" false (Abs.pCop kK kT) [(.var 9), (.var 278)],
  .tr (.a2 (.bin .eql) (.var 331) (.int .i64 (.ofNat 0))),
  .rel "term" true (Abs.pTerm kK kT kB) [(.var 6), (.var 7), (.var 8), (.var 278)],
  .tr (.a2 (.bin .eql) (.var 361) (.int .i64 (.ofNat 0))),
  .fl (.a2 (.bin .eql) (.var 361) (.int .i64 (.ofNat 0))),
  .fl (.a2 (.bin .eql) (.var 331) (.int .i64 (.ofNat 0))),
  .tr (.a2 (.bin .eql) (.var 343) (.int .i64 (.ofNat 0))),
  .fl (.a2 (.bin .eql) (.var 343) (.int .i64 (.ofNat 0))),
  .tr (.a2 (.bin .leq) (.var 5) (.int .i64 (.ofNat 1073741824))),
  .tr (.a2 (.bin .geq) (.var 5) (.int .i64 (.ofNat 1))),
  .fl (.a2 (.bin .eql) (.var 5) (.int .i64 (.ofNat 0))),
  .tr (.a2 (.bin .eql) (.var 247) (.int .i64 (.ofNat 0))),
  .rel "cop" false (Abs.pCop kK kT) [(.var 9), (.var 279)],
  .tr (.a2 (.bin .eql) (.var 332) (.int .i64 (.ofNat 0))),
  .rel "term" true (Abs.pTerm kK kT kB) [(.var 6), (.var 7), (.var 8), (.var 279)],
  .tr (.a2 (.bin .eql) (.var 362) (.int .i64 (.ofNat 0))),
  .fl (.a2 (.bin .eql) (.var 362) (.int .i64 (.ofNat 0))),
  .fl (.a2 (.bin .eql) (.var 332) (.int .i64 (.ofNat 0))),
  .tr (.a2 (.bin .eql) (.var 344) (.int .i64 (.ofNat 0))),
  .fl (.a2 (.bin .eql) (.var 344) (.int .i64 (.ofNat 0)))] : List Abs.Fact).getD i (.tr (.bool true))
noncomputable def ra_g6R : List (List Nat) := [[0, 1], [2, 1], [3, 4, 5, 1], [2, 4, 5, 1], [6, 7, 8, 9, 10, 11, 12, 13, 14, 15, 16, 17, 18, 19, 4, 5, 1], [20, 21, 22, 23, 24, 7, 8, 9, 10, 11, 12, 13, 14, 15, 16, 17, 18, 19, 4, 5, 1], [20, 25, 21, 22, 23, 24, 7, 8, 9, 10, 11, 12, 13, 14, 15, 16, 17, 18, 19, 4, 5, 1], [26, 27, 25, 21, 22, 23, 24, 7, 8, 9, 10, 11, 12, 13, 14, 15, 16, 17, 18, 19, 4, 5, 1], [26, 28, 25, 21, 22, 23, 24, 7, 8, 9, 10, 11, 12, 13, 14, 15, 16, 17, 18, 19, 4, 5, 1], [20, 29, 21, 22, 23, 24, 7, 8, 9, 10, 11, 12, 13, 14, 15, 16, 17, 18, 19, 4, 5, 1], [26, 30, 29, 21, 22, 23, 24, 7, 8, 9, 10, 11, 12, 13, 14, 15, 16, 17, 18, 19, 4, 5, 1], [26, 31, 29, 21, 22, 23, 24, 7, 8, 9, 10, 11, 12, 13, 14, 15, 16, 17, 18, 19, 4, 5, 1], [6, 32, 33, 34, 15, 16, 17, 18, 19, 4, 5, 1], [6, 35, 7, 8, 9, 32, 33, 34, 15, 16, 17, 18, 19, 4, 5, 1], [20, 21, 22, 23, 36, 35, 7, 8, 9, 32, 33, 34, 15, 16, 17, 18, 19, 4, 5, 1], [20, 37, 21, 22, 23, 36, 35, 7, 8, 9, 32, 33, 34, 15, 16, 17, 18, 19, 4, 5, 1], [38, 39, 37, 21, 22, 23, 36, 35, 7, 8, 9, 32, 33, 34, 15, 16, 17, 18, 19, 4, 5, 1], [38, 40, 37, 21, 22, 23, 36, 35, 7, 8, 9, 32, 33, 34, 15, 16, 17, 18, 19, 4, 5, 1], [20, 41, 21, 22, 23, 36, 35, 7, 8, 9, 32, 33, 34, 15, 16, 17, 18, 19, 4, 5, 1], [38, 42, 41, 21, 22, 23, 36, 35, 7, 8, 9, 32, 33, 34, 15, 16, 17, 18, 19, 4, 5, 1], [38, 43, 41, 21, 22, 23, 36, 35, 7, 8, 9, 32, 33, 34, 15, 16, 17, 18, 19, 4, 5, 1]]
theorem ra_u6 (N : Nat) : Abs.Unsats (ra_g6R.map fun r => r.map (ra_g6 N)) :=
  (Abs.unsats_of (F := ra_g6 N) (pats := [[0, 1], [2], [3, 1], [6, 1, 5, 4], [20, 1, 19, 18], [26, 1, 5, 4, 24], [38, 1, 5, 4, 36]]) (fun p hp γ h => by
    simp only [List.mem_cons, List.not_mem_nil, or_false] at hp
    rcases hp with rfl | rfl | rfl | rfl | rfl | rfl | rfl
    · exact (h 0 (by simp)) (Abs.args_acc (nm1 := "t") (nm2 := "t") kHK kHO kHI (h 1 (by simp))).1
    · exact Abs.most_lit (by decide) (by decide) (h 2 (by simp))
    · exact (h 3 (by simp)) (Abs.args_acc (nm1 := "t") (nm2 := "t") kHK kHO kHI (h 1 (by simp))).2
    · exact (h 6 (by simp)) (Abs.sz_fine (nm' := "t") (B := kB) kHK (Abs.args_acc (nm1 := "t") (nm2 := "t") kHK kHO kHI (h 1 (by simp))).1 (h 5 (by simp)) (h 4 (by simp)) (of_decide_eq_true (by kernel_rfl)))
    · exact (h 20 (by simp)) (Abs.sz_fine (nm' := "t") (B := kB) kHK (Abs.args_acc (nm1 := "t") (nm2 := "t") kHK kHO kHI (h 1 (by simp))).2 (h 19 (by simp)) (h 18 (by simp)) (of_decide_eq_true (by kernel_rfl)))
    · exact Abs.copy_of_args kHK (Abs.sz_fine (nm' := "t") (B := kB) kHK (Abs.args_acc (nm1 := "t") (nm2 := "t") kHK kHO kHI (h 1 (by simp))).1 (h 5 (by simp)) (h 4 (by simp)) (of_decide_eq_true (by kernel_rfl))) (h 24 (by simp)) (h 26 (by simp))
    · exact Abs.copy_of_args kHK (Abs.sz_fine (nm' := "t") (B := kB) kHK (Abs.args_acc (nm1 := "t") (nm2 := "t") kHK kHO kHI (h 1 (by simp))).1 (h 5 (by simp)) (h 4 (by simp)) (of_decide_eq_true (by kernel_rfl))) (h 36 (by simp)) (h 38 (by simp))) (by kernel_rfl))
noncomputable def ra_g7 (N : Nat) : Nat → Abs.Fact := fun i => ([
  .rel "terms" true (Abs.pTerm kK kT (N + 1)) [(.var 6), (.var 7), (.var 8), (.var 9)],
  .fl (.a2 (.bin .eql) (.var 0) (.int .i64 (.ofNat 1))),
  .fl (.a2 (.bin .eql) (.var 0) (.int .i64 (.ofNat 2))),
  .fl (.a2 (.bin .eql) (.var 0) (.int .i64 (.ofNat 3))),
  .fl (.a2 (.bin .eql) (.var 0) (.int .i64 (.ofNat 4))),
  .rel "args" false (Abs.pArgs kK kTs N) [(.var 0), (.var 1), (.var 2), (.var 3), (.var 4), (.var 5), (.var 6), (.var 7), (.var 8), (.var 9), (.var 10), (.var 11), (.var 12), (.var 13), (.var 14), (.var 15)],
  .rel "most" true Abs.pMost [(.int .i64 (.ofNat 61))],
  .rel "terms" true (Abs.pTerm kK kT (N + 1)) [(.var 12), (.var 13), (.var 14), (.var 15)],
  .fl (.a2 (.bin .gtr) (.var 223) (.int .i64 (.ofNat 60))),
  .rel "sz" false (Abs.pSz kT) [(.int .i64 (.ofNat 61)), (.var 223), (.var 9)],
  .rel "term" true (Abs.pTerm kK kT kB) [(.var 6), (.var 7), (.var 8), (.var 9)],
  .tr (.a2 (.bin .leq) (.var 5) (.int .i64 (.ofNat 1073741824))),
  .tr (.a2 (.bin .geq) (.var 5) (.int .i64 (.ofNat 1))),
  .fl (.a2 (.bin .eql) (.var 5) (.int .i64 (.ofNat 0))),
  .tr (.a2 (.bin .leq) (.var 10) (.int .i64 (.ofNat 1073741824))),
  .tr (.a2 (.bin .geq) (.var 10) (.int .i64 (.ofNat 1))),
  .fl (.a2 (.bin .gtr) (.a1 .len (.var 4)) (.int .i64 (.ofNat 100))),
  .fl (.a2 (.bin .gtr) (.var 225) (.int .i64 (.ofNat 60))),
  .rel "sz" false (Abs.pSz kT) [(.int .i64 (.ofNat 61)), (.var 225), (.var 15)]] : List Abs.Fact).getD i (.tr (.bool true))
noncomputable def ra_g7R : List (List Nat) := [[0, 1, 2, 3, 4, 5], [6, 1, 2, 3, 4, 5], [7, 8, 9, 1, 2, 3, 4, 5], [6, 8, 9, 1, 2, 3, 4, 5], [10, 11, 12, 13, 14, 15, 16, 17, 18, 8, 9, 1, 2, 3, 4, 5]]
theorem ra_u7 (N : Nat) : Abs.Unsats (ra_g7R.map fun r => r.map (ra_g7 N)) :=
  (Abs.unsats_of (F := ra_g7 N) (pats := [[0, 5], [6], [7, 5], [10, 5, 9, 8]]) (fun p hp γ h => by
    simp only [List.mem_cons, List.not_mem_nil, or_false] at hp
    rcases hp with rfl | rfl | rfl | rfl
    · exact (h 0 (by simp)) (Abs.args_acc (nm1 := "t") (nm2 := "t") kHK kHO kHI (h 5 (by simp))).1
    · exact Abs.most_lit (by decide) (by decide) (h 6 (by simp))
    · exact (h 7 (by simp)) (Abs.args_acc (nm1 := "t") (nm2 := "t") kHK kHO kHI (h 5 (by simp))).2
    · exact (h 10 (by simp)) (Abs.sz_fine (nm' := "t") (B := kB) kHK (Abs.args_acc (nm1 := "t") (nm2 := "t") kHK kHO kHI (h 5 (by simp))).1 (h 9 (by simp)) (h 8 (by simp)) (of_decide_eq_true (by kernel_rfl)))) (by kernel_rfl))
noncomputable def ra_g8 (N : Nat) : Nat → Abs.Fact := fun i => ([
  .rel "terms" true (Abs.pTerm kK kT (N + 1)) [(.var 6), (.var 7), (.var 8), (.var 9)],
  .fl (.a2 (.bin .eql) (.var 0) (.int .i64 (.ofNat 1))),
  .fl (.a2 (.bin .eql) (.var 0) (.int .i64 (.ofNat 2))),
  .fl (.a2 (.bin .eql) (.var 0) (.int .i64 (.ofNat 3))),
  .fl (.a2 (.bin .eql) (.var 0) (.int .i64 (.ofNat 4))),
  .fl (.a2 (.bin .eql) (.var 2) (.int .i64 (.ofNat 1))),
  .fl (.a2 (.bin .eql) (.var 2) (.int .i64 (.ofNat 2))),
  .fl (.a2 (.bin .eql) (.var 2) (.int .i64 (.ofNat 3))),
  .rel "args" false (Abs.pArgs kK kTs N) [(.var 0), (.var 1), (.var 2), (.var 3), (.var 4), (.var 5), (.var 6), (.var 7), (.var 8), (.var 9), (.var 10), (.var 11), (.var 12), (.var 13), (.var 14), (.var 15)],
  .rel "most" true Abs.pMost [(.int .i64 (.ofNat 61))],
  .rel "terms" true (Abs.pTerm kK kT (N + 1)) [(.var 12), (.var 13), (.var 14), (.var 15)],
  .fl (.a2 (.bin .gtr) (.var 223) (.int .i64 (.ofNat 60))),
  .rel "sz" false (Abs.pSz kT) [(.int .i64 (.ofNat 61)), (.var 223), (.var 9)],
  .rel "term" true (Abs.pTerm kK kT kB) [(.var 6), (.var 7), (.var 8), (.var 9)],
  .tr (.a2 (.bin .leq) (.var 5) (.int .i64 (.ofNat 1073741824))),
  .tr (.a2 (.bin .geq) (.var 5) (.int .i64 (.ofNat 1))),
  .fl (.a2 (.bin .eql) (.var 5) (.int .i64 (.ofNat 0))),
  .tr (.a2 (.bin .leq) (.var 10) (.int .i64 (.ofNat 1073741824))),
  .tr (.a2 (.bin .geq) (.var 10) (.int .i64 (.ofNat 1))),
  .fl (.a2 (.bin .gtr) (.a1 .len (.var 4)) (.int .i64 (.ofNat 100))),
  .fl (.a2 (.bin .gtr) (.var 225) (.int .i64 (.ofNat 60))),
  .rel "sz" false (Abs.pSz kT) [(.int .i64 (.ofNat 61)), (.var 225), (.var 15)]] : List Abs.Fact).getD i (.tr (.bool true))
noncomputable def ra_g8R : List (List Nat) := [[0, 1, 2, 3, 4, 5, 6, 7, 8], [9, 1, 2, 3, 4, 5, 6, 7, 8], [10, 11, 12, 1, 2, 3, 4, 5, 6, 7, 8], [9, 11, 12, 1, 2, 3, 4, 5, 6, 7, 8], [13, 14, 15, 16, 17, 18, 19, 20, 21, 11, 12, 1, 2, 3, 4, 5, 6, 7, 8]]
theorem ra_u8 (N : Nat) : Abs.Unsats (ra_g8R.map fun r => r.map (ra_g8 N)) :=
  (Abs.unsats_of (F := ra_g8 N) (pats := [[0, 8], [9], [10, 8], [13, 8, 12, 11]]) (fun p hp γ h => by
    simp only [List.mem_cons, List.not_mem_nil, or_false] at hp
    rcases hp with rfl | rfl | rfl | rfl
    · exact (h 0 (by simp)) (Abs.args_acc (nm1 := "t") (nm2 := "t") kHK kHO kHI (h 8 (by simp))).1
    · exact Abs.most_lit (by decide) (by decide) (h 9 (by simp))
    · exact (h 10 (by simp)) (Abs.args_acc (nm1 := "t") (nm2 := "t") kHK kHO kHI (h 8 (by simp))).2
    · exact (h 13 (by simp)) (Abs.sz_fine (nm' := "t") (B := kB) kHK (Abs.args_acc (nm1 := "t") (nm2 := "t") kHK kHO kHI (h 8 (by simp))).1 (h 12 (by simp)) (h 11 (by simp)) (of_decide_eq_true (by kernel_rfl)))) (by kernel_rfl))
end Go.Proofs.YtnkjhomdkpghlaaGreat
