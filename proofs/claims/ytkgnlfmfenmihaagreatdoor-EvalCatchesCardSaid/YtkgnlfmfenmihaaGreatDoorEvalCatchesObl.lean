/- What the law's run asks for, and that it cannot fail. No condition. -/
import Derived.Test.YtkgnlfmfenmihaaGreatDoorEvalCatchesCon
namespace Go.Proofs.YtkgnlfmfenmihaaGreatDoor
noncomputable def kTs : List TypeId := [24, 9]
theorem kHS : kK 9 = [.str] := by kernel_rfl
noncomputable def evalCatches_ka (N : Nat) : Nat → Abs.Fact := fun i => ([
  .rel "terms" true (Abs.j0r kK kT (N + 1)) [(.var 7), (.var 8), (.var 9), (.var 10)],
  .rel "args" false (Abs.pArgs kK kTs N) [(.var 7), (.var 8), (.var 9), (.var 10), (.var 11)],
  .rel "most" true Abs.pMost [(.int .i64 (.ofNat 101))],
  .rel "term" true (Abs.j0r kK kT kB) [(.var 7), (.var 8), (.var 9), (.var 10)],
  .fl (.a2 (.bin .gtr) (.a1 .len (.var 11)) (.int .i64 (.ofNat 100))),
  .fl (.a2 (.bin .gtr) (.var 2373) (.int .i64 (.ofNat 100))),
  .rel "sz" false (Abs.pSz kT) [(.int .i64 (.ofNat 101)), (.var 2373), (.var 10)],
  .rel "sound" false Abs.j3a [(.var 7), (.var 8), (.var 9), (.var 10)],
  .rel "term" true (Abs.j0r kK kT kB) [(.var 7), (.var 8), (.var 9), (.var 3479)],
  .rel "cop" false (Abs.pCop kK kT) [(.var 10), (.var 3479)],
  .rel "al" true (Abs.pAl kK kT 1073741824) [(.var 3489), (.var 10)],
  .rel "cop" false (Abs.pCop kK kT) [(.var 3479), (.var 3489)],
  .tr (.a2 (.bin .eql) (.var 11) (.str [101, 114, 114, 111, 114])),
  .rel "term" true (Abs.j0r kK kT kB) [(.var 7), (.var 8), (.var 9), (.var 3578)],
  .rel "cop" false (Abs.pCop kK kT) [(.var 10), (.var 3578)],
  .rel "sound" true Abs.j3a [(.var 7), (.var 8), (.var 9), (.var 3578)],
  .rel "atom" true Abs.pAtom [(.var 11)],
  .rel "al" true (Abs.pAl kK kT 1073741824) [(.var 3636), (.var 10)],
  .rel "cop" false (Abs.pCop kK kT) [(.var 3578), (.var 3636)],
  .tr (.a2 (.bin .eql) (.var 11) (.str [101, 120, 105, 116])),
  .fl (.a2 (.bin .eql) (.var 11) (.str [101, 114, 114, 111, 114])),
  .tr (.a2 (.bin .eql) (.var 11) (.str [116, 104, 114, 111, 119])),
  .fl (.a2 (.bin .eql) (.var 11) (.str [101, 120, 105, 116])),
  .rel "term" true (Abs.j0r kK kT kB) [(.var 7), (.var 8), (.var 9), (.var 3562)],
  .rel "cop" false (Abs.pCop kK kT) [(.var 10), (.var 3562)],
  .rel "sound" true Abs.j3a [(.var 7), (.var 8), (.var 9), (.var 3562)],
  .rel "al" true (Abs.pAl kK kT 1073741824) [(.var 3620), (.var 10)],
  .rel "cop" false (Abs.pCop kK kT) [(.var 3562), (.var 3620)]] : List Abs.Fact).getD i (.tr (.bool true))
noncomputable def evalCatches_kaR : List (List Nat) := [[0, 1], [2, 1], [3, 4, 5, 6, 1], [3, 7, 4, 5, 6, 1], [8, 9, 7, 4, 5, 6, 1], [10, 11, 9, 7, 4, 5, 6, 1], [3, 11, 9, 7, 4, 5, 6, 1], [3, 12, 7, 11, 9, 7, 4, 5, 6, 1], [13, 14, 12, 7, 11, 9, 7, 4, 5, 6, 1], [15, 14, 12, 7, 11, 9, 7, 4, 5, 6, 1], [16, 14, 12, 7, 11, 9, 7, 4, 5, 6, 1], [13, 14, 12, 7, 11, 9, 7, 4, 5, 6, 1], [17, 18, 14, 12, 7, 11, 9, 7, 4, 5, 6, 1], [3, 19, 20, 7, 11, 9, 7, 4, 5, 6, 1], [13, 14, 19, 20, 7, 11, 9, 7, 4, 5, 6, 1], [15, 14, 19, 20, 7, 11, 9, 7, 4, 5, 6, 1], [16, 14, 19, 20, 7, 11, 9, 7, 4, 5, 6, 1], [13, 14, 19, 20, 7, 11, 9, 7, 4, 5, 6, 1], [17, 18, 14, 19, 20, 7, 11, 9, 7, 4, 5, 6, 1], [3, 21, 22, 20, 7, 11, 9, 7, 4, 5, 6, 1], [13, 14, 21, 22, 20, 7, 11, 9, 7, 4, 5, 6, 1], [15, 14, 21, 22, 20, 7, 11, 9, 7, 4, 5, 6, 1], [16, 14, 21, 22, 20, 7, 11, 9, 7, 4, 5, 6, 1], [13, 14, 21, 22, 20, 7, 11, 9, 7, 4, 5, 6, 1], [17, 18, 14, 21, 22, 20, 7, 11, 9, 7, 4, 5, 6, 1], [3, 4, 5, 6, 1], [3, 12, 7, 4, 5, 6, 1], [23, 24, 12, 7, 4, 5, 6, 1], [25, 24, 12, 7, 4, 5, 6, 1], [16, 24, 12, 7, 4, 5, 6, 1], [23, 24, 12, 7, 4, 5, 6, 1], [26, 27, 24, 12, 7, 4, 5, 6, 1], [3, 19, 20, 7, 4, 5, 6, 1], [23, 24, 19, 20, 7, 4, 5, 6, 1], [25, 24, 19, 20, 7, 4, 5, 6, 1], [16, 24, 19, 20, 7, 4, 5, 6, 1], [23, 24, 19, 20, 7, 4, 5, 6, 1], [26, 27, 24, 19, 20, 7, 4, 5, 6, 1], [3, 21, 22, 20, 7, 4, 5, 6, 1], [23, 24, 21, 22, 20, 7, 4, 5, 6, 1], [25, 24, 21, 22, 20, 7, 4, 5, 6, 1], [16, 24, 21, 22, 20, 7, 4, 5, 6, 1], [23, 24, 21, 22, 20, 7, 4, 5, 6, 1], [26, 27, 24, 21, 22, 20, 7, 4, 5, 6, 1], [3, 4, 5, 6, 1], [3, 12, 7, 4, 5, 6, 1], [23, 24, 12, 7, 4, 5, 6, 1], [25, 24, 12, 7, 4, 5, 6, 1], [16, 24, 12, 7, 4, 5, 6, 1], [23, 24, 12, 7, 4, 5, 6, 1], [26, 27, 24, 12, 7, 4, 5, 6, 1], [3, 19, 20, 7, 4, 5, 6, 1], [23, 24, 19, 20, 7, 4, 5, 6, 1], [25, 24, 19, 20, 7, 4, 5, 6, 1], [16, 24, 19, 20, 7, 4, 5, 6, 1], [23, 24, 19, 20, 7, 4, 5, 6, 1], [26, 27, 24, 19, 20, 7, 4, 5, 6, 1], [3, 21, 22, 20, 7, 4, 5, 6, 1], [23, 24, 21, 22, 20, 7, 4, 5, 6, 1], [25, 24, 21, 22, 20, 7, 4, 5, 6, 1], [16, 24, 21, 22, 20, 7, 4, 5, 6, 1], [23, 24, 21, 22, 20, 7, 4, 5, 6, 1], [26, 27, 24, 21, 22, 20, 7, 4, 5, 6, 1]]
theorem evalCatches_uns (N : Nat) : Abs.Unsats (evalCatches_kaR.map fun r => r.map (evalCatches_ka N)) :=
  (Abs.j2q (F := evalCatches_ka N) (pats := [[0, 1], [2], [3, 1, 6, 5], [8, 1, 6, 5, 9], [10, 1, 6, 5, 9, 11], [13, 1, 6, 5, 14], [15, 7, 14], [16, 12], [17, 1, 6, 5, 14, 18], [16, 19], [16, 21], [23, 1, 6, 5, 24], [25, 7, 24], [26, 1, 6, 5, 24, 27]]) (fun p hp γ h => by
    simp only [List.mem_cons, List.not_mem_nil, or_false] at hp
    rcases hp with rfl | rfl | rfl | rfl | rfl | rfl | rfl | rfl | rfl | rfl | rfl | rfl | rfl | rfl
    · exact (h 0 (by simp)) (Abs.args_ts (nm' := "t") kHK kHS (h 1 (by simp)))
    · exact Abs.most_lit (by decide) (by decide) (h 2 (by simp))
    · exact (h 3 (by simp)) (Abs.sz_fine (nm' := "t") (B := kB) kHK (Abs.args_ts (nm' := "t") kHK kHS (h 1 (by simp))) (h 6 (by simp)) (h 5 (by simp)) (of_decide_eq_true (by kernel_rfl)))
    · exact Abs.copy_of_args kHK (Abs.sz_fine (nm' := "t") (B := kB) kHK (Abs.args_ts (nm' := "t") kHK kHS (h 1 (by simp))) (h 6 (by simp)) (h 5 (by simp)) (of_decide_eq_true (by kernel_rfl))) (h 9 (by simp)) (h 8 (by simp))
    · exact Abs.al_cop2 kHK (Abs.sz_fine (nm' := "t") (B := kB) kHK (Abs.args_ts (nm' := "t") kHK kHS (h 1 (by simp))) (h 6 (by simp)) (h 5 (by simp)) (of_decide_eq_true (by kernel_rfl))) (h 9 (by simp)) (h 11 (by simp)) (of_decide_eq_true (by kernel_rfl)) (Abs.cop_msz2 (h 9 (by simp)) (h 11 (by simp))) (h 10 (by simp))
    · exact Abs.copy_of_args kHK (Abs.sz_fine (nm' := "t") (B := kB) kHK (Abs.args_ts (nm' := "t") kHK kHS (h 1 (by simp))) (h 6 (by simp)) (h 5 (by simp)) (of_decide_eq_true (by kernel_rfl))) (h 14 (by simp)) (h 13 (by simp))
    · exact Abs.sound_cop (h 7 (by simp)) (h 14 (by simp)) (h 15 (by simp))
    · exact Abs.atom_eq (by decide) (h 12 (by simp)) (h 16 (by simp))
    · exact Abs.al_cop2 kHK (Abs.sz_fine (nm' := "t") (B := kB) kHK (Abs.args_ts (nm' := "t") kHK kHS (h 1 (by simp))) (h 6 (by simp)) (h 5 (by simp)) (of_decide_eq_true (by kernel_rfl))) (h 14 (by simp)) (h 18 (by simp)) (of_decide_eq_true (by kernel_rfl)) (Abs.cop_msz2 (h 14 (by simp)) (h 18 (by simp))) (h 17 (by simp))
    · exact Abs.atom_eq (by decide) (h 19 (by simp)) (h 16 (by simp))
    · exact Abs.atom_eq (by decide) (h 21 (by simp)) (h 16 (by simp))
    · exact Abs.copy_of_args kHK (Abs.sz_fine (nm' := "t") (B := kB) kHK (Abs.args_ts (nm' := "t") kHK kHS (h 1 (by simp))) (h 6 (by simp)) (h 5 (by simp)) (of_decide_eq_true (by kernel_rfl))) (h 24 (by simp)) (h 23 (by simp))
    · exact Abs.sound_cop (h 7 (by simp)) (h 24 (by simp)) (h 25 (by simp))
    · exact Abs.al_cop2 kHK (Abs.sz_fine (nm' := "t") (B := kB) kHK (Abs.args_ts (nm' := "t") kHK kHS (h 1 (by simp))) (h 6 (by simp)) (h 5 (by simp)) (of_decide_eq_true (by kernel_rfl))) (h 24 (by simp)) (h 27 (by simp)) (of_decide_eq_true (by kernel_rfl)) (Abs.cop_msz2 (h 24 (by simp)) (h 27 (by simp))) (h 26 (by simp))) (by kernel_rfl))
end Go.Proofs.YtkgnlfmfenmihaaGreatDoor
