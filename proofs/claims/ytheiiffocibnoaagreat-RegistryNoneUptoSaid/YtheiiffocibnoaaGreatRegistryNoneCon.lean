/- Contracts of term.Check, of the loop of its parts and of slices.Backward's loop: by induction over what is left, each step by a run of the abstract machine in the kernel. No condition. -/
import Derived.Test.YtheiiffocibnoaaGreatRegistryNoneBase
namespace Go.Proofs.YtheiiffocibnoaaGreat
/-- the numbers of this program -/
noncomputable def kU : Abs.NumC := ⟨66, 119, 149, 22, 24, 3, 32, 1, 17, 38, 19⟩
noncomputable def kK : TypeId → List Abs.Kd := Abs.cellKds (Abs.mkCtx Tryz.prog (fun _ => false) [])
noncomputable def kT : TypeId := 24
noncomputable def kN : Nat := 1048576
noncomputable def kB : Nat := 1048577
noncomputable def kTs : List TypeId := [24]
theorem kHK : kK kT = [.int .i64, .int .i64, .str, .sl kT] := by kernel_rfl
noncomputable def registryNone_kb (N M : Nat) : Nat → Abs.Fact := fun i => ([
  .rel "out" false Abs.pOut [(.var 10), (.a1 .len (.var 9))],
  .tr (.a2 (.bin .geq) (.var 10) (.int .i64 (.ofNat 0))),
  .rel "back" false (Abs.pBack kK kT (N + 1) M) [(.var 6), (.var 8), (.var 9), (.var 10)],
  .rel "grow" false (Abs.pGrow 4 56 1) [(.var 8), (.var 6)],
  .rel "back" true (Abs.pBack kK kT N M) [(.a2 (.bin .add) (.var 6) (.int .i64 (.ofNat 1))), (.a2 .sn (.a2 .sn (.a2 .sn (.a2 .sn (.a2 (.tk 4) (.var 8) (.var 6)) (.a1 (.ld 0) (.a2 .el (.var 9) (.var 10)))) (.a1 (.ld 1) (.a2 .el (.var 9) (.var 10)))) (.a1 (.ld 2) (.a2 .el (.var 9) (.var 10)))) (.a1 (.ld 3) (.a2 .el (.var 9) (.var 10)))), (.var 9), (.a2 (.bin .sub) (.var 10) (.int .i64 (.ofNat 1)))],
  .inr (.var 6) (.a2 (.bin .add) (.var 6) (.int .i64 (.ofNat 1))),
  .rel "left" true (Abs.pLeft kK kT M) [(.var 16), (.var 18)],
  .rel "left" false (Abs.pLeft kK kT M) [(.var 16), (.var 18)],
  .rel "left" true (Abs.pLeft kK kT M) [(.var 15), (.var 17)],
  .rel "left" false (Abs.pLeft kK kT M) [(.var 15), (.var 17)],
  .rel "left" true (Abs.pLeft kK kT M) [(.var 6), (.var 8)],
  .fl (.a2 (.bin .geq) (.var 10) (.int .i64 (.ofNat 0)))] : List Abs.Fact).getD i (.tr (.bool true))
noncomputable def registryNone_kbR : List (List Nat) := [[0, 1, 2], [3, 1, 2], [4, 5, 1, 2], [6, 7, 5, 1, 2], [8, 9, 5, 1, 2], [10, 11, 2]]
set_option maxRecDepth 100000 in
theorem registryNone_kbrun (N M : Nat) (tl : List Deferred) : Abs.R.res (fun _ => true) ((Abs.runF (Abs.mkCtx Tryz.prog (fun _ => false) registryNone_absX [] [Abs.conBack Tryz.prog kU "back" (Abs.pBack kK kT N M) (Abs.pLeft kK kT M)]) 1000000 ((Abs.conBack Tryz.prog kU "back" (Abs.pBack kK kT (N + 1) M) (Abs.pLeft kK kT M)).fi tl) (Abs.conBack Tryz.prog kU "back" (Abs.pBack kK kT (N + 1) M) (Abs.pLeft kK kT M)).tr (Abs.conBack Tryz.prog kU "back" (Abs.pBack kK kT (N + 1) M) (Abs.pLeft kK kT M)).todo [] .run none (Abs.conBack Tryz.prog kU "back" (Abs.pBack kK kT (N + 1) M) (Abs.pLeft kK kT M)).S).bind (Abs.conLook (Abs.conBack Tryz.prog kU "back" (Abs.pBack kK kT (N + 1) M) (Abs.pLeft kK kT M)))) = some (registryNone_kbR.map fun r => r.map (registryNone_kb N M)) := by kernel_rfl
theorem registryNone_kbok {M : Nat} (hM : M ≤ 1073741824) : ∀ N, Abs.ConOk Tryz.prog (Abs.conBack Tryz.prog kU "back" (Abs.pBack kK kT N M) (Abs.pLeft kK kT M)) := Abs.back_all fun N hc => Abs.con_of (Abs.good_ofK (fun c hc => by cases hc with | head => exact hc | tail _ h => cases h) (fun _ h => by cases h) registryNone_absValid registryNone_absNum (Abs.ext_of registryNone_absExt)) registryNone_absMixed _ 1000000 (registryNone_kbrun N M)
  (Abs.unsats_of (F := registryNone_kb N M) (pats := [[0, 1, 2], [3, 2], [4, 1, 2], [6, 7], [8, 9], [10, 2]]) (fun p hp γ h => by
    simp only [List.mem_cons, List.not_mem_nil, or_false] at hp
    rcases hp with rfl | rfl | rfl | rfl | rfl | rfl
    · exact Abs.back_out (h 2 (by simp)) (h 1 (by simp)) (h 0 (by simp))
    · exact Abs.back_grow hM (by omega) (h 2 (by simp)) (h 3 (by simp))
    · exact Abs.back_next kHK hM (h 2 (by simp)) (h 1 (by simp)) (h 4 (by simp))
    · exact (h 6 (by simp)) (h 7 (by simp))
    · exact (h 8 (by simp)) (h 9 (by simp))
    · exact Abs.back_end (h 2 (by simp)) (h 10 (by simp))) (by kernel_rfl))
noncomputable def registryNone_kp (N : Nat) : Nat → Abs.Fact := fun i => ([
  .rel "out" false Abs.pOut [(.a2 (.bin .sub) (.var 7) (.int .i64 (.ofNat 1))), (.var 7)],
  .tr (.a2 (.bin .gtr) (.var 7) (.int .i64 (.ofNat 0))),
  .rel "parts" false (Abs.pLeft kK kT (N + 1)) [(.var 7), (.var 9)],
  .rel "hole" false (Abs.pHole 4) [(.var 9), (.a2 (.bin .sub) (.var 7) (.int .i64 (.ofNat 1)))],
  .rel "cut" false Abs.pCut [(.int .i64 (.ofNat 0)), (.a2 (.bin .sub) (.var 7) (.int .i64 (.ofNat 1))), (.var 7)],
  .rel "back" true (Abs.pBack kK kT 1073741824 N) [(.a2 (.bin .sub) (.var 7) (.int .i64 (.ofNat 1))), (.var 9), (.a2 (.at 4 3) (.var 9) (.a2 (.bin .sub) (.var 7) (.int .i64 (.ofNat 1)))), (.a2 (.bin .sub) (.a1 .len (.a2 (.at 4 3) (.var 9) (.a2 (.bin .sub) (.var 7) (.int .i64 (.ofNat 1))))) (.int .i64 (.ofNat 1)))],
  .tr (.a2 (.bin .eql) (.a2 (.at 4 0) (.var 9) (.a2 (.bin .sub) (.var 7) (.int .i64 (.ofNat 1)))) (.int .i64 (.ofNat 7))),
  .fl (.a1 (.un .not) (.a2 (.bin .eql) (.a1 .len (.a2 (.at 4 3) (.var 9) (.a2 (.bin .sub) (.var 7) (.int .i64 (.ofNat 1))))) (.int .i64 (.ofNat 0)))),
  .tr (.a2 (.bin .eql) (.a2 (.at 4 2) (.var 9) (.a2 (.bin .sub) (.var 7) (.int .i64 (.ofNat 1)))) (.str [])),
  .tr (.a2 (.bin .leq) (.a2 (.at 4 1) (.var 9) (.a2 (.bin .sub) (.var 7) (.int .i64 (.ofNat 1)))) (.int .i64 (.ofNat 576460752303423487))),
  .tr (.a2 (.bin .geq) (.a2 (.at 4 1) (.var 9) (.a2 (.bin .sub) (.var 7) (.int .i64 (.ofNat 1)))) (.int .i64 (.negSucc 576460752303423487))),
  .tr (.a2 (.bin .eql) (.a2 (.at 4 0) (.var 9) (.a2 (.bin .sub) (.var 7) (.int .i64 (.ofNat 1)))) (.int .i64 (.ofNat 1))),
  .rel "parts" true (Abs.pLeft kK kT N) [(.var 19), (.var 21)],
  .rel "left" false (Abs.pLeft kK kT N) [(.var 19), (.var 21)],
  .rel "parts" true (Abs.pLeft kK kT N) [(.var 18), (.var 20)],
  .rel "left" false (Abs.pLeft kK kT N) [(.var 18), (.var 20)],
  .tr (.a2 (.bin .eql) (.a2 (.at 4 0) (.var 9) (.a2 (.bin .sub) (.var 7) (.int .i64 (.ofNat 1)))) (.int .i64 (.ofNat 5))),
  .fl (.a2 (.bin .eql) (.a2 (.at 4 0) (.var 9) (.a2 (.bin .sub) (.var 7) (.int .i64 (.ofNat 1)))) (.int .i64 (.ofNat 7))),
  .fl (.a2 (.bin .eql) (.a2 (.at 4 0) (.var 9) (.a2 (.bin .sub) (.var 7) (.int .i64 (.ofNat 1)))) (.int .i64 (.ofNat 5))),
  .tr (.a2 (.bin .leq) (.a1 .len (.a2 (.at 4 2) (.var 9) (.a2 (.bin .sub) (.var 7) (.int .i64 (.ofNat 1))))) (.int .i64 (.ofNat 64))),
  .tr (.a2 (.bin .eql) (.a2 (.at 4 1) (.var 9) (.a2 (.bin .sub) (.var 7) (.int .i64 (.ofNat 1)))) (.int .i64 (.ofNat 0))),
  .tr (.a2 (.bin .eql) (.a2 (.at 4 0) (.var 9) (.a2 (.bin .sub) (.var 7) (.int .i64 (.ofNat 1)))) (.int .i64 (.ofNat 2))),
  .fl (.a2 (.bin .eql) (.a2 (.at 4 0) (.var 9) (.a2 (.bin .sub) (.var 7) (.int .i64 (.ofNat 1)))) (.int .i64 (.ofNat 1))),
  .tr (.a2 (.bin .eql) (.a1 .len (.a2 (.at 4 3) (.var 9) (.a2 (.bin .sub) (.var 7) (.int .i64 (.ofNat 1))))) (.int .i64 (.ofNat 0))),
  .tr (.a2 (.bin .leq) (.a2 (.at 4 1) (.var 9) (.a2 (.bin .sub) (.var 7) (.int .i64 (.ofNat 1)))) (.int .i64 (.ofNat 1073741824))),
  .tr (.a2 (.bin .geq) (.a2 (.at 4 1) (.var 9) (.a2 (.bin .sub) (.var 7) (.int .i64 (.ofNat 1)))) (.int .i64 (.ofNat 0))),
  .tr (.a2 (.bin .eql) (.a2 (.at 4 0) (.var 9) (.a2 (.bin .sub) (.var 7) (.int .i64 (.ofNat 1)))) (.int .i64 (.ofNat 3))),
  .fl (.a2 (.bin .eql) (.a2 (.at 4 0) (.var 9) (.a2 (.bin .sub) (.var 7) (.int .i64 (.ofNat 1)))) (.int .i64 (.ofNat 2))),
  .fl (.a1 (.un .not) (.a2 (.bin .leq) (.a1 .len (.a2 (.at 4 3) (.var 9) (.a2 (.bin .sub) (.var 7) (.int .i64 (.ofNat 1))))) (.int .i64 (.ofNat 64)))),
  .fl (.a2 (.bin .eql) (.a1 .len (.a2 (.at 4 3) (.var 9) (.a2 (.bin .sub) (.var 7) (.int .i64 (.ofNat 1))))) (.int .i64 (.ofNat 0))),
  .tr (.a2 (.bin .eql) (.a2 (.at 4 0) (.var 9) (.a2 (.bin .sub) (.var 7) (.int .i64 (.ofNat 1)))) (.int .i64 (.ofNat 4))),
  .fl (.a2 (.bin .eql) (.a2 (.at 4 0) (.var 9) (.a2 (.bin .sub) (.var 7) (.int .i64 (.ofNat 1)))) (.int .i64 (.ofNat 3))),
  .tr (.a2 (.bin .eql) (.a2 (.at 4 0) (.var 9) (.a2 (.bin .sub) (.var 7) (.int .i64 (.ofNat 1)))) (.int .i64 (.ofNat 6))),
  .fl (.a2 (.bin .eql) (.a2 (.at 4 0) (.var 9) (.a2 (.bin .sub) (.var 7) (.int .i64 (.ofNat 1)))) (.int .i64 (.ofNat 4))),
  .fl (.a2 (.bin .eql) (.a2 (.at 4 0) (.var 9) (.a2 (.bin .sub) (.var 7) (.int .i64 (.ofNat 1)))) (.int .i64 (.ofNat 6))),
  .tr (.a2 (.bin .eql) (.a2 (.at 4 0) (.var 9) (.a2 (.bin .sub) (.var 7) (.int .i64 (.ofNat 1)))) (.int .i64 (.ofNat 8))),
  .fl (.a1 (.un .not) (.a2 (.bin .eql) (.a1 .len (.a2 (.at 4 3) (.var 9) (.a2 (.bin .sub) (.var 7) (.int .i64 (.ofNat 1))))) (.int .i64 (.ofNat 2)))),
  .tr (.a2 (.bin .eql) (.a2 (.at 4 0) (.var 9) (.a2 (.bin .sub) (.var 7) (.int .i64 (.ofNat 1)))) (.int .i64 (.ofNat 9))),
  .fl (.a2 (.bin .eql) (.a2 (.at 4 0) (.var 9) (.a2 (.bin .sub) (.var 7) (.int .i64 (.ofNat 1)))) (.int .i64 (.ofNat 8)))] : List Abs.Fact).getD i (.tr (.bool true))
noncomputable def registryNone_kpR : List (List Nat) := [[0, 1, 2], [3, 1, 2], [4, 1, 2], [5, 6, 7, 8, 9, 10, 11, 1, 2], [12, 13, 6, 7, 8, 9, 10, 11, 1, 2], [14, 15, 6, 7, 8, 9, 10, 11, 1, 2], [5, 16, 17, 7, 8, 9, 10, 11, 1, 2], [12, 13, 16, 17, 7, 8, 9, 10, 11, 1, 2], [14, 15, 16, 17, 7, 8, 9, 10, 11, 1, 2], [5, 18, 17, 7, 8, 9, 10, 11, 1, 2], [12, 13, 18, 17, 7, 8, 9, 10, 11, 1, 2], [14, 15, 18, 17, 7, 8, 9, 10, 11, 1, 2], [5, 6, 7, 19, 20, 21, 22, 1, 2], [12, 13, 6, 7, 19, 20, 21, 22, 1, 2], [14, 15, 6, 7, 19, 20, 21, 22, 1, 2], [5, 16, 17, 7, 19, 20, 21, 22, 1, 2], [12, 13, 16, 17, 7, 19, 20, 21, 22, 1, 2], [14, 15, 16, 17, 7, 19, 20, 21, 22, 1, 2], [5, 18, 17, 7, 19, 20, 21, 22, 1, 2], [12, 13, 18, 17, 7, 19, 20, 21, 22, 1, 2], [14, 15, 18, 17, 7, 19, 20, 21, 22, 1, 2], [5, 6, 23, 8, 24, 25, 26, 27, 22, 1, 2], [12, 13, 6, 23, 8, 24, 25, 26, 27, 22, 1, 2], [14, 15, 6, 23, 8, 24, 25, 26, 27, 22, 1, 2], [5, 16, 17, 23, 8, 24, 25, 26, 27, 22, 1, 2], [12, 13, 16, 17, 23, 8, 24, 25, 26, 27, 22, 1, 2], [14, 15, 16, 17, 23, 8, 24, 25, 26, 27, 22, 1, 2], [5, 18, 17, 23, 8, 24, 25, 26, 27, 22, 1, 2], [12, 13, 18, 17, 23, 8, 24, 25, 26, 27, 22, 1, 2], [14, 15, 18, 17, 23, 8, 24, 25, 26, 27, 22, 1, 2], [5, 6, 28, 16, 29, 8, 24, 25, 26, 27, 22, 1, 2], [12, 13, 6, 28, 16, 29, 8, 24, 25, 26, 27, 22, 1, 2], [14, 15, 6, 28, 16, 29, 8, 24, 25, 26, 27, 22, 1, 2], [5, 17, 28, 16, 29, 8, 24, 25, 26, 27, 22, 1, 2], [12, 13, 17, 28, 16, 29, 8, 24, 25, 26, 27, 22, 1, 2], [14, 15, 17, 28, 16, 29, 8, 24, 25, 26, 27, 22, 1, 2], [5, 6, 23, 8, 24, 25, 30, 31, 27, 22, 1, 2], [12, 13, 6, 23, 8, 24, 25, 30, 31, 27, 22, 1, 2], [14, 15, 6, 23, 8, 24, 25, 30, 31, 27, 22, 1, 2], [5, 16, 17, 23, 8, 24, 25, 30, 31, 27, 22, 1, 2], [12, 13, 16, 17, 23, 8, 24, 25, 30, 31, 27, 22, 1, 2], [14, 15, 16, 17, 23, 8, 24, 25, 30, 31, 27, 22, 1, 2], [5, 18, 17, 23, 8, 24, 25, 30, 31, 27, 22, 1, 2], [12, 13, 18, 17, 23, 8, 24, 25, 30, 31, 27, 22, 1, 2], [14, 15, 18, 17, 23, 8, 24, 25, 30, 31, 27, 22, 1, 2], [5, 6, 28, 16, 29, 8, 24, 25, 30, 31, 27, 22, 1, 2], [12, 13, 6, 28, 16, 29, 8, 24, 25, 30, 31, 27, 22, 1, 2], [14, 15, 6, 28, 16, 29, 8, 24, 25, 30, 31, 27, 22, 1, 2], [5, 17, 28, 16, 29, 8, 24, 25, 30, 31, 27, 22, 1, 2], [12, 13, 17, 28, 16, 29, 8, 24, 25, 30, 31, 27, 22, 1, 2], [14, 15, 17, 28, 16, 29, 8, 24, 25, 30, 31, 27, 22, 1, 2], [5, 6, 23, 8, 24, 25, 32, 33, 31, 27, 22, 1, 2], [12, 13, 6, 23, 8, 24, 25, 32, 33, 31, 27, 22, 1, 2], [14, 15, 6, 23, 8, 24, 25, 32, 33, 31, 27, 22, 1, 2], [5, 16, 17, 23, 8, 24, 25, 32, 33, 31, 27, 22, 1, 2], [12, 13, 16, 17, 23, 8, 24, 25, 32, 33, 31, 27, 22, 1, 2], [14, 15, 16, 17, 23, 8, 24, 25, 32, 33, 31, 27, 22, 1, 2], [5, 18, 17, 23, 8, 24, 25, 32, 33, 31, 27, 22, 1, 2], [12, 13, 18, 17, 23, 8, 24, 25, 32, 33, 31, 27, 22, 1, 2], [14, 15, 18, 17, 23, 8, 24, 25, 32, 33, 31, 27, 22, 1, 2], [5, 6, 28, 16, 29, 8, 24, 25, 32, 33, 31, 27, 22, 1, 2], [12, 13, 6, 28, 16, 29, 8, 24, 25, 32, 33, 31, 27, 22, 1, 2], [14, 15, 6, 28, 16, 29, 8, 24, 25, 32, 33, 31, 27, 22, 1, 2], [5, 17, 28, 16, 29, 8, 24, 25, 32, 33, 31, 27, 22, 1, 2], [12, 13, 17, 28, 16, 29, 8, 24, 25, 32, 33, 31, 27, 22, 1, 2], [14, 15, 17, 28, 16, 29, 8, 24, 25, 32, 33, 31, 27, 22, 1, 2], [5, 6, 23, 8, 24, 25, 16, 34, 33, 31, 27, 22, 1, 2], [12, 13, 6, 23, 8, 24, 25, 16, 34, 33, 31, 27, 22, 1, 2], [14, 15, 6, 23, 8, 24, 25, 16, 34, 33, 31, 27, 22, 1, 2], [5, 17, 23, 8, 24, 25, 16, 34, 33, 31, 27, 22, 1, 2], [12, 13, 17, 23, 8, 24, 25, 16, 34, 33, 31, 27, 22, 1, 2], [14, 15, 17, 23, 8, 24, 25, 16, 34, 33, 31, 27, 22, 1, 2], [5, 6, 28, 29, 8, 24, 25, 16, 34, 33, 31, 27, 22, 1, 2], [12, 13, 6, 28, 29, 8, 24, 25, 16, 34, 33, 31, 27, 22, 1, 2], [14, 15, 6, 28, 29, 8, 24, 25, 16, 34, 33, 31, 27, 22, 1, 2], [5, 17, 28, 29, 8, 24, 25, 16, 34, 33, 31, 27, 22, 1, 2], [12, 13, 17, 28, 29, 8, 24, 25, 16, 34, 33, 31, 27, 22, 1, 2], [14, 15, 17, 28, 29, 8, 24, 25, 16, 34, 33, 31, 27, 22, 1, 2], [5, 28, 8, 20, 6, 18, 34, 33, 31, 27, 22, 1, 2], [12, 13, 28, 8, 20, 6, 18, 34, 33, 31, 27, 22, 1, 2], [14, 15, 28, 8, 20, 6, 18, 34, 33, 31, 27, 22, 1, 2], [5, 7, 8, 20, 35, 17, 18, 34, 33, 31, 27, 22, 1, 2], [12, 13, 7, 8, 20, 35, 17, 18, 34, 33, 31, 27, 22, 1, 2], [14, 15, 7, 8, 20, 35, 17, 18, 34, 33, 31, 27, 22, 1, 2], [5, 36, 8, 20, 37, 38, 17, 18, 34, 33, 31, 27, 22, 1, 2], [12, 13, 36, 8, 20, 37, 38, 17, 18, 34, 33, 31, 27, 22, 1, 2], [14, 15, 36, 8, 20, 37, 38, 17, 18, 34, 33, 31, 27, 22, 1, 2]]
set_option maxRecDepth 100000 in
theorem registryNone_kprun (N : Nat) (tl : List Deferred) : Abs.R.res (fun _ => true) ((Abs.runF (Abs.mkCtx Tryz.prog (fun _ => false) registryNone_absX [] [Abs.conParts Tryz.prog kU "parts" (Abs.pLeft kK kT N), Abs.conBack Tryz.prog kU "back" (Abs.pBack kK kT 1073741824 N) (Abs.pLeft kK kT N)]) 1000000 ((Abs.conParts Tryz.prog kU "parts" (Abs.pLeft kK kT (N + 1))).fi tl) (Abs.conParts Tryz.prog kU "parts" (Abs.pLeft kK kT (N + 1))).tr (Abs.conParts Tryz.prog kU "parts" (Abs.pLeft kK kT (N + 1))).todo [] .run none (Abs.conParts Tryz.prog kU "parts" (Abs.pLeft kK kT (N + 1))).S).bind (Abs.conLook (Abs.conParts Tryz.prog kU "parts" (Abs.pLeft kK kT (N + 1))))) = some (registryNone_kpR.map fun r => r.map (registryNone_kp N)) := by kernel_rfl
theorem registryNone_kpok : ∀ N, N ≤ 1073741824 → Abs.ConOk Tryz.prog (Abs.conParts Tryz.prog kU "parts" (Abs.pLeft kK kT N)) := Abs.parts_all fun N hN hc1 => Abs.con_of (Abs.good_ofK (fun c hc => by cases hc with | head => exact hc1 | tail _ h => cases h with | head => exact registryNone_kbok (by omega) _ | tail _ h => cases h) (fun _ h => by cases h) registryNone_absValid registryNone_absNum (Abs.ext_of registryNone_absExt)) registryNone_absMixed _ 1000000 (registryNone_kprun N)
  (Abs.unsats_of (F := registryNone_kp N) (pats := [[0, 1, 2], [3, 1, 2], [4, 1, 2], [5, 1, 2], [12, 13], [14, 15]]) (fun p hp γ h => by
    simp only [List.mem_cons, List.not_mem_nil, or_false] at hp
    rcases hp with rfl | rfl | rfl | rfl | rfl | rfl
    · exact Abs.parts_out hN (h 2 (by simp)) (h 1 (by simp)) (h 0 (by simp))
    · exact Abs.parts_hole hN (h 2 (by simp)) (h 1 (by simp)) (h 3 (by simp))
    · exact Abs.parts_cut hN (h 2 (by simp)) (h 1 (by simp)) (h 4 (by simp))
    · exact Abs.parts_back kHK hN (Nat.le_refl _) (h 2 (by simp)) (h 1 (by simp)) (h 5 (by simp))
    · exact (h 12 (by simp)) (h 13 (by simp))
    · exact (h 14 (by simp)) (h 15 (by simp))) (by kernel_rfl))
noncomputable def registryNone_kc  : Nat → Abs.Fact := fun i => ([
  .rel "parts" true (Abs.pLeft kK kT kB) [(.int .i64 (.ofNat 1)), (.a2 .sn (.a2 .sn (.a2 .sn (.a2 .sn (.a1 (.nl [(.int .i64), (.int .i64), .str, (.sl 24)]) (.bool true)) (.var 1)) (.var 2)) (.var 3)) (.var 4))],
  .rel "term" false (Abs.pTerm kK kT kB) [(.var 1), (.var 2), (.var 3), (.var 4)]] : List Abs.Fact).getD i (.tr (.bool true))
noncomputable def registryNone_kcR : List (List Nat) := [[0, 1]]
set_option maxRecDepth 100000 in
theorem registryNone_kcrun  (tl : List Deferred) : Abs.R.res (fun _ => true) ((Abs.runF (Abs.mkCtx Tryz.prog (fun _ => false) registryNone_absX [] [Abs.conParts Tryz.prog kU "parts" (Abs.pLeft kK kT kB)]) 1000000 ((Abs.conCheck Tryz.prog kU (Abs.pTerm kK kT kB)).fi tl) (Abs.conCheck Tryz.prog kU (Abs.pTerm kK kT kB)).tr (Abs.conCheck Tryz.prog kU (Abs.pTerm kK kT kB)).todo [] .run none (Abs.conCheck Tryz.prog kU (Abs.pTerm kK kT kB)).S).bind (Abs.conLook (Abs.conCheck Tryz.prog kU (Abs.pTerm kK kT kB)))) = some (registryNone_kcR.map fun r => r.map (registryNone_kc)) := by kernel_rfl
theorem registryNone_kcok : Abs.ConOk Tryz.prog (Abs.conCheck Tryz.prog kU (Abs.pTerm kK kT kB)) := Abs.con_of (Abs.good_ofK (fun c hc => by cases hc with | head => exact registryNone_kpok _ (of_decide_eq_true (by kernel_rfl)) | tail _ h => cases h) (fun _ h => by cases h) registryNone_absValid registryNone_absNum (Abs.ext_of registryNone_absExt)) registryNone_absMixed _ 1000000 registryNone_kcrun
  (Abs.unsats_of (F := registryNone_kc) (pats := [[0, 1]]) (fun p hp γ h => by
    simp only [List.mem_cons, List.not_mem_nil, or_false] at hp
    rcases hp with rfl
    · exact Abs.check_parts kHK (h 1 (by simp)) (h 0 (by simp))) (by kernel_rfl))
end Go.Proofs.YtheiiffocibnoaaGreat
