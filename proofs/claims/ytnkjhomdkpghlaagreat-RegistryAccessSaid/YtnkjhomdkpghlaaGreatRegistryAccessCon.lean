/- Contracts of term.Check, tenurekit.size and term.Copy, and of their loops: by induction over what is left, each step by a run of the abstract machine in the kernel. No condition. -/
import Derived.Test.YtnkjhomdkpghlaaGreatRows
import Derived.Test.YtnkjhomdkpghlaaGreatAbs7
namespace Go.Proofs.YtnkjhomdkpghlaaGreat
noncomputable def kU : Abs.NumC := ⟨58, 101, 110, 22, 24, 3, 31, 0, 17, 38, 19⟩
noncomputable def kA : Abs.NumA := ⟨17, 43, 56, 35, 78⟩
noncomputable def kK : TypeId → List Abs.Kd := Abs.cellKds (Abs.mkCtx Tryz.prog (fun _ => false) [])
noncomputable def kT : TypeId := 24
noncomputable def kB : Nat := 1048577
noncomputable def kTs : List TypeId := [26, 3, 3, 24]
theorem kHK : kK kT = [.int .i64, .int .i64, .str, .sl kT] := by kernel_rfl
theorem kHO : kK 26 = [.int .i64, .int .i64, .int .i64, .bool, .str, .int .i64, .int .i64, .int .i64, .str, .sl kT] := by kernel_rfl
theorem kHI : kK 3 = [.int .i64] := by kernel_rfl
theorem ra_absExt : Abs.ExtOk Tryz.prog [] := trivial
set_option maxRecDepth 100000 in
theorem ra_absValid : Abs.validB Tryz.prog = true := by kernel_rfl
set_option maxRecDepth 100000 in
theorem ra_absNum : Abs.noNumL Tryz.prog.funcs.toList = true := by kernel_rfl
theorem ra_absMixed : Tryz.prog.follows .mixedOrders = true := by kernel_rfl
noncomputable def ra_kb (N M : Nat) : Nat → Abs.Fact := fun i => ([
  .rel "out" false Abs.pOut [(.var 9), (.a1 .len (.var 8))],
  .tr (.a2 (.bin .geq) (.var 9) (.int .i64 (.ofNat 0))),
  .rel "back" false (Abs.pBack kK kT (N + 1) M) [(.var 5), (.var 7), (.var 8), (.var 9)],
  .rel "grow" false (Abs.pGrow 4 56 1) [(.var 7), (.var 5)],
  .rel "back" true (Abs.pBack kK kT N M) [(.a2 (.bin .add) (.var 5) (.int .i64 (.ofNat 1))), (.a2 .sn (.a2 .sn (.a2 .sn (.a2 .sn (.a2 (.tk 4) (.var 7) (.var 5)) (.a1 (.ld 0) (.a2 .el (.var 8) (.var 9)))) (.a1 (.ld 1) (.a2 .el (.var 8) (.var 9)))) (.a1 (.ld 2) (.a2 .el (.var 8) (.var 9)))) (.a1 (.ld 3) (.a2 .el (.var 8) (.var 9)))), (.var 8), (.a2 (.bin .sub) (.var 9) (.int .i64 (.ofNat 1)))],
  .inr (.var 5) (.a2 (.bin .add) (.var 5) (.int .i64 (.ofNat 1))),
  .rel "left" true (Abs.pLeft kK kT M) [(.var 15), (.var 17)],
  .rel "left" false (Abs.pLeft kK kT M) [(.var 15), (.var 17)],
  .rel "left" true (Abs.pLeft kK kT M) [(.var 14), (.var 16)],
  .rel "left" false (Abs.pLeft kK kT M) [(.var 14), (.var 16)],
  .rel "left" true (Abs.pLeft kK kT M) [(.var 5), (.var 7)],
  .fl (.a2 (.bin .geq) (.var 9) (.int .i64 (.ofNat 0)))] : List Abs.Fact).getD i (.tr (.bool true))
noncomputable def ra_kbR : List (List Nat) := [[0, 1, 2], [3, 1, 2], [4, 5, 1, 2], [6, 7, 5, 1, 2], [8, 9, 5, 1, 2], [10, 11, 2]]
set_option maxRecDepth 100000 in
theorem ra_kbrun (N M : Nat) (tl : List Deferred) : Abs.R.res (fun _ => true) ((Abs.runF (Abs.mkCtx Tryz.prog (fun _ => false) [] [] [Abs.conBack Tryz.prog kU "back" (Abs.pBack kK kT N M) (Abs.pLeft kK kT M)]) 1000000 ((Abs.conBack Tryz.prog kU "back" (Abs.pBack kK kT (N + 1) M) (Abs.pLeft kK kT M)).fi tl) (Abs.conBack Tryz.prog kU "back" (Abs.pBack kK kT (N + 1) M) (Abs.pLeft kK kT M)).tr (Abs.conBack Tryz.prog kU "back" (Abs.pBack kK kT (N + 1) M) (Abs.pLeft kK kT M)).todo [] .run none (Abs.conBack Tryz.prog kU "back" (Abs.pBack kK kT (N + 1) M) (Abs.pLeft kK kT M)).S).bind (Abs.conLook (Abs.mkCtx Tryz.prog (fun _ => false) [] [] [Abs.conBack Tryz.prog kU "back" (Abs.pBack kK kT N M) (Abs.pLeft kK kT M)]) (Abs.conBack Tryz.prog kU "back" (Abs.pBack kK kT (N + 1) M) (Abs.pLeft kK kT M)))) = some (ra_kbR.map fun r => r.map (ra_kb N M)) := by kernel_rfl
theorem ra_kbok {M : Nat} (hM : M ≤ 1073741824) : ∀ N, Abs.ConOk Tryz.prog (Abs.conBack Tryz.prog kU "back" (Abs.pBack kK kT N M) (Abs.pLeft kK kT M)) := Abs.back_all fun N hc => Abs.con_of (Abs.good_ofK (fun c h => by cases h with | head => exact hc | tail _ h => cases h) (fun _ h => by cases h) ra_absValid ra_absNum (Abs.ext_of ra_absExt)) ra_absMixed _ 1000000 (ra_kbrun N M)
  (Abs.unsats_of (F := ra_kb N M) (pats := [[0, 1, 2], [3, 2], [4, 1, 2], [6, 7], [8, 9], [10, 2]]) (fun p hp γ h => by
    simp only [List.mem_cons, List.not_mem_nil, or_false] at hp
    rcases hp with rfl | rfl | rfl | rfl | rfl | rfl
    · exact Abs.back_out (h 2 (by simp)) (h 1 (by simp)) (h 0 (by simp))
    · exact Abs.back_grow hM (by omega) (h 2 (by simp)) (h 3 (by simp))
    · exact Abs.back_next kHK hM (h 2 (by simp)) (h 1 (by simp)) (h 4 (by simp))
    · exact (h 6 (by simp)) (h 7 (by simp))
    · exact (h 8 (by simp)) (h 9 (by simp))
    · exact Abs.back_end (h 2 (by simp)) (h 10 (by simp))) (by kernel_rfl))
noncomputable def ra_kp (N : Nat) : Nat → Abs.Fact := fun i => ([
  .rel "out" false Abs.pOut [(.a2 (.bin .sub) (.var 6) (.int .i64 (.ofNat 1))), (.var 6)],
  .tr (.a2 (.bin .gtr) (.var 6) (.int .i64 (.ofNat 0))),
  .rel "parts" false (Abs.pLeft kK kT (N + 1)) [(.var 6), (.var 8)],
  .rel "hole" false (Abs.pHole 4) [(.var 8), (.a2 (.bin .sub) (.var 6) (.int .i64 (.ofNat 1)))],
  .rel "cut" false Abs.pCut [(.int .i64 (.ofNat 0)), (.a2 (.bin .sub) (.var 6) (.int .i64 (.ofNat 1))), (.var 6)],
  .rel "back" true (Abs.pBack kK kT 1073741824 N) [(.a2 (.bin .sub) (.var 6) (.int .i64 (.ofNat 1))), (.var 8), (.a2 (.at 4 3) (.var 8) (.a2 (.bin .sub) (.var 6) (.int .i64 (.ofNat 1)))), (.a2 (.bin .sub) (.a1 .len (.a2 (.at 4 3) (.var 8) (.a2 (.bin .sub) (.var 6) (.int .i64 (.ofNat 1))))) (.int .i64 (.ofNat 1)))],
  .tr (.a2 (.bin .eql) (.a1 .len (.a2 (.at 4 3) (.var 8) (.a2 (.bin .sub) (.var 6) (.int .i64 (.ofNat 1))))) (.int .i64 (.ofNat 0))),
  .tr (.a2 (.bin .eql) (.a2 (.at 4 2) (.var 8) (.a2 (.bin .sub) (.var 6) (.int .i64 (.ofNat 1)))) (.str [])),
  .tr (.a2 (.bin .leq) (.a2 (.at 4 1) (.var 8) (.a2 (.bin .sub) (.var 6) (.int .i64 (.ofNat 1)))) (.int .i64 (.ofNat 576460752303423487))),
  .tr (.a2 (.bin .geq) (.a2 (.at 4 1) (.var 8) (.a2 (.bin .sub) (.var 6) (.int .i64 (.ofNat 1)))) (.int .i64 (.negSucc 576460752303423487))),
  .tr (.a2 (.bin .eql) (.a2 (.at 4 0) (.var 8) (.a2 (.bin .sub) (.var 6) (.int .i64 (.ofNat 1)))) (.int .i64 (.ofNat 1))),
  .rel "parts" true (Abs.pLeft kK kT N) [(.var 18), (.var 20)],
  .rel "left" false (Abs.pLeft kK kT N) [(.var 18), (.var 20)],
  .rel "parts" true (Abs.pLeft kK kT N) [(.var 17), (.var 19)],
  .rel "left" false (Abs.pLeft kK kT N) [(.var 17), (.var 19)],
  .tr (.a2 (.bin .leq) (.a1 .len (.a2 (.at 4 2) (.var 8) (.a2 (.bin .sub) (.var 6) (.int .i64 (.ofNat 1))))) (.int .i64 (.ofNat 64))),
  .tr (.a2 (.bin .eql) (.a2 (.at 4 1) (.var 8) (.a2 (.bin .sub) (.var 6) (.int .i64 (.ofNat 1)))) (.int .i64 (.ofNat 0))),
  .tr (.a2 (.bin .eql) (.a2 (.at 4 0) (.var 8) (.a2 (.bin .sub) (.var 6) (.int .i64 (.ofNat 1)))) (.int .i64 (.ofNat 2))),
  .fl (.a2 (.bin .eql) (.a2 (.at 4 0) (.var 8) (.a2 (.bin .sub) (.var 6) (.int .i64 (.ofNat 1)))) (.int .i64 (.ofNat 1))),
  .tr (.a2 (.bin .leq) (.a2 (.at 4 1) (.var 8) (.a2 (.bin .sub) (.var 6) (.int .i64 (.ofNat 1)))) (.int .i64 (.ofNat 1073741824))),
  .tr (.a2 (.bin .geq) (.a2 (.at 4 1) (.var 8) (.a2 (.bin .sub) (.var 6) (.int .i64 (.ofNat 1)))) (.int .i64 (.ofNat 0))),
  .tr (.a2 (.bin .eql) (.a2 (.at 4 0) (.var 8) (.a2 (.bin .sub) (.var 6) (.int .i64 (.ofNat 1)))) (.int .i64 (.ofNat 3))),
  .fl (.a2 (.bin .eql) (.a2 (.at 4 0) (.var 8) (.a2 (.bin .sub) (.var 6) (.int .i64 (.ofNat 1)))) (.int .i64 (.ofNat 2))),
  .tr (.a2 (.bin .eql) (.a2 (.at 4 0) (.var 8) (.a2 (.bin .sub) (.var 6) (.int .i64 (.ofNat 1)))) (.int .i64 (.ofNat 4))),
  .fl (.a2 (.bin .eql) (.a2 (.at 4 0) (.var 8) (.a2 (.bin .sub) (.var 6) (.int .i64 (.ofNat 1)))) (.int .i64 (.ofNat 3))),
  .tr (.a2 (.bin .eql) (.a2 (.at 4 0) (.var 8) (.a2 (.bin .sub) (.var 6) (.int .i64 (.ofNat 1)))) (.int .i64 (.ofNat 6))),
  .fl (.a2 (.bin .eql) (.a2 (.at 4 0) (.var 8) (.a2 (.bin .sub) (.var 6) (.int .i64 (.ofNat 1)))) (.int .i64 (.ofNat 4))),
  .tr (.a2 (.bin .eql) (.a2 (.at 4 0) (.var 8) (.a2 (.bin .sub) (.var 6) (.int .i64 (.ofNat 1)))) (.int .i64 (.ofNat 5))),
  .fl (.a2 (.bin .eql) (.a2 (.at 4 0) (.var 8) (.a2 (.bin .sub) (.var 6) (.int .i64 (.ofNat 1)))) (.int .i64 (.ofNat 6))),
  .tr (.a2 (.bin .leq) (.a1 .len (.a2 (.at 4 3) (.var 8) (.a2 (.bin .sub) (.var 6) (.int .i64 (.ofNat 1))))) (.int .i64 (.ofNat 64))),
  .fl (.a2 (.bin .eql) (.a1 .len (.a2 (.at 4 3) (.var 8) (.a2 (.bin .sub) (.var 6) (.int .i64 (.ofNat 1))))) (.int .i64 (.ofNat 0))),
  .tr (.a2 (.bin .eql) (.a2 (.at 4 0) (.var 8) (.a2 (.bin .sub) (.var 6) (.int .i64 (.ofNat 1)))) (.int .i64 (.ofNat 7))),
  .fl (.a2 (.bin .eql) (.a2 (.at 4 0) (.var 8) (.a2 (.bin .sub) (.var 6) (.int .i64 (.ofNat 1)))) (.int .i64 (.ofNat 5))),
  .tr (.a2 (.bin .eql) (.a2 (.at 4 0) (.var 8) (.a2 (.bin .sub) (.var 6) (.int .i64 (.ofNat 1)))) (.int .i64 (.ofNat 8))),
  .fl (.a2 (.bin .eql) (.a2 (.at 4 0) (.var 8) (.a2 (.bin .sub) (.var 6) (.int .i64 (.ofNat 1)))) (.int .i64 (.ofNat 7))),
  .tr (.a2 (.bin .eql) (.a1 .len (.a2 (.at 4 3) (.var 8) (.a2 (.bin .sub) (.var 6) (.int .i64 (.ofNat 1))))) (.int .i64 (.ofNat 2))),
  .tr (.a2 (.bin .eql) (.a2 (.at 4 0) (.var 8) (.a2 (.bin .sub) (.var 6) (.int .i64 (.ofNat 1)))) (.int .i64 (.ofNat 9))),
  .fl (.a2 (.bin .eql) (.a2 (.at 4 0) (.var 8) (.a2 (.bin .sub) (.var 6) (.int .i64 (.ofNat 1)))) (.int .i64 (.ofNat 8)))] : List Abs.Fact).getD i (.tr (.bool true))
noncomputable def ra_kpR : List (List Nat) := [[0, 1, 2], [3, 1, 2], [4, 1, 2], [5, 6, 7, 8, 9, 10, 1, 2], [11, 12, 6, 7, 8, 9, 10, 1, 2], [13, 14, 6, 7, 8, 9, 10, 1, 2], [5, 6, 15, 16, 17, 18, 1, 2], [11, 12, 6, 15, 16, 17, 18, 1, 2], [13, 14, 6, 15, 16, 17, 18, 1, 2], [5, 6, 7, 19, 20, 21, 22, 18, 1, 2], [11, 12, 6, 7, 19, 20, 21, 22, 18, 1, 2], [13, 14, 6, 7, 19, 20, 21, 22, 18, 1, 2], [5, 6, 7, 19, 20, 23, 24, 22, 18, 1, 2], [11, 12, 6, 7, 19, 20, 23, 24, 22, 18, 1, 2], [13, 14, 6, 7, 19, 20, 23, 24, 22, 18, 1, 2], [5, 6, 7, 19, 20, 25, 26, 24, 22, 18, 1, 2], [11, 12, 6, 7, 19, 20, 25, 26, 24, 22, 18, 1, 2], [13, 14, 6, 7, 19, 20, 25, 26, 24, 22, 18, 1, 2], [5, 6, 7, 19, 20, 27, 28, 26, 24, 22, 18, 1, 2], [11, 12, 6, 7, 19, 20, 27, 28, 26, 24, 22, 18, 1, 2], [13, 14, 6, 7, 19, 20, 27, 28, 26, 24, 22, 18, 1, 2], [5, 29, 30, 7, 19, 20, 27, 28, 26, 24, 22, 18, 1, 2], [11, 12, 29, 30, 7, 19, 20, 27, 28, 26, 24, 22, 18, 1, 2], [13, 14, 29, 30, 7, 19, 20, 27, 28, 26, 24, 22, 18, 1, 2], [5, 29, 7, 16, 31, 32, 28, 26, 24, 22, 18, 1, 2], [11, 12, 29, 7, 16, 31, 32, 28, 26, 24, 22, 18, 1, 2], [13, 14, 29, 7, 16, 31, 32, 28, 26, 24, 22, 18, 1, 2], [5, 6, 7, 16, 33, 34, 32, 28, 26, 24, 22, 18, 1, 2], [11, 12, 6, 7, 16, 33, 34, 32, 28, 26, 24, 22, 18, 1, 2], [13, 14, 6, 7, 16, 33, 34, 32, 28, 26, 24, 22, 18, 1, 2], [5, 35, 7, 16, 36, 37, 34, 32, 28, 26, 24, 22, 18, 1, 2], [11, 12, 35, 7, 16, 36, 37, 34, 32, 28, 26, 24, 22, 18, 1, 2], [13, 14, 35, 7, 16, 36, 37, 34, 32, 28, 26, 24, 22, 18, 1, 2]]
set_option maxRecDepth 100000 in
theorem ra_kprun (N : Nat) (tl : List Deferred) : Abs.R.res (fun _ => true) ((Abs.runF (Abs.mkCtx Tryz.prog (fun _ => false) [] [] [Abs.conParts Tryz.prog kU "parts" (Abs.pLeft kK kT N), Abs.conBack Tryz.prog kU "back" (Abs.pBack kK kT 1073741824 N) (Abs.pLeft kK kT N)]) 1000000 ((Abs.conParts Tryz.prog kU "parts" (Abs.pLeft kK kT (N + 1))).fi tl) (Abs.conParts Tryz.prog kU "parts" (Abs.pLeft kK kT (N + 1))).tr (Abs.conParts Tryz.prog kU "parts" (Abs.pLeft kK kT (N + 1))).todo [] .run none (Abs.conParts Tryz.prog kU "parts" (Abs.pLeft kK kT (N + 1))).S).bind (Abs.conLook (Abs.mkCtx Tryz.prog (fun _ => false) [] [] [Abs.conParts Tryz.prog kU "parts" (Abs.pLeft kK kT N), Abs.conBack Tryz.prog kU "back" (Abs.pBack kK kT 1073741824 N) (Abs.pLeft kK kT N)]) (Abs.conParts Tryz.prog kU "parts" (Abs.pLeft kK kT (N + 1))))) = some (ra_kpR.map fun r => r.map (ra_kp N)) := by kernel_rfl
theorem ra_kpok : ∀ N, N ≤ 1073741824 → Abs.ConOk Tryz.prog (Abs.conParts Tryz.prog kU "parts" (Abs.pLeft kK kT N)) := Abs.parts_all fun N hN hc1 => Abs.con_of (Abs.good_ofK (fun c h => by cases h with | head => exact hc1 | tail _ h => cases h with | head => exact ra_kbok (by omega) _ | tail _ h => cases h) (fun _ h => by cases h) ra_absValid ra_absNum (Abs.ext_of ra_absExt)) ra_absMixed _ 1000000 (ra_kprun N)
  (Abs.unsats_of (F := ra_kp N) (pats := [[0, 1, 2], [3, 1, 2], [4, 1, 2], [5, 1, 2], [11, 12], [13, 14]]) (fun p hp γ h => by
    simp only [List.mem_cons, List.not_mem_nil, or_false] at hp
    rcases hp with rfl | rfl | rfl | rfl | rfl | rfl
    · exact Abs.parts_out hN (h 2 (by simp)) (h 1 (by simp)) (h 0 (by simp))
    · exact Abs.parts_hole hN (h 2 (by simp)) (h 1 (by simp)) (h 3 (by simp))
    · exact Abs.parts_cut hN (h 2 (by simp)) (h 1 (by simp)) (h 4 (by simp))
    · exact Abs.parts_back kHK hN (Nat.le_refl _) (h 2 (by simp)) (h 1 (by simp)) (h 5 (by simp))
    · exact (h 11 (by simp)) (h 12 (by simp))
    · exact (h 13 (by simp)) (h 14 (by simp))) (by kernel_rfl))
noncomputable def ra_kc  : Nat → Abs.Fact := fun i => ([
  .rel "parts" true (Abs.pLeft kK kT kB) [(.int .i64 (.ofNat 1)), (.a2 .sn (.a2 .sn (.a2 .sn (.a2 .sn (.a1 (.nl [(.int .i64), (.int .i64), .str, (.sl 24)]) (.bool true)) (.var 0)) (.var 1)) (.var 2)) (.var 3))],
  .rel "term" false (Abs.pTerm kK kT kB) [(.var 0), (.var 1), (.var 2), (.var 3)]] : List Abs.Fact).getD i (.tr (.bool true))
noncomputable def ra_kcR : List (List Nat) := [[0, 1]]
set_option maxRecDepth 100000 in
theorem ra_kcrun  (tl : List Deferred) : Abs.R.res (fun _ => true) ((Abs.runF (Abs.mkCtx Tryz.prog (fun _ => false) [] [] [Abs.conParts Tryz.prog kU "parts" (Abs.pLeft kK kT kB)]) 1000000 ((Abs.conCheck1 Tryz.prog kU (Abs.pTerm kK kT kB)).fi tl) (Abs.conCheck1 Tryz.prog kU (Abs.pTerm kK kT kB)).tr (Abs.conCheck1 Tryz.prog kU (Abs.pTerm kK kT kB)).todo [] .run none (Abs.conCheck1 Tryz.prog kU (Abs.pTerm kK kT kB)).S).bind (Abs.conLook (Abs.mkCtx Tryz.prog (fun _ => false) [] [] [Abs.conParts Tryz.prog kU "parts" (Abs.pLeft kK kT kB)]) (Abs.conCheck1 Tryz.prog kU (Abs.pTerm kK kT kB)))) = some (ra_kcR.map fun r => r.map (ra_kc)) := by kernel_rfl
theorem ra_kcok : Abs.ConOk Tryz.prog (Abs.conCheck1 Tryz.prog kU (Abs.pTerm kK kT kB)) := Abs.con_of (Abs.good_ofK (fun c h => by cases h with | head => exact ra_kpok _ (of_decide_eq_true (by kernel_rfl)) | tail _ h => cases h) (fun _ h => by cases h) ra_absValid ra_absNum (Abs.ext_of ra_absExt)) ra_absMixed _ 1000000 (ra_kcrun)
  (Abs.unsats_of (F := ra_kc) (pats := [[0, 1]]) (fun p hp γ h => by
    simp only [List.mem_cons, List.not_mem_nil, or_false] at hp
    rcases hp with rfl
    · exact Abs.check_parts kHK (h 1 (by simp)) (h 0 (by simp))) (by kernel_rfl))
noncomputable def ra_ksl (N M : Nat) : Nat → Abs.Fact := fun i => ([
  .rel "out" false Abs.pOut [(.var 6), (.a1 .len (.var 3))],
  .tr (.a2 (.bin .lss) (.var 5) (.var 4)),
  .tr (.a2 (.bin .lss) (.var 6) (.a1 .len (.var 3))),
  .rel "sl" false (Abs.pSl2 kK kT N (M + 1)) [(.var 3), (.var 6), (.var 5), (.var 4)],
  .rel "terms" true (Abs.pTerm kK kT N) [(.a1 (.ld 0) (.a2 .el (.var 3) (.var 6))), (.a1 (.ld 1) (.a2 .el (.var 3) (.var 6))), (.a1 (.ld 2) (.a2 .el (.var 3) (.var 6))), (.a1 (.ld 3) (.a2 .el (.var 3) (.var 6)))],
  .rel "most" true Abs.pMost [(.a2 (.bin .sub) (.var 4) (.var 5))],
  .rel "sl" true (Abs.pSl2 kK kT N M) [(.var 3), (.a2 (.bin .add) (.var 6) (.int .i64 (.ofNat 1))), (.a2 (.bin .add) (.var 5) (.var 8)), (.var 4)],
  .rel "sz" false (Abs.pSz kT) [(.a2 (.bin .sub) (.var 4) (.var 5)), (.var 8), (.a1 (.ld 3) (.a2 .el (.var 3) (.var 6)))],
  .rel "sz" true (Abs.pSz kT) [(.var 4), (.var 9), (.var 3)],
  .rel "sz" false (Abs.pSz kT) [(.var 4), (.var 9), (.var 3)],
  .rel "sz" true (Abs.pSz kT) [(.var 4), (.var 5), (.var 3)],
  .fl (.a2 (.bin .lss) (.var 5) (.var 4)),
  .fl (.a2 (.bin .lss) (.var 6) (.a1 .len (.var 3)))] : List Abs.Fact).getD i (.tr (.bool true))
noncomputable def ra_kslR : List (List Nat) := [[0, 1, 2, 3], [4, 1, 2, 3], [5, 1, 2, 3], [6, 7, 1, 2, 3], [8, 9, 7, 1, 2, 3], [10, 11, 2, 3], [10, 12, 3]]
set_option maxRecDepth 100000 in
theorem ra_kslrun (N M : Nat) (tl : List Deferred) : Abs.R.res (fun _ => true) ((Abs.runF (Abs.mkCtx Tryz.prog (fun _ => false) [] [] [Abs.conSizeL Tryz.prog kU kA "sl" (Abs.pSl2 kK kT N M) (Abs.pSz kT), Abs.conSize Tryz.prog kU kA "terms" (Abs.pTerm kK kT N) Abs.pMost (Abs.pSz kT)]) 1000000 ((Abs.conSizeL Tryz.prog kU kA "sl" (Abs.pSl2 kK kT N (M + 1)) (Abs.pSz kT)).fi tl) (Abs.conSizeL Tryz.prog kU kA "sl" (Abs.pSl2 kK kT N (M + 1)) (Abs.pSz kT)).tr (Abs.conSizeL Tryz.prog kU kA "sl" (Abs.pSl2 kK kT N (M + 1)) (Abs.pSz kT)).todo [] .run none (Abs.conSizeL Tryz.prog kU kA "sl" (Abs.pSl2 kK kT N (M + 1)) (Abs.pSz kT)).S).bind (Abs.conLook (Abs.mkCtx Tryz.prog (fun _ => false) [] [] [Abs.conSizeL Tryz.prog kU kA "sl" (Abs.pSl2 kK kT N M) (Abs.pSz kT), Abs.conSize Tryz.prog kU kA "terms" (Abs.pTerm kK kT N) Abs.pMost (Abs.pSz kT)]) (Abs.conSizeL Tryz.prog kU kA "sl" (Abs.pSl2 kK kT N (M + 1)) (Abs.pSz kT)))) = some (ra_kslR.map fun r => r.map (ra_ksl N M)) := by kernel_rfl
noncomputable def ra_kse (N : Nat) : Nat → Abs.Fact := fun i => ([
  .rel "sz" true (Abs.pSz kT) [(.var 4), (.var 4), (.var 3)],
  .tr (.a2 (.bin .gtr) (.a1 .len (.var 2)) (.int .i64 (.ofNat 100))),
  .rel "terms" false (Abs.pTerm kK kT (N + 1)) [(.var 0), (.var 1), (.var 2), (.var 3)],
  .rel "most" false Abs.pMost [(.var 4)],
  .tr (.a2 (.bin .gtr) (.a1 .len (.var 3)) (.var 4)),
  .fl (.a2 (.bin .gtr) (.a1 .len (.var 2)) (.int .i64 (.ofNat 100))),
  .rel "sl" true (Abs.pSl2 kK kT N (N + 1)) [(.var 3), (.int .i64 (.ofNat 0)), (.int .i64 (.ofNat 1)), (.var 4)],
  .fl (.a2 (.bin .gtr) (.a1 .len (.var 3)) (.var 4)),
  .rel "sz" true (Abs.pSz kT) [(.var 4), (.var 6), (.var 3)],
  .rel "sz" false (Abs.pSz kT) [(.var 4), (.var 6), (.var 3)]] : List Abs.Fact).getD i (.tr (.bool true))
noncomputable def ra_kseR : List (List Nat) := [[0, 1, 2, 3], [0, 4, 5, 2, 3], [6, 7, 5, 2, 3], [8, 9, 7, 5, 2, 3]]
set_option maxRecDepth 100000 in
theorem ra_kserun (N : Nat) (tl : List Deferred) : Abs.R.res (fun _ => true) ((Abs.runF (Abs.mkCtx Tryz.prog (fun _ => false) [] [] [Abs.conSizeL Tryz.prog kU kA "sl" (Abs.pSl2 kK kT N (N + 1)) (Abs.pSz kT)]) 1000000 ((Abs.conSize Tryz.prog kU kA "terms" (Abs.pTerm kK kT (N + 1)) Abs.pMost (Abs.pSz kT)).fi tl) (Abs.conSize Tryz.prog kU kA "terms" (Abs.pTerm kK kT (N + 1)) Abs.pMost (Abs.pSz kT)).tr (Abs.conSize Tryz.prog kU kA "terms" (Abs.pTerm kK kT (N + 1)) Abs.pMost (Abs.pSz kT)).todo [] .run none (Abs.conSize Tryz.prog kU kA "terms" (Abs.pTerm kK kT (N + 1)) Abs.pMost (Abs.pSz kT)).S).bind (Abs.conLook (Abs.mkCtx Tryz.prog (fun _ => false) [] [] [Abs.conSizeL Tryz.prog kU kA "sl" (Abs.pSl2 kK kT N (N + 1)) (Abs.pSz kT)]) (Abs.conSize Tryz.prog kU kA "terms" (Abs.pTerm kK kT (N + 1)) Abs.pMost (Abs.pSz kT)))) = some (ra_kseR.map fun r => r.map (ra_kse N)) := by kernel_rfl
theorem ra_kslstep (N M : Nat) (hS : Abs.ConOk Tryz.prog (Abs.conSize Tryz.prog kU kA "terms" (Abs.pTerm kK kT N) Abs.pMost (Abs.pSz kT))) (hL : Abs.ConOk Tryz.prog (Abs.conSizeL Tryz.prog kU kA "sl" (Abs.pSl2 kK kT N M) (Abs.pSz kT))) : Abs.ConOk Tryz.prog (Abs.conSizeL Tryz.prog kU kA "sl" (Abs.pSl2 kK kT N (M + 1)) (Abs.pSz kT)) := Abs.con_of (Abs.good_ofK (fun c h => by cases h with | head => exact hL | tail _ h => cases h with | head => exact hS | tail _ h => cases h) (fun _ h => by cases h) ra_absValid ra_absNum (Abs.ext_of ra_absExt)) ra_absMixed _ 1000000 (ra_kslrun N M)
  (Abs.unsats_of (F := ra_ksl N M) (pats := [[0, 2, 3], [4, 2, 3], [5, 1, 3], [6, 7, 2, 1, 3], [8, 9], [10, 11, 3], [10, 12, 3]]) (fun p hp γ h => by
    simp only [List.mem_cons, List.not_mem_nil, or_false] at hp
    rcases hp with rfl | rfl | rfl | rfl | rfl | rfl | rfl
    · exact Abs.sz_out (h 3 (by simp)) (h 2 (by simp)) (h 0 (by simp))
    · exact Abs.sz_term kHK (h 3 (by simp)) (h 2 (by simp)) (h 4 (by simp))
    · exact Abs.sz_most (h 3 (by simp)) (h 1 (by simp)) (h 5 (by simp))
    · exact Abs.sz_next kHK (h 3 (by simp)) (h 2 (by simp)) (h 1 (by simp)) (h 7 (by simp)) (h 6 (by simp))
    · exact (h 8 (by simp)) (h 9 (by simp))
    · exact Abs.sz_end2 (h 3 (by simp)) (h 11 (by simp)) (h 10 (by simp))
    · exact Abs.sz_end1 kHK (h 3 (by simp)) (h 12 (by simp)) (h 10 (by simp))) (by kernel_rfl))
theorem ra_ksestep (N : Nat) (hL : Abs.ConOk Tryz.prog (Abs.conSizeL Tryz.prog kU kA "sl" (Abs.pSl2 kK kT N (N + 1)) (Abs.pSz kT))) : Abs.ConOk Tryz.prog (Abs.conSize Tryz.prog kU kA "terms" (Abs.pTerm kK kT (N + 1)) Abs.pMost (Abs.pSz kT)) := Abs.con_of (Abs.good_ofK (fun c h => by cases h with | head => exact hL | tail _ h => cases h) (fun _ h => by cases h) ra_absValid ra_absNum (Abs.ext_of ra_absExt)) ra_absMixed _ 1000000 (ra_kserun N)
  (Abs.unsats_of (F := ra_kse N) (pats := [[0, 2, 3], [6, 7, 2, 3], [8, 9]]) (fun p hp γ h => by
    simp only [List.mem_cons, List.not_mem_nil, or_false] at hp
    rcases hp with rfl | rfl | rfl
    · exact Abs.sz_big kHK (h 2 (by simp)) (h 3 (by simp)) (h 0 (by simp))
    · exact Abs.sz_start kHK (h 2 (by simp)) (h 3 (by simp)) (h 7 (by simp)) (h 6 (by simp))
    · exact (h 8 (by simp)) (h 9 (by simp))) (by kernel_rfl))
set_option maxRecDepth 100000 in
theorem ra_ksok (B : Nat) : Abs.ConOk Tryz.prog (Abs.conSize Tryz.prog kU kA "terms" (Abs.pTerm kK kT B) Abs.pMost (Abs.pSz kT)) := Abs.two_all (cS := fun N => Abs.conSize Tryz.prog kU kA "terms" (Abs.pTerm kK kT N) Abs.pMost (Abs.pSz kT)) (cL := fun N M => Abs.conSizeL Tryz.prog kU kA "sl" (Abs.pSl2 kK kT N M) (Abs.pSz kT)) (B := B) (Abs.conOk_vac fun γ hf => Abs.term_zero (hf _ List.mem_cons_self)) (fun N => Abs.conOk_vac fun γ hf => Abs.sl2_zero (hf _ List.mem_cons_self))
  (fun N M _ hS hL => ra_kslstep N M hS hL)
  (fun N _ hL => ra_ksestep N hL) B (Nat.le_refl _)
noncomputable def ra_kcl (N M : Nat) : Nat → Abs.Fact := fun i => ([
  .rel "out" false Abs.pOut [(.var 9), (.a1 .len (.var 3))],
  .tr (.a2 (.bin .lss) (.var 9) (.a1 .len (.var 3))),
  .rel "copy" false (Abs.pCopy kK kT N (M + 1)) [(.var 3), (.var 10), (.var 8), (.var 9)],
  .rel "term" true (Abs.pTerm kK kT N) [(.a1 (.ld 0) (.a2 .el (.var 3) (.var 9))), (.a1 (.ld 1) (.a2 .el (.var 3) (.var 9))), (.a1 (.ld 2) (.a2 .el (.var 3) (.var 9))), (.a1 (.ld 3) (.a2 .el (.var 3) (.var 9)))],
  .rel "out" false Abs.pOut [(.var 9), (.var 8)],
  .rel "cop" false (Abs.pCop kK kT) [(.a1 (.ld 3) (.a2 .el (.var 3) (.var 9))), (.var 16)],
  .rel "hole" false (Abs.pHole 4) [(.var 10), (.var 9)],
  .rel "copy" true (Abs.pCopy kK kT N M) [(.var 3), (.a3 (.up 4 3) (.a3 (.up 4 2) (.a3 (.up 4 1) (.a3 (.up 4 0) (.var 10) (.var 9) (.a1 (.ld 0) (.a2 .el (.var 3) (.var 9)))) (.var 9) (.a1 (.ld 1) (.a2 .el (.var 3) (.var 9)))) (.var 9) (.a1 (.ld 2) (.a2 .el (.var 3) (.var 9)))) (.var 9) (.var 16)), (.var 8), (.a2 (.bin .add) (.var 9) (.int .i64 (.ofNat 1)))],
  .rel "cop" true (Abs.pCop kK kT) [(.var 3), (.var 17)],
  .rel "cop" false (Abs.pCop kK kT) [(.var 3), (.var 17)],
  .rel "short" false (Abs.pShort 4) [(.var 10), (.var 8)],
  .fl (.a2 (.bin .lss) (.var 9) (.a1 .len (.var 3))),
  .rel "cop" true (Abs.pCop kK kT) [(.var 3), (.var 15)],
  .rel "frz" false (Abs.pFrz kT 4) [(.var 15), (.var 10), (.var 8)]] : List Abs.Fact).getD i (.tr (.bool true))
noncomputable def ra_kclR : List (List Nat) := [[0, 1, 2], [3, 1, 2], [4, 5, 1, 2], [6, 5, 1, 2], [7, 5, 1, 2], [8, 9, 5, 1, 2], [10, 11, 2], [12, 13, 11, 2]]
set_option maxRecDepth 100000 in
theorem ra_kclrun (N M : Nat) (tl : List Deferred) : Abs.R.res (fun _ => true) ((Abs.runF (Abs.mkCtx Tryz.prog (fun _ => false) [] [] [Abs.conCopyL Tryz.prog kU kA "copy" (Abs.pCopy kK kT N M) (Abs.pCop kK kT), Abs.conCopy Tryz.prog kU kA "term" (Abs.pTerm kK kT N) (Abs.pCop kK kT)]) 1000000 ((Abs.conCopyL Tryz.prog kU kA "copy" (Abs.pCopy kK kT N (M + 1)) (Abs.pCop kK kT)).fi tl) (Abs.conCopyL Tryz.prog kU kA "copy" (Abs.pCopy kK kT N (M + 1)) (Abs.pCop kK kT)).tr (Abs.conCopyL Tryz.prog kU kA "copy" (Abs.pCopy kK kT N (M + 1)) (Abs.pCop kK kT)).todo [] .run none (Abs.conCopyL Tryz.prog kU kA "copy" (Abs.pCopy kK kT N (M + 1)) (Abs.pCop kK kT)).S).bind (Abs.conLook (Abs.mkCtx Tryz.prog (fun _ => false) [] [] [Abs.conCopyL Tryz.prog kU kA "copy" (Abs.pCopy kK kT N M) (Abs.pCop kK kT), Abs.conCopy Tryz.prog kU kA "term" (Abs.pTerm kK kT N) (Abs.pCop kK kT)]) (Abs.conCopyL Tryz.prog kU kA "copy" (Abs.pCopy kK kT N (M + 1)) (Abs.pCop kK kT)))) = some (ra_kclR.map fun r => r.map (ra_kcl N M)) := by kernel_rfl
noncomputable def ra_kce (N : Nat) : Nat → Abs.Fact := fun i => ([
  .rel "cop" true (Abs.pCop kK kT) [(.var 3), (.a1 (.ns 24 4) (.bool true))],
  .tr (.a2 (.bin .eql) (.a1 .len (.var 3)) (.int .i64 (.ofNat 0))),
  .rel "term" false (Abs.pTerm kK kT (N + 1)) [(.var 0), (.var 1), (.var 2), (.var 3)],
  .rel "make" false (Abs.pMake 56) [(.a1 .len (.var 3))],
  .fl (.a2 (.bin .eql) (.a1 .len (.var 3)) (.int .i64 (.ofNat 0))),
  .rel "copy" true (Abs.pCopy kK kT N (N + 1)) [(.var 3), (.a1 (.zs [(.int .i64), (.int .i64), .str, (.sl 24)] [0, 0, 0, 4]) (.a1 .len (.var 3))), (.a1 .len (.var 3)), (.int .i64 (.ofNat 0))],
  .rel "cop" true (Abs.pCop kK kT) [(.var 3), (.var 8)],
  .rel "cop" false (Abs.pCop kK kT) [(.var 3), (.var 8)]] : List Abs.Fact).getD i (.tr (.bool true))
noncomputable def ra_kceR : List (List Nat) := [[0, 1, 2], [3, 4, 2], [5, 4, 2], [6, 7, 4, 2]]
set_option maxRecDepth 100000 in
theorem ra_kcerun (N : Nat) (tl : List Deferred) : Abs.R.res (fun _ => true) ((Abs.runF (Abs.mkCtx Tryz.prog (fun _ => false) [] [] [Abs.conCopyL Tryz.prog kU kA "copy" (Abs.pCopy kK kT N (N + 1)) (Abs.pCop kK kT)]) 1000000 ((Abs.conCopy Tryz.prog kU kA "term" (Abs.pTerm kK kT (N + 1)) (Abs.pCop kK kT)).fi tl) (Abs.conCopy Tryz.prog kU kA "term" (Abs.pTerm kK kT (N + 1)) (Abs.pCop kK kT)).tr (Abs.conCopy Tryz.prog kU kA "term" (Abs.pTerm kK kT (N + 1)) (Abs.pCop kK kT)).todo [] .run none (Abs.conCopy Tryz.prog kU kA "term" (Abs.pTerm kK kT (N + 1)) (Abs.pCop kK kT)).S).bind (Abs.conLook (Abs.mkCtx Tryz.prog (fun _ => false) [] [] [Abs.conCopyL Tryz.prog kU kA "copy" (Abs.pCopy kK kT N (N + 1)) (Abs.pCop kK kT)]) (Abs.conCopy Tryz.prog kU kA "term" (Abs.pTerm kK kT (N + 1)) (Abs.pCop kK kT)))) = some (ra_kceR.map fun r => r.map (ra_kce N)) := by kernel_rfl
theorem ra_kclstep {N : Nat} (hN : N ≤ 1073741824) (M : Nat) (hS : Abs.ConOk Tryz.prog (Abs.conCopy Tryz.prog kU kA "term" (Abs.pTerm kK kT N) (Abs.pCop kK kT))) (hL : Abs.ConOk Tryz.prog (Abs.conCopyL Tryz.prog kU kA "copy" (Abs.pCopy kK kT N M) (Abs.pCop kK kT))) : Abs.ConOk Tryz.prog (Abs.conCopyL Tryz.prog kU kA "copy" (Abs.pCopy kK kT N (M + 1)) (Abs.pCop kK kT)) := Abs.con_of (Abs.good_ofK (fun c h => by cases h with | head => exact hL | tail _ h => cases h with | head => exact hS | tail _ h => cases h) (fun _ h => by cases h) ra_absValid ra_absNum (Abs.ext_of ra_absExt)) ra_absMixed _ 1000000 (ra_kclrun N M)
  (Abs.unsats_of (F := ra_kcl N M) (pats := [[0, 1, 2], [3, 1, 2], [4, 1, 2], [6, 1, 2], [7, 5, 1, 2], [8, 9], [10, 2], [12, 13, 11, 2]]) (fun p hp γ h => by
    simp only [List.mem_cons, List.not_mem_nil, or_false] at hp
    rcases hp with rfl | rfl | rfl | rfl | rfl | rfl | rfl | rfl
    · exact Abs.copy_out (h 2 (by simp)) (h 1 (by simp)) (h 0 (by simp))
    · exact Abs.copy_term kHK (h 2 (by simp)) (h 1 (by simp)) (h 3 (by simp))
    · exact Abs.copy_out2 (h 2 (by simp)) (h 1 (by simp)) (h 4 (by simp))
    · exact Abs.copy_hole (h 2 (by simp)) (h 1 (by simp)) (h 6 (by simp))
    · exact Abs.copy_next kHK hN (h 2 (by simp)) (h 1 (by simp)) (h 5 (by simp)) (h 7 (by simp))
    · exact (h 8 (by simp)) (h 9 (by simp))
    · exact Abs.copy_short (h 2 (by simp)) (h 10 (by simp))
    · exact Abs.copy_end kHK (h 2 (by simp)) (h 11 (by simp)) (h 13 (by simp)) (h 12 (by simp))) (by kernel_rfl))
theorem ra_kcestep {N : Nat} (hN : N + 1 ≤ 1073741824) (hL : Abs.ConOk Tryz.prog (Abs.conCopyL Tryz.prog kU kA "copy" (Abs.pCopy kK kT N (N + 1)) (Abs.pCop kK kT))) : Abs.ConOk Tryz.prog (Abs.conCopy Tryz.prog kU kA "term" (Abs.pTerm kK kT (N + 1)) (Abs.pCop kK kT)) := Abs.con_of (Abs.good_ofK (fun c h => by cases h with | head => exact hL | tail _ h => cases h) (fun _ h => by cases h) ra_absValid ra_absNum (Abs.ext_of ra_absExt)) ra_absMixed _ 1000000 (ra_kcerun N)
  (Abs.unsats_of (F := ra_kce N) (pats := [[0, 2], [3, 2], [5, 2], [6, 7]]) (fun p hp γ h => by
    simp only [List.mem_cons, List.not_mem_nil, or_false] at hp
    rcases hp with rfl | rfl | rfl | rfl
    · exact Abs.copy_none kHK (h 2 (by simp)) (h 0 (by simp))
    · exact Abs.term_make kHK hN (by omega) (h 2 (by simp)) (h 3 (by simp))
    · exact Abs.term_copy kHK (h 2 (by simp)) (h 5 (by simp))
    · exact (h 6 (by simp)) (h 7 (by simp))) (by kernel_rfl))
set_option maxRecDepth 100000 in
theorem ra_kdok : ∀ B, B ≤ 1073741824 → Abs.ConOk Tryz.prog (Abs.conCopy Tryz.prog kU kA "term" (Abs.pTerm kK kT B) (Abs.pCop kK kT)) := Abs.two_all (cS := fun N => Abs.conCopy Tryz.prog kU kA "term" (Abs.pTerm kK kT N) (Abs.pCop kK kT)) (cL := fun N M => Abs.conCopyL Tryz.prog kU kA "copy" (Abs.pCopy kK kT N M) (Abs.pCop kK kT)) (B := 1073741824) (Abs.conOk_vac fun γ hf => Abs.term_zero (hf _ List.mem_cons_self)) (fun N => Abs.conOk_vac fun γ hf => Abs.copy_zero (hf _ List.mem_cons_self))
  (fun N M hN hS hL => ra_kclstep hN M hS hL)
  (fun N hN hL => ra_kcestep hN hL)
noncomputable def ra_C (N : Nat) : Abs.Ctx := Abs.mkCtx Tryz.prog (fun _ => false) [] [] [Abs.conCheck1 Tryz.prog kU (Abs.pTerm kK kT kB), Abs.conSize Tryz.prog kU kA "terms" (Abs.pTerm kK kT (N + 1)) Abs.pMost (Abs.pSz kT), Abs.conCopy Tryz.prog kU kA "term" (Abs.pTerm kK kT kB) (Abs.pCop kK kT)]
theorem ra_good (N : Nat) : Abs.Good (ra_C N) := (Abs.good_ofK (fun c h => by cases h with | head => exact ra_kcok | tail _ h => cases h with | head => exact ra_ksok (N + 1) | tail _ h => cases h with | head => exact ra_kdok kB (of_decide_eq_true (by kernel_rfl)) | tail _ h => cases h) (fun _ h => by cases h) ra_absValid ra_absNum (Abs.ext_of ra_absExt))
end Go.Proofs.YtnkjhomdkpghlaaGreat
