/- Contracts of term.Check, tenurekit.size, term.Copy, tenurekit.SameTerms, and of their loops: by induction over what is left, each step by a run of the abstract machine in the kernel. No condition. -/
import Derived.Test.YtkgnlfmfenmihaaGreatDoorRows
import Derived.Test.YtkgnlfmfenmihaaGreatDoorAbs7
namespace Go.Proofs.YtkgnlfmfenmihaaGreatDoor
set_option maxRecDepth 100000
section
variable {γ : Abs.G} {x : Abs.SE} {a : Int} (c : Int)
theorem tE (h : (Abs.Fact.tr (.a2 (.bin .eql) x (.int .i64 c))).holds γ) (e : Abs.seG γ x = some (.val (.int .i64 a))) : a = c := Abs.c_tr_eql h e
theorem fE (h : (Abs.Fact.fl (.a2 (.bin .eql) x (.int .i64 c))).holds γ) (e : Abs.seG γ x = some (.val (.int .i64 a))) : a ≠ c := Abs.c_fl_eql h e
theorem tL (h : (Abs.Fact.tr (.a2 (.bin .leq) x (.int .i64 c))).holds γ) (e : Abs.seG γ x = some (.val (.int .i64 a))) : a ≤ c := Abs.c_tr_leq h e
theorem fL (h : (Abs.Fact.fl (.a2 (.bin .leq) x (.int .i64 c))).holds γ) (e : Abs.seG γ x = some (.val (.int .i64 a))) : ¬ a ≤ c := Abs.c_fl_leq h e
theorem tG (h : (Abs.Fact.tr (.a2 (.bin .geq) x (.int .i64 c))).holds γ) (e : Abs.seG γ x = some (.val (.int .i64 a))) : c ≤ a := Abs.c_tr_geq h e
theorem fG (h : (Abs.Fact.fl (.a2 (.bin .geq) x (.int .i64 c))).holds γ) (e : Abs.seG γ x = some (.val (.int .i64 a))) : ¬ c ≤ a := Abs.c_fl_geq h e
end
theorem tS {γ : Abs.G} {x : Abs.SE} {s : ByteArray} (h : (Abs.Fact.tr (.a2 (.bin .eql) x (.str []))).holds γ) (e : Abs.seG γ x = some (.val (.string s))) : s.size = 0 := Abs.c_tr_str h e
theorem fS {γ : Abs.G} {x : Abs.SE} {s : ByteArray} (h : (Abs.Fact.fl (.a2 (.bin .eql) x (.str []))).holds γ) (e : Abs.seG γ x = some (.val (.string s))) : s.size ≠ 0 := Abs.c_fl_str h e
noncomputable abbrev X0 : Abs.SE := .a2 (.bin .sub) (.var 13) (.int .i64 (.ofNat 1))
noncomputable abbrev X1 : Abs.SE := .a2 .el (.var 15) (.var 16)
noncomputable abbrev Y2 : Abs.SE := .a2 (.at 4 0) (.var 15) X0
noncomputable abbrev Y3 : Abs.SE := .a2 (.at 4 3) (.var 15) X0
noncomputable abbrev Y4 : Abs.SE := .a2 (.at 4 1) (.var 15) X0
noncomputable def kU : Abs.NumC := ⟨56, 152, 193, 22, 24, 3, 28, 7, 17, 38, 19⟩
noncomputable def kA : Abs.NumA := ⟨15, 43, 39, 35, 60⟩
noncomputable def kK : TypeId → List Abs.Kd := Abs.j0a (Abs.j1i Tryz.prog (fun _ => false) [])
noncomputable def kT : TypeId := 24
noncomputable def kB : Nat := 1000
theorem kHB : kB ≤ 1000000 := of_decide_eq_true (by kernel_rfl)
theorem kHB2 : kB ≤ 60000 := of_decide_eq_true (by kernel_rfl)
theorem kHK : kK kT = [.int .i64, .int .i64, .str, .sl kT] := by kernel_rfl
noncomputable def j1u : List (FuncId × Abs.Ext) := []
theorem j3e : Abs.ExtOk Tryz.prog j1u := trivial
theorem j0l : Abs.validB Tryz.prog = true := by kernel_rfl
theorem j0t : Abs.noNumL Tryz.prog.funcs.toList = true := by kernel_rfl
theorem j0k : Tryz.prog.follows .mixedOrders = true := by kernel_rfl
noncomputable def ec_kb (N M : Nat) : Nat → Abs.Fact := fun i => ([
  .rel "out" false Abs.pOut [(.var 16), (.a1 .len (.var 15))],
  .tr (.a2 (.bin .geq) (.var 16) (.int .i64 (.ofNat 0))),
  .rel "back" false (Abs.j4k kK kT (N + 1) M) [(.var 12), (.var 14), (.var 15), (.var 16)],
  .rel "grow" false (Abs.pGrow 4 56 1) [(.var 14), (.var 12)],
  .rel "back" true (Abs.j4k kK kT N M) [(.a2 (.bin .add) (.var 12) (.int .i64 (.ofNat 1))), (.a2 .sn (.a2 .sn (.a2 .sn (.a2 .sn (.a2 (.tk 4) (.var 14) (.var 12)) (.a1 (.ld 0) X1)) (.a1 (.ld 1) X1)) (.a1 (.ld 2) X1)) (.a1 (.ld 3) X1)), (.var 15), (.a2 (.bin .sub) (.var 16) (.int .i64 (.ofNat 1)))],
  .inr (.var 12) (.a2 (.bin .add) (.var 12) (.int .i64 (.ofNat 1))),
  .rel "left" true (Abs.j0q kK kT M) [(.var 22), (.var 24)],
  .rel "left" false (Abs.j0q kK kT M) [(.var 22), (.var 24)],
  .rel "app" false (Abs.pApp kK kT) [(.var 22), (.var 24), (.a2 (.bin .add) (.var 12) (.int .i64 (.ofNat 1))), (.a2 .sn (.a2 .sn (.a2 .sn (.a2 .sn (.a2 (.tk 4) (.var 14) (.var 12)) (.a1 (.ld 0) X1)) (.a1 (.ld 1) X1)) (.a1 (.ld 2) X1)) (.a1 (.ld 3) X1)), (.var 15), (.a2 (.bin .sub) (.var 16) (.int .i64 (.ofNat 1)))],
  .rel "app" true (Abs.pApp kK kT) [(.var 22), (.var 24), (.var 12), (.var 14), (.var 15), (.var 16)],
  .rel "left" true (Abs.j0q kK kT M) [(.var 21), (.var 23)],
  .rel "left" false (Abs.j0q kK kT M) [(.var 21), (.var 23)],
  .rel "app" false (Abs.pApp kK kT) [(.var 21), (.var 23), (.a2 (.bin .add) (.var 12) (.int .i64 (.ofNat 1))), (.a2 .sn (.a2 .sn (.a2 .sn (.a2 .sn (.a2 (.tk 4) (.var 14) (.var 12)) (.a1 (.ld 0) X1)) (.a1 (.ld 1) X1)) (.a1 (.ld 2) X1)) (.a1 (.ld 3) X1)), (.var 15), (.a2 (.bin .sub) (.var 16) (.int .i64 (.ofNat 1)))],
  .rel "app" true (Abs.pApp kK kT) [(.var 21), (.var 23), (.var 12), (.var 14), (.var 15), (.var 16)],
  .rel "left" true (Abs.j0q kK kT M) [(.var 12), (.var 14)],
  .fl (.a2 (.bin .geq) (.var 16) (.int .i64 (.ofNat 0))),
  .rel "app" true (Abs.pApp kK kT) [(.var 12), (.var 14), (.var 12), (.var 14), (.var 15), (.var 16)]] : List Abs.Fact).getD i (.tr (.bool true))
noncomputable def ec_kbR : List (List Nat) := [[0, 1, 2], [3, 1, 2], [4, 5, 1, 2], [6, 7, 8, 5, 1, 2], [9, 7, 8, 5, 1, 2], [10, 11, 12, 5, 1, 2], [13, 11, 12, 5, 1, 2], [14, 15, 2], [16, 15, 2]]
theorem ec_kbrun (N M : Nat) (tl : List Deferred) : Abs.R.res (fun _ => true) ((Abs.runF (Abs.j1i Tryz.prog (fun _ => false) j1u [] [Abs.j2o Tryz.prog kU "back" (Abs.j4k kK kT N M) (Abs.j0q kK kT M) (Abs.pApp kK kT)]) 1000000 ((Abs.j2o Tryz.prog kU "back" (Abs.j4k kK kT (N + 1) M) (Abs.j0q kK kT M) (Abs.pApp kK kT)).fi tl) (Abs.j2o Tryz.prog kU "back" (Abs.j4k kK kT (N + 1) M) (Abs.j0q kK kT M) (Abs.pApp kK kT)).tr (Abs.j2o Tryz.prog kU "back" (Abs.j4k kK kT (N + 1) M) (Abs.j0q kK kT M) (Abs.pApp kK kT)).todo [] .run none (Abs.j2o Tryz.prog kU "back" (Abs.j4k kK kT (N + 1) M) (Abs.j0q kK kT M) (Abs.pApp kK kT)).S).bind (Abs.conLook (Abs.j1i Tryz.prog (fun _ => false) j1u [] [Abs.j2o Tryz.prog kU "back" (Abs.j4k kK kT N M) (Abs.j0q kK kT M) (Abs.pApp kK kT)]) (Abs.j2o Tryz.prog kU "back" (Abs.j4k kK kT (N + 1) M) (Abs.j0q kK kT M) (Abs.pApp kK kT)))) = some (ec_kbR.map fun r => r.map (ec_kb N M)) := by kernel_rfl
theorem ec_kbstep {M : Nat} (hM : M ≤ 1073741824) (N : Nat) (hc : Abs.j1w Tryz.prog (Abs.j2o Tryz.prog kU "back" (Abs.j4k kK kT N M) (Abs.j0q kK kT M) (Abs.pApp kK kT))) : Abs.j1w Tryz.prog (Abs.j2o Tryz.prog kU "back" (Abs.j4k kK kT (N + 1) M) (Abs.j0q kK kT M) (Abs.pApp kK kT)) := Abs.con_of (Abs.j3g (fun c h => by cases h with | head => exact hc | tail _ h => cases h) (fun _ h => by cases h) j0l j0t (Abs.j3p j3e)) j0k _ 1000000 (ec_kbrun N M)
  (Abs.j2q (F := ec_kb N M) (pats := [[0, 1, 2], [3, 2], [4, 1, 2], [6, 7], [9, 8, 1, 2], [10, 11], [13, 12, 1, 2], [14, 2], [16, 15, 2]]) (fun p hp γ h => by
    have H := Abs.mem_of h
    simp only [List.mem_cons, List.not_mem_nil, or_false] at hp
    rcases hp with rfl | rfl | rfl | rfl | rfl | rfl | rfl | rfl | rfl
    · exact Abs.back_out (H 2 rfl) (H 1 rfl) (H 0 rfl)
    · exact Abs.back_grow hM (by omega) (H 2 rfl) (H 3 rfl)
    · exact Abs.back_next kHK hM (H 2 rfl) (H 1 rfl) (H 4 rfl)
    · exact (H 6 rfl) (H 7 rfl)
    · exact Abs.app_next kHK hM (H 2 rfl) (H 1 rfl) (H 8 rfl) (H 9 rfl)
    · exact (H 10 rfl) (H 11 rfl)
    · exact Abs.app_next kHK hM (H 2 rfl) (H 1 rfl) (H 12 rfl) (H 13 rfl)
    · exact Abs.back_end (H 2 rfl) (H 14 rfl)
    · exact Abs.app_end (H 2 rfl) (H 15 rfl) (H 16 rfl)) (by kernel_rfl))
theorem ec_kbok {M : Nat} (hM : M ≤ 1073741824) (N : Nat) : Abs.j1w Tryz.prog (Abs.j2o Tryz.prog kU "back" (Abs.j4k kK kT N M) (Abs.j0q kK kT M) (Abs.pApp kK kT)) := Abs.one_all (c := fun N => Abs.j2o Tryz.prog kU "back" (Abs.j4k kK kT N M) (Abs.j0q kK kT M) (Abs.pApp kK kT)) (B := N) (Abs.j4m fun γ hf => Abs.back_zero (hf _ List.mem_cons_self)) (fun n _ h => ec_kbstep hM n h) N (Nat.le_refl _)
noncomputable def ec_kp (N : Nat) : Nat → Abs.Fact := fun i => ([
  .rel "out" false Abs.pOut [X0, (.var 13)],
  .tr (.a2 (.bin .gtr) (.var 13) (.int .i64 (.ofNat 0))),
  .rel "parts" false (Abs.j0q kK kT (N + 1)) [(.var 13), (.var 15)],
  .rel "hole" false (Abs.pHole 4) [(.var 15), X0],
  .rel "cut" false Abs.pCut [(.int .i64 (.ofNat 0)), X0, (.var 13)],
  .rel "back" true (Abs.j4k kK kT 1073741824 N) [X0, (.var 15), Y3, (.a2 (.bin .sub) (.a1 .len Y3) (.int .i64 (.ofNat 1)))],
  .tr (.a2 (.bin .eql) (.a1 .len Y3) (.int .i64 (.ofNat 0))),
  .tr (.a2 (.bin .eql) (.a2 (.at 4 2) (.var 15) X0) (.str [])),
  .tr (.a2 (.bin .leq) Y4 (.int .i64 (.ofNat 576460752303423487))),
  .tr (.a2 (.bin .geq) Y4 (.int .i64 (.negSucc 576460752303423487))),
  .tr (.a2 (.bin .eql) Y2 (.int .i64 (.ofNat 1))),
  .rel "parts" true (Abs.j0q kK kT N) [(.var 25), (.var 27)],
  .rel "left" false (Abs.j0q kK kT N) [(.var 25), (.var 27)],
  .rel "app" false (Abs.pApp kK kT) [(.var 25), (.var 27), X0, (.var 15), Y3, (.a2 (.bin .sub) (.a1 .len Y3) (.int .i64 (.ofNat 1)))],
  .rel "snd" true (Abs.pSnd kK kT) [(.var 13), (.var 15)],
  .rel "snd" false (Abs.pSnd kK kT) [(.var 25), (.var 27)],
  .rel "parts" true (Abs.j0q kK kT N) [(.var 24), (.var 26)],
  .rel "left" false (Abs.j0q kK kT N) [(.var 24), (.var 26)],
  .rel "app" false (Abs.pApp kK kT) [(.var 24), (.var 26), X0, (.var 15), Y3, (.a2 (.bin .sub) (.a1 .len Y3) (.int .i64 (.ofNat 1)))],
  .rel "snd" false (Abs.pSnd kK kT) [(.var 24), (.var 26)],
  .tr (.a2 (.bin .leq) (.a1 .len (.a2 (.at 4 2) (.var 15) X0)) (.int .i64 (.ofNat 64))),
  .tr (.a2 (.bin .eql) Y4 (.int .i64 (.ofNat 0))),
  .tr (.a2 (.bin .eql) Y2 (.int .i64 (.ofNat 2))),
  .fl (.a2 (.bin .eql) Y2 (.int .i64 (.ofNat 1))),
  .tr (.a2 (.bin .leq) Y4 (.int .i64 (.ofNat 1073741824))),
  .tr (.a2 (.bin .geq) Y4 (.int .i64 (.ofNat 0))),
  .tr (.a2 (.bin .eql) Y2 (.int .i64 (.ofNat 3))),
  .fl (.a2 (.bin .eql) Y2 (.int .i64 (.ofNat 2))),
  .tr (.a2 (.bin .eql) Y2 (.int .i64 (.ofNat 4))),
  .fl (.a2 (.bin .eql) Y2 (.int .i64 (.ofNat 3))),
  .tr (.a2 (.bin .eql) Y2 (.int .i64 (.ofNat 6))),
  .fl (.a2 (.bin .eql) Y2 (.int .i64 (.ofNat 4))),
  .tr (.a2 (.bin .eql) Y2 (.int .i64 (.ofNat 5))),
  .fl (.a2 (.bin .eql) Y2 (.int .i64 (.ofNat 6))),
  .tr (.a2 (.bin .leq) (.a1 .len Y3) (.int .i64 (.ofNat 64))),
  .fl (.a2 (.bin .eql) (.a1 .len Y3) (.int .i64 (.ofNat 0))),
  .tr (.a2 (.bin .eql) Y2 (.int .i64 (.ofNat 7))),
  .fl (.a2 (.bin .eql) Y2 (.int .i64 (.ofNat 5))),
  .tr (.a2 (.bin .eql) Y2 (.int .i64 (.ofNat 8))),
  .fl (.a2 (.bin .eql) Y2 (.int .i64 (.ofNat 7))),
  .tr (.a2 (.bin .eql) (.a1 .len Y3) (.int .i64 (.ofNat 2))),
  .tr (.a2 (.bin .eql) Y2 (.int .i64 (.ofNat 9))),
  .fl (.a2 (.bin .eql) Y2 (.int .i64 (.ofNat 8))),
  .fl (.a2 (.bin .gtr) (.var 13) (.int .i64 (.ofNat 0)))] : List Abs.Fact).getD i (.tr (.bool true))
noncomputable def ec_kpR : List (List Nat) := [[0, 1, 2], [3, 1, 2], [4, 1, 2], [5, 6, 7, 8, 9, 10, 1, 2], [11, 12, 13, 6, 7, 8, 9, 10, 1, 2], [14, 15, 12, 13, 6, 7, 8, 9, 10, 1, 2], [16, 17, 18, 6, 7, 8, 9, 10, 1, 2], [14, 19, 17, 18, 6, 7, 8, 9, 10, 1, 2], [5, 6, 20, 21, 22, 23, 1, 2], [11, 12, 13, 6, 20, 21, 22, 23, 1, 2], [14, 15, 12, 13, 6, 20, 21, 22, 23, 1, 2], [16, 17, 18, 6, 20, 21, 22, 23, 1, 2], [14, 19, 17, 18, 6, 20, 21, 22, 23, 1, 2], [5, 6, 7, 24, 25, 26, 27, 23, 1, 2], [11, 12, 13, 6, 7, 24, 25, 26, 27, 23, 1, 2], [14, 15, 12, 13, 6, 7, 24, 25, 26, 27, 23, 1, 2], [16, 17, 18, 6, 7, 24, 25, 26, 27, 23, 1, 2], [14, 19, 17, 18, 6, 7, 24, 25, 26, 27, 23, 1, 2], [5, 6, 7, 24, 25, 28, 29, 27, 23, 1, 2], [11, 12, 13, 6, 7, 24, 25, 28, 29, 27, 23, 1, 2], [14, 15, 12, 13, 6, 7, 24, 25, 28, 29, 27, 23, 1, 2], [16, 17, 18, 6, 7, 24, 25, 28, 29, 27, 23, 1, 2], [14, 19, 17, 18, 6, 7, 24, 25, 28, 29, 27, 23, 1, 2], [5, 6, 7, 24, 25, 30, 31, 29, 27, 23, 1, 2], [11, 12, 13, 6, 7, 24, 25, 30, 31, 29, 27, 23, 1, 2], [14, 15, 12, 13, 6, 7, 24, 25, 30, 31, 29, 27, 23, 1, 2], [16, 17, 18, 6, 7, 24, 25, 30, 31, 29, 27, 23, 1, 2], [14, 19, 17, 18, 6, 7, 24, 25, 30, 31, 29, 27, 23, 1, 2], [5, 6, 7, 24, 25, 32, 33, 31, 29, 27, 23, 1, 2], [11, 12, 13, 6, 7, 24, 25, 32, 33, 31, 29, 27, 23, 1, 2], [14, 15, 12, 13, 6, 7, 24, 25, 32, 33, 31, 29, 27, 23, 1, 2], [16, 17, 18, 6, 7, 24, 25, 32, 33, 31, 29, 27, 23, 1, 2], [14, 19, 17, 18, 6, 7, 24, 25, 32, 33, 31, 29, 27, 23, 1, 2], [5, 34, 35, 7, 24, 25, 32, 33, 31, 29, 27, 23, 1, 2], [11, 12, 13, 34, 35, 7, 24, 25, 32, 33, 31, 29, 27, 23, 1, 2], [14, 15, 12, 13, 34, 35, 7, 24, 25, 32, 33, 31, 29, 27, 23, 1, 2], [16, 17, 18, 34, 35, 7, 24, 25, 32, 33, 31, 29, 27, 23, 1, 2], [14, 19, 17, 18, 34, 35, 7, 24, 25, 32, 33, 31, 29, 27, 23, 1, 2], [5, 34, 7, 21, 36, 37, 33, 31, 29, 27, 23, 1, 2], [11, 12, 13, 34, 7, 21, 36, 37, 33, 31, 29, 27, 23, 1, 2], [14, 15, 12, 13, 34, 7, 21, 36, 37, 33, 31, 29, 27, 23, 1, 2], [16, 17, 18, 34, 7, 21, 36, 37, 33, 31, 29, 27, 23, 1, 2], [14, 19, 17, 18, 34, 7, 21, 36, 37, 33, 31, 29, 27, 23, 1, 2], [5, 6, 7, 21, 38, 39, 37, 33, 31, 29, 27, 23, 1, 2], [11, 12, 13, 6, 7, 21, 38, 39, 37, 33, 31, 29, 27, 23, 1, 2], [14, 15, 12, 13, 6, 7, 21, 38, 39, 37, 33, 31, 29, 27, 23, 1, 2], [16, 17, 18, 6, 7, 21, 38, 39, 37, 33, 31, 29, 27, 23, 1, 2], [14, 19, 17, 18, 6, 7, 21, 38, 39, 37, 33, 31, 29, 27, 23, 1, 2], [5, 40, 7, 21, 41, 42, 39, 37, 33, 31, 29, 27, 23, 1, 2], [11, 12, 13, 40, 7, 21, 41, 42, 39, 37, 33, 31, 29, 27, 23, 1, 2], [14, 15, 12, 13, 40, 7, 21, 41, 42, 39, 37, 33, 31, 29, 27, 23, 1, 2], [16, 17, 18, 40, 7, 21, 41, 42, 39, 37, 33, 31, 29, 27, 23, 1, 2], [14, 19, 17, 18, 40, 7, 21, 41, 42, 39, 37, 33, 31, 29, 27, 23, 1, 2], [14, 43, 2]]
theorem ec_kprun (N : Nat) (tl : List Deferred) : Abs.R.res (fun _ => true) ((Abs.runF (Abs.j1i Tryz.prog (fun _ => false) j1u [] [Abs.j2e Tryz.prog kU "parts" (Abs.j0q kK kT N) (Abs.pSnd kK kT), Abs.j2o Tryz.prog kU "back" (Abs.j4k kK kT 1073741824 N) (Abs.j0q kK kT N) (Abs.pApp kK kT)]) 1000000 ((Abs.j2e Tryz.prog kU "parts" (Abs.j0q kK kT (N + 1)) (Abs.pSnd kK kT)).fi tl) (Abs.j2e Tryz.prog kU "parts" (Abs.j0q kK kT (N + 1)) (Abs.pSnd kK kT)).tr (Abs.j2e Tryz.prog kU "parts" (Abs.j0q kK kT (N + 1)) (Abs.pSnd kK kT)).todo [] .run none (Abs.j2e Tryz.prog kU "parts" (Abs.j0q kK kT (N + 1)) (Abs.pSnd kK kT)).S).bind (Abs.conLook (Abs.j1i Tryz.prog (fun _ => false) j1u [] [Abs.j2e Tryz.prog kU "parts" (Abs.j0q kK kT N) (Abs.pSnd kK kT), Abs.j2o Tryz.prog kU "back" (Abs.j4k kK kT 1073741824 N) (Abs.j0q kK kT N) (Abs.pApp kK kT)]) (Abs.j2e Tryz.prog kU "parts" (Abs.j0q kK kT (N + 1)) (Abs.pSnd kK kT)))) = some (ec_kpR.map fun r => r.map (ec_kp N)) := by kernel_rfl
theorem ec_kpstep {N : Nat} (hN : N + 1 ≤ 1073741824) (hc : Abs.j1w Tryz.prog (Abs.j2e Tryz.prog kU "parts" (Abs.j0q kK kT N) (Abs.pSnd kK kT))) : Abs.j1w Tryz.prog (Abs.j2e Tryz.prog kU "parts" (Abs.j0q kK kT (N + 1)) (Abs.pSnd kK kT)) := Abs.con_of (Abs.j3g (fun c h => by cases h with | head => exact hc | tail _ h => cases h with | head => exact ec_kbok (by omega) _ | tail _ h => cases h) (fun _ h => by cases h) j0l j0t (Abs.j3p j3e)) j0k _ 1000000 (ec_kprun N)
  (Abs.j2q (F := ec_kp N) (pats := [[0, 1, 2], [3, 1, 2], [4, 1, 2], [5, 1, 2], [11, 12], [14, 15, 13, 1, 2, 6, 7, 8, 9, 10], [16, 17], [14, 19, 18, 1, 2, 6, 7, 8, 9, 10], [14, 15, 13, 1, 2, 6, 20, 21, 22, 23], [14, 19, 18, 1, 2, 6, 20, 21, 22, 23], [14, 15, 13, 1, 2, 6, 7, 24, 25, 26, 27, 23], [14, 19, 18, 1, 2, 6, 7, 24, 25, 26, 27, 23], [14, 15, 13, 1, 2, 6, 7, 24, 25, 28, 29, 27, 23], [14, 19, 18, 1, 2, 6, 7, 24, 25, 28, 29, 27, 23], [14, 15, 13, 1, 2, 6, 7, 24, 25, 30, 31, 29, 27, 23], [14, 19, 18, 1, 2, 6, 7, 24, 25, 30, 31, 29, 27, 23], [14, 15, 13, 1, 2, 6, 7, 24, 25, 32, 33, 31, 29, 27, 23], [14, 19, 18, 1, 2, 6, 7, 24, 25, 32, 33, 31, 29, 27, 23], [14, 15, 13, 1, 2, 34, 35, 7, 24, 25, 32, 33, 31, 29, 27, 23], [14, 19, 18, 1, 2, 34, 35, 7, 24, 25, 32, 33, 31, 29, 27, 23], [14, 15, 13, 1, 2, 34, 7, 21, 36, 37, 33, 31, 29, 27, 23], [14, 19, 18, 1, 2, 34, 7, 21, 36, 37, 33, 31, 29, 27, 23], [14, 15, 13, 1, 2, 6, 7, 21, 38, 39, 37, 33, 31, 29, 27, 23], [14, 19, 18, 1, 2, 6, 7, 21, 38, 39, 37, 33, 31, 29, 27, 23], [14, 15, 13, 1, 2, 40, 7, 21, 41, 42, 39, 37, 33, 31, 29, 27, 23], [14, 19, 18, 1, 2, 40, 7, 21, 41, 42, 39, 37, 33, 31, 29, 27, 23], [14, 43, 2]]) (fun p hp γ h => by
    have H := Abs.mem_of h
    simp only [List.mem_cons, List.not_mem_nil, or_false] at hp
    rcases hp with rfl | rfl | rfl | rfl | rfl | rfl | rfl | rfl | rfl | rfl | rfl | rfl | rfl | rfl | rfl | rfl | rfl | rfl | rfl | rfl | rfl | rfl | rfl | rfl | rfl | rfl | rfl
    · exact Abs.parts_out hN (H 2 rfl) (H 1 rfl) (H 0 rfl)
    · exact Abs.parts_hole hN (H 2 rfl) (H 1 rfl) (H 3 rfl)
    · exact Abs.parts_cut hN (H 2 rfl) (H 1 rfl) (H 4 rfl)
    · exact Abs.parts_back kHK hN (Nat.le_refl _) (H 2 rfl) (H 1 rfl) (H 5 rfl)
    · exact (H 11 rfl) (H 12 rfl)
    · exact Abs.j1j kHK hN (H 2 rfl) (H 1 rfl) (H 13 rfl) (H 15 rfl) (fun k nn str l e0 e1 e2 e3 => by have es := Abs.j0h e2; have q6 := tE 0 (H 6 rfl) e3; have q7 := tS (H 7 rfl) e2; have q8 := tL 576460752303423487 (H 8 rfl) e1; have q9 := tG (-576460752303423488) (H 9 rfl) e1; have q10 := tE 1 (H 10 rfl) e0; unfold Abs.j0m; omega) (H 14 rfl)
    · exact (H 16 rfl) (H 17 rfl)
    · exact Abs.j1j kHK hN (H 2 rfl) (H 1 rfl) (H 18 rfl) (H 19 rfl) (fun k nn str l e0 e1 e2 e3 => by have es := Abs.j0h e2; have q6 := tE 0 (H 6 rfl) e3; have q7 := tS (H 7 rfl) e2; have q8 := tL 576460752303423487 (H 8 rfl) e1; have q9 := tG (-576460752303423488) (H 9 rfl) e1; have q10 := tE 1 (H 10 rfl) e0; unfold Abs.j0m; omega) (H 14 rfl)
    · exact Abs.j1j kHK hN (H 2 rfl) (H 1 rfl) (H 13 rfl) (H 15 rfl) (fun k nn str l e0 e1 e2 e3 => by have es := Abs.j0h e2; have q6 := tE 0 (H 6 rfl) e3; have q20 := tL 64 (H 20 rfl) es; have q21 := tE 0 (H 21 rfl) e1; have q22 := tE 2 (H 22 rfl) e0; have q23 := fE 1 (H 23 rfl) e0; unfold Abs.j0m; omega) (H 14 rfl)
    · exact Abs.j1j kHK hN (H 2 rfl) (H 1 rfl) (H 18 rfl) (H 19 rfl) (fun k nn str l e0 e1 e2 e3 => by have es := Abs.j0h e2; have q6 := tE 0 (H 6 rfl) e3; have q20 := tL 64 (H 20 rfl) es; have q21 := tE 0 (H 21 rfl) e1; have q22 := tE 2 (H 22 rfl) e0; have q23 := fE 1 (H 23 rfl) e0; unfold Abs.j0m; omega) (H 14 rfl)
    · exact Abs.j1j kHK hN (H 2 rfl) (H 1 rfl) (H 13 rfl) (H 15 rfl) (fun k nn str l e0 e1 e2 e3 => by have es := Abs.j0h e2; have q6 := tE 0 (H 6 rfl) e3; have q7 := tS (H 7 rfl) e2; have q24 := tL 1073741824 (H 24 rfl) e1; have q25 := tG 0 (H 25 rfl) e1; have q26 := tE 3 (H 26 rfl) e0; have q27 := fE 2 (H 27 rfl) e0; have q23 := fE 1 (H 23 rfl) e0; unfold Abs.j0m; omega) (H 14 rfl)
    · exact Abs.j1j kHK hN (H 2 rfl) (H 1 rfl) (H 18 rfl) (H 19 rfl) (fun k nn str l e0 e1 e2 e3 => by have es := Abs.j0h e2; have q6 := tE 0 (H 6 rfl) e3; have q7 := tS (H 7 rfl) e2; have q24 := tL 1073741824 (H 24 rfl) e1; have q25 := tG 0 (H 25 rfl) e1; have q26 := tE 3 (H 26 rfl) e0; have q27 := fE 2 (H 27 rfl) e0; have q23 := fE 1 (H 23 rfl) e0; unfold Abs.j0m; omega) (H 14 rfl)
    · exact Abs.j1j kHK hN (H 2 rfl) (H 1 rfl) (H 13 rfl) (H 15 rfl) (fun k nn str l e0 e1 e2 e3 => by have es := Abs.j0h e2; have q6 := tE 0 (H 6 rfl) e3; have q7 := tS (H 7 rfl) e2; have q24 := tL 1073741824 (H 24 rfl) e1; have q25 := tG 0 (H 25 rfl) e1; have q28 := tE 4 (H 28 rfl) e0; have q29 := fE 3 (H 29 rfl) e0; have q27 := fE 2 (H 27 rfl) e0; have q23 := fE 1 (H 23 rfl) e0; unfold Abs.j0m; omega) (H 14 rfl)
    · exact Abs.j1j kHK hN (H 2 rfl) (H 1 rfl) (H 18 rfl) (H 19 rfl) (fun k nn str l e0 e1 e2 e3 => by have es := Abs.j0h e2; have q6 := tE 0 (H 6 rfl) e3; have q7 := tS (H 7 rfl) e2; have q24 := tL 1073741824 (H 24 rfl) e1; have q25 := tG 0 (H 25 rfl) e1; have q28 := tE 4 (H 28 rfl) e0; have q29 := fE 3 (H 29 rfl) e0; have q27 := fE 2 (H 27 rfl) e0; have q23 := fE 1 (H 23 rfl) e0; unfold Abs.j0m; omega) (H 14 rfl)
    · exact Abs.j1j kHK hN (H 2 rfl) (H 1 rfl) (H 13 rfl) (H 15 rfl) (fun k nn str l e0 e1 e2 e3 => by have es := Abs.j0h e2; have q6 := tE 0 (H 6 rfl) e3; have q7 := tS (H 7 rfl) e2; have q24 := tL 1073741824 (H 24 rfl) e1; have q25 := tG 0 (H 25 rfl) e1; have q30 := tE 6 (H 30 rfl) e0; have q31 := fE 4 (H 31 rfl) e0; have q29 := fE 3 (H 29 rfl) e0; have q27 := fE 2 (H 27 rfl) e0; have q23 := fE 1 (H 23 rfl) e0; unfold Abs.j0m; omega) (H 14 rfl)
    · exact Abs.j1j kHK hN (H 2 rfl) (H 1 rfl) (H 18 rfl) (H 19 rfl) (fun k nn str l e0 e1 e2 e3 => by have es := Abs.j0h e2; have q6 := tE 0 (H 6 rfl) e3; have q7 := tS (H 7 rfl) e2; have q24 := tL 1073741824 (H 24 rfl) e1; have q25 := tG 0 (H 25 rfl) e1; have q30 := tE 6 (H 30 rfl) e0; have q31 := fE 4 (H 31 rfl) e0; have q29 := fE 3 (H 29 rfl) e0; have q27 := fE 2 (H 27 rfl) e0; have q23 := fE 1 (H 23 rfl) e0; unfold Abs.j0m; omega) (H 14 rfl)
    · exact Abs.j1j kHK hN (H 2 rfl) (H 1 rfl) (H 13 rfl) (H 15 rfl) (fun k nn str l e0 e1 e2 e3 => by have es := Abs.j0h e2; have q6 := tE 0 (H 6 rfl) e3; have q7 := tS (H 7 rfl) e2; have q24 := tL 1073741824 (H 24 rfl) e1; have q25 := tG 0 (H 25 rfl) e1; have q32 := tE 5 (H 32 rfl) e0; have q33 := fE 6 (H 33 rfl) e0; have q31 := fE 4 (H 31 rfl) e0; have q29 := fE 3 (H 29 rfl) e0; have q27 := fE 2 (H 27 rfl) e0; have q23 := fE 1 (H 23 rfl) e0; unfold Abs.j0m; omega) (H 14 rfl)
    · exact Abs.j1j kHK hN (H 2 rfl) (H 1 rfl) (H 18 rfl) (H 19 rfl) (fun k nn str l e0 e1 e2 e3 => by have es := Abs.j0h e2; have q6 := tE 0 (H 6 rfl) e3; have q7 := tS (H 7 rfl) e2; have q24 := tL 1073741824 (H 24 rfl) e1; have q25 := tG 0 (H 25 rfl) e1; have q32 := tE 5 (H 32 rfl) e0; have q33 := fE 6 (H 33 rfl) e0; have q31 := fE 4 (H 31 rfl) e0; have q29 := fE 3 (H 29 rfl) e0; have q27 := fE 2 (H 27 rfl) e0; have q23 := fE 1 (H 23 rfl) e0; unfold Abs.j0m; omega) (H 14 rfl)
    · exact Abs.j1j kHK hN (H 2 rfl) (H 1 rfl) (H 13 rfl) (H 15 rfl) (fun k nn str l e0 e1 e2 e3 => by have es := Abs.j0h e2; have q34 := tL 64 (H 34 rfl) e3; have q35 := fE 0 (H 35 rfl) e3; have q7 := tS (H 7 rfl) e2; have q24 := tL 1073741824 (H 24 rfl) e1; have q25 := tG 0 (H 25 rfl) e1; have q32 := tE 5 (H 32 rfl) e0; have q33 := fE 6 (H 33 rfl) e0; have q31 := fE 4 (H 31 rfl) e0; have q29 := fE 3 (H 29 rfl) e0; have q27 := fE 2 (H 27 rfl) e0; have q23 := fE 1 (H 23 rfl) e0; unfold Abs.j0m; omega) (H 14 rfl)
    · exact Abs.j1j kHK hN (H 2 rfl) (H 1 rfl) (H 18 rfl) (H 19 rfl) (fun k nn str l e0 e1 e2 e3 => by have es := Abs.j0h e2; have q34 := tL 64 (H 34 rfl) e3; have q35 := fE 0 (H 35 rfl) e3; have q7 := tS (H 7 rfl) e2; have q24 := tL 1073741824 (H 24 rfl) e1; have q25 := tG 0 (H 25 rfl) e1; have q32 := tE 5 (H 32 rfl) e0; have q33 := fE 6 (H 33 rfl) e0; have q31 := fE 4 (H 31 rfl) e0; have q29 := fE 3 (H 29 rfl) e0; have q27 := fE 2 (H 27 rfl) e0; have q23 := fE 1 (H 23 rfl) e0; unfold Abs.j0m; omega) (H 14 rfl)
    · exact Abs.j1j kHK hN (H 2 rfl) (H 1 rfl) (H 13 rfl) (H 15 rfl) (fun k nn str l e0 e1 e2 e3 => by have es := Abs.j0h e2; have q34 := tL 64 (H 34 rfl) e3; have q7 := tS (H 7 rfl) e2; have q21 := tE 0 (H 21 rfl) e1; have q36 := tE 7 (H 36 rfl) e0; have q37 := fE 5 (H 37 rfl) e0; have q33 := fE 6 (H 33 rfl) e0; have q31 := fE 4 (H 31 rfl) e0; have q29 := fE 3 (H 29 rfl) e0; have q27 := fE 2 (H 27 rfl) e0; have q23 := fE 1 (H 23 rfl) e0; unfold Abs.j0m; omega) (H 14 rfl)
    · exact Abs.j1j kHK hN (H 2 rfl) (H 1 rfl) (H 18 rfl) (H 19 rfl) (fun k nn str l e0 e1 e2 e3 => by have es := Abs.j0h e2; have q34 := tL 64 (H 34 rfl) e3; have q7 := tS (H 7 rfl) e2; have q21 := tE 0 (H 21 rfl) e1; have q36 := tE 7 (H 36 rfl) e0; have q37 := fE 5 (H 37 rfl) e0; have q33 := fE 6 (H 33 rfl) e0; have q31 := fE 4 (H 31 rfl) e0; have q29 := fE 3 (H 29 rfl) e0; have q27 := fE 2 (H 27 rfl) e0; have q23 := fE 1 (H 23 rfl) e0; unfold Abs.j0m; omega) (H 14 rfl)
    · exact Abs.j1j kHK hN (H 2 rfl) (H 1 rfl) (H 13 rfl) (H 15 rfl) (fun k nn str l e0 e1 e2 e3 => by have es := Abs.j0h e2; have q6 := tE 0 (H 6 rfl) e3; have q7 := tS (H 7 rfl) e2; have q21 := tE 0 (H 21 rfl) e1; have q38 := tE 8 (H 38 rfl) e0; have q39 := fE 7 (H 39 rfl) e0; have q37 := fE 5 (H 37 rfl) e0; have q33 := fE 6 (H 33 rfl) e0; have q31 := fE 4 (H 31 rfl) e0; have q29 := fE 3 (H 29 rfl) e0; have q27 := fE 2 (H 27 rfl) e0; have q23 := fE 1 (H 23 rfl) e0; unfold Abs.j0m; omega) (H 14 rfl)
    · exact Abs.j1j kHK hN (H 2 rfl) (H 1 rfl) (H 18 rfl) (H 19 rfl) (fun k nn str l e0 e1 e2 e3 => by have es := Abs.j0h e2; have q6 := tE 0 (H 6 rfl) e3; have q7 := tS (H 7 rfl) e2; have q21 := tE 0 (H 21 rfl) e1; have q38 := tE 8 (H 38 rfl) e0; have q39 := fE 7 (H 39 rfl) e0; have q37 := fE 5 (H 37 rfl) e0; have q33 := fE 6 (H 33 rfl) e0; have q31 := fE 4 (H 31 rfl) e0; have q29 := fE 3 (H 29 rfl) e0; have q27 := fE 2 (H 27 rfl) e0; have q23 := fE 1 (H 23 rfl) e0; unfold Abs.j0m; omega) (H 14 rfl)
    · exact Abs.j1j kHK hN (H 2 rfl) (H 1 rfl) (H 13 rfl) (H 15 rfl) (fun k nn str l e0 e1 e2 e3 => by have es := Abs.j0h e2; have q40 := tE 2 (H 40 rfl) e3; have q7 := tS (H 7 rfl) e2; have q21 := tE 0 (H 21 rfl) e1; have q41 := tE 9 (H 41 rfl) e0; have q42 := fE 8 (H 42 rfl) e0; have q39 := fE 7 (H 39 rfl) e0; have q37 := fE 5 (H 37 rfl) e0; have q33 := fE 6 (H 33 rfl) e0; have q31 := fE 4 (H 31 rfl) e0; have q29 := fE 3 (H 29 rfl) e0; have q27 := fE 2 (H 27 rfl) e0; have q23 := fE 1 (H 23 rfl) e0; unfold Abs.j0m; omega) (H 14 rfl)
    · exact Abs.j1j kHK hN (H 2 rfl) (H 1 rfl) (H 18 rfl) (H 19 rfl) (fun k nn str l e0 e1 e2 e3 => by have es := Abs.j0h e2; have q40 := tE 2 (H 40 rfl) e3; have q7 := tS (H 7 rfl) e2; have q21 := tE 0 (H 21 rfl) e1; have q41 := tE 9 (H 41 rfl) e0; have q42 := fE 8 (H 42 rfl) e0; have q39 := fE 7 (H 39 rfl) e0; have q37 := fE 5 (H 37 rfl) e0; have q33 := fE 6 (H 33 rfl) e0; have q31 := fE 4 (H 31 rfl) e0; have q29 := fE 3 (H 29 rfl) e0; have q27 := fE 2 (H 27 rfl) e0; have q23 := fE 1 (H 23 rfl) e0; unfold Abs.j0m; omega) (H 14 rfl)
    · exact Abs.snd_end (H 2 rfl) (H 43 rfl) (H 14 rfl)) (by kernel_rfl))
theorem ec_kpok (N : Nat) (hN : N ≤ 1073741824) : Abs.j1w Tryz.prog (Abs.j2e Tryz.prog kU "parts" (Abs.j0q kK kT N) (Abs.pSnd kK kT)) := Abs.one_all (c := fun N => Abs.j2e Tryz.prog kU "parts" (Abs.j0q kK kT N) (Abs.pSnd kK kT)) (B := 1073741824) (Abs.j4m fun γ hf => Abs.left_zero (hf _ List.mem_cons_self)) (fun n hn h => ec_kpstep hn h) N hN
noncomputable def ec_kq (N : Nat) : Nat → Abs.Fact := fun i => ([
  .rel "out" false Abs.pOut [X0, (.var 13)],
  .tr (.a2 (.bin .gtr) (.var 13) (.int .i64 (.ofNat 0))),
  .rel "parts" false (Abs.j0q kK kT (N + 1)) [(.var 13), (.var 15)],
  .rel "snd" false (Abs.pSnd kK kT) [(.var 13), (.var 15)],
  .rel "wrd" false (Abs.pWrd kK kT) [(.var 16), (.var 13), (.var 15)],
  .rel "hole" false (Abs.pHole 4) [(.var 15), X0],
  .rel "cut" false Abs.pCut [(.int .i64 (.ofNat 0)), X0, (.var 13)],
  .rel "back" true (Abs.j4k kK kT 1073741824 N) [X0, (.var 15), Y3, (.a2 (.bin .sub) (.a1 .len Y3) (.int .i64 (.ofNat 1)))],
  .tr (.a2 (.bin .eql) (.a1 .len Y3) (.int .i64 (.ofNat 0))),
  .tr (.a2 (.bin .eql) (.a2 (.at 4 2) (.var 15) X0) (.str [])),
  .tr (.a2 (.bin .leq) Y4 (.int .i64 (.ofNat 576460752303423487))),
  .tr (.a2 (.bin .geq) Y4 (.int .i64 (.negSucc 576460752303423487))),
  .tr (.a2 (.bin .eql) Y2 (.int .i64 (.ofNat 1))),
  .rel "parts" true (Abs.j0q kK kT N) [(.var 25), (.var 27)],
  .rel "left" false (Abs.j0q kK kT N) [(.var 25), (.var 27)],
  .rel "app" false (Abs.pApp kK kT) [(.var 25), (.var 27), X0, (.var 15), Y3, (.a2 (.bin .sub) (.a1 .len Y3) (.int .i64 (.ofNat 1)))],
  .rel "snd" true (Abs.pSnd kK kT) [(.var 25), (.var 27)],
  .rel "wrd" true (Abs.pWrd kK kT) [(.a2 (.bin .add) (.var 16) (.int .i64 (.ofNat 1))), (.var 25), (.var 27)],
  .rel "wrds" true (Abs.pWrds kK kT) [(.var 28), (.var 16), (.var 13), (.var 15)],
  .rel "wrds" false (Abs.pWrds kK kT) [(.var 28), (.a2 (.bin .add) (.var 16) (.int .i64 (.ofNat 1))), (.var 25), (.var 27)],
  .rel "parts" true (Abs.j0q kK kT N) [(.var 24), (.var 26)],
  .rel "left" false (Abs.j0q kK kT N) [(.var 24), (.var 26)],
  .rel "app" false (Abs.pApp kK kT) [(.var 24), (.var 26), X0, (.var 15), Y3, (.a2 (.bin .sub) (.a1 .len Y3) (.int .i64 (.ofNat 1)))],
  .rel "snd" true (Abs.pSnd kK kT) [(.var 24), (.var 26)],
  .rel "wrd" true (Abs.pWrd kK kT) [(.a2 (.bin .add) (.var 16) (.int .i64 (.ofNat 1))), (.var 24), (.var 26)],
  .rel "wrds" true (Abs.pWrds kK kT) [(.var 27), (.var 16), (.var 13), (.var 15)],
  .rel "wrds" false (Abs.pWrds kK kT) [(.var 27), (.a2 (.bin .add) (.var 16) (.int .i64 (.ofNat 1))), (.var 24), (.var 26)],
  .fl (.a2 (.bin .eql) (.a1 .len Y3) (.int .i64 (.ofNat 0))),
  .fl (.a2 (.bin .eql) (.a2 (.at 4 2) (.var 15) X0) (.str [])),
  .fl (.a2 (.bin .leq) Y4 (.int .i64 (.ofNat 576460752303423487))),
  .fl (.a2 (.bin .geq) Y4 (.int .i64 (.negSucc 576460752303423487))),
  .tr (.a2 (.bin .leq) (.a1 .len (.a2 (.at 4 2) (.var 15) X0)) (.int .i64 (.ofNat 64))),
  .tr (.a2 (.bin .eql) Y4 (.int .i64 (.ofNat 0))),
  .tr (.a2 (.bin .eql) Y2 (.int .i64 (.ofNat 2))),
  .fl (.a2 (.bin .eql) Y2 (.int .i64 (.ofNat 1))),
  .fl (.a2 (.bin .leq) (.a1 .len (.a2 (.at 4 2) (.var 15) X0)) (.int .i64 (.ofNat 64))),
  .fl (.a2 (.bin .eql) Y4 (.int .i64 (.ofNat 0))),
  .tr (.a2 (.bin .leq) Y4 (.int .i64 (.ofNat 1073741824))),
  .tr (.a2 (.bin .geq) Y4 (.int .i64 (.ofNat 0))),
  .tr (.a2 (.bin .eql) Y2 (.int .i64 (.ofNat 3))),
  .fl (.a2 (.bin .eql) Y2 (.int .i64 (.ofNat 2))),
  .fl (.a2 (.bin .leq) Y4 (.int .i64 (.ofNat 1073741824))),
  .fl (.a2 (.bin .geq) Y4 (.int .i64 (.ofNat 0))),
  .tr (.a2 (.bin .eql) Y2 (.int .i64 (.ofNat 4))),
  .fl (.a2 (.bin .eql) Y2 (.int .i64 (.ofNat 3))),
  .tr (.a2 (.bin .eql) Y2 (.int .i64 (.ofNat 6))),
  .fl (.a2 (.bin .eql) Y2 (.int .i64 (.ofNat 4))),
  .tr (.a2 (.bin .eql) Y2 (.int .i64 (.ofNat 5))),
  .fl (.a2 (.bin .eql) Y2 (.int .i64 (.ofNat 6))),
  .rel "wrd" true (Abs.pWrd kK kT) [(.a2 (.bin .add) (.var 16) (.int .i64 (.ofNat 2))), (.var 25), (.var 27)],
  .rel "wrds" false (Abs.pWrds kK kT) [(.var 28), (.a2 (.bin .add) (.var 16) (.int .i64 (.ofNat 2))), (.var 25), (.var 27)],
  .rel "wrd" true (Abs.pWrd kK kT) [(.a2 (.bin .add) (.var 16) (.int .i64 (.ofNat 2))), (.var 24), (.var 26)],
  .rel "wrds" false (Abs.pWrds kK kT) [(.var 27), (.a2 (.bin .add) (.var 16) (.int .i64 (.ofNat 2))), (.var 24), (.var 26)],
  .tr (.a2 (.bin .leq) (.a1 .len Y3) (.int .i64 (.ofNat 64))),
  .fl (.a2 (.bin .leq) (.a1 .len Y3) (.int .i64 (.ofNat 64))),
  .tr (.a2 (.bin .eql) Y2 (.int .i64 (.ofNat 7))),
  .fl (.a2 (.bin .eql) Y2 (.int .i64 (.ofNat 5))),
  .tr (.a2 (.bin .eql) Y2 (.int .i64 (.ofNat 8))),
  .fl (.a2 (.bin .eql) Y2 (.int .i64 (.ofNat 7))),
  .tr (.a2 (.bin .eql) (.a1 .len Y3) (.int .i64 (.ofNat 2))),
  .tr (.a2 (.bin .eql) Y2 (.int .i64 (.ofNat 9))),
  .fl (.a2 (.bin .eql) Y2 (.int .i64 (.ofNat 8))),
  .fl (.a2 (.bin .eql) (.a1 .len Y3) (.int .i64 (.ofNat 2))),
  .fl (.a2 (.bin .eql) Y2 (.int .i64 (.ofNat 9))),
  .rel "wrds" true (Abs.pWrds kK kT) [(.var 16), (.var 16), (.var 13), (.var 15)],
  .fl (.a2 (.bin .gtr) (.var 13) (.int .i64 (.ofNat 0)))] : List Abs.Fact).getD i (.tr (.bool true))
noncomputable def ec_kqR : List (List Nat) := [[0, 1, 2, 3, 4], [5, 1, 2, 3, 4], [6, 1, 2, 3, 4], [7, 8, 9, 10, 11, 12, 1, 2, 3, 4], [13, 14, 15, 8, 9, 10, 11, 12, 1, 2, 3, 4], [16, 14, 15, 8, 9, 10, 11, 12, 1, 2, 3, 4], [17, 14, 15, 8, 9, 10, 11, 12, 1, 2, 3, 4], [18, 19, 14, 15, 8, 9, 10, 11, 12, 1, 2, 3, 4], [20, 21, 22, 8, 9, 10, 11, 12, 1, 2, 3, 4], [23, 21, 22, 8, 9, 10, 11, 12, 1, 2, 3, 4], [24, 21, 22, 8, 9, 10, 11, 12, 1, 2, 3, 4], [25, 26, 21, 22, 8, 9, 10, 11, 12, 1, 2, 3, 4], [27, 9, 10, 11, 12, 1, 2, 3, 4], [28, 10, 11, 12, 1, 2, 3, 4], [29, 11, 12, 1, 2, 3, 4], [30, 12, 1, 2, 3, 4], [7, 8, 31, 32, 33, 34, 1, 2, 3, 4], [13, 14, 15, 8, 31, 32, 33, 34, 1, 2, 3, 4], [16, 14, 15, 8, 31, 32, 33, 34, 1, 2, 3, 4], [17, 14, 15, 8, 31, 32, 33, 34, 1, 2, 3, 4], [18, 19, 14, 15, 8, 31, 32, 33, 34, 1, 2, 3, 4], [20, 21, 22, 8, 31, 32, 33, 34, 1, 2, 3, 4], [23, 21, 22, 8, 31, 32, 33, 34, 1, 2, 3, 4], [24, 21, 22, 8, 31, 32, 33, 34, 1, 2, 3, 4], [25, 26, 21, 22, 8, 31, 32, 33, 34, 1, 2, 3, 4], [27, 31, 32, 33, 34, 1, 2, 3, 4], [35, 32, 33, 34, 1, 2, 3, 4], [36, 33, 34, 1, 2, 3, 4], [7, 8, 9, 37, 38, 39, 40, 34, 1, 2, 3, 4], [13, 14, 15, 8, 9, 37, 38, 39, 40, 34, 1, 2, 3, 4], [16, 14, 15, 8, 9, 37, 38, 39, 40, 34, 1, 2, 3, 4], [17, 14, 15, 8, 9, 37, 38, 39, 40, 34, 1, 2, 3, 4], [18, 19, 14, 15, 8, 9, 37, 38, 39, 40, 34, 1, 2, 3, 4], [20, 21, 22, 8, 9, 37, 38, 39, 40, 34, 1, 2, 3, 4], [23, 21, 22, 8, 9, 37, 38, 39, 40, 34, 1, 2, 3, 4], [24, 21, 22, 8, 9, 37, 38, 39, 40, 34, 1, 2, 3, 4], [25, 26, 21, 22, 8, 9, 37, 38, 39, 40, 34, 1, 2, 3, 4], [27, 9, 37, 38, 39, 40, 34, 1, 2, 3, 4], [28, 37, 38, 39, 40, 34, 1, 2, 3, 4], [41, 38, 39, 40, 34, 1, 2, 3, 4], [42, 39, 40, 34, 1, 2, 3, 4], [7, 8, 9, 37, 38, 43, 44, 40, 34, 1, 2, 3, 4], [13, 14, 15, 8, 9, 37, 38, 43, 44, 40, 34, 1, 2, 3, 4], [16, 14, 15, 8, 9, 37, 38, 43, 44, 40, 34, 1, 2, 3, 4], [17, 14, 15, 8, 9, 37, 38, 43, 44, 40, 34, 1, 2, 3, 4], [18, 19, 14, 15, 8, 9, 37, 38, 43, 44, 40, 34, 1, 2, 3, 4], [20, 21, 22, 8, 9, 37, 38, 43, 44, 40, 34, 1, 2, 3, 4], [23, 21, 22, 8, 9, 37, 38, 43, 44, 40, 34, 1, 2, 3, 4], [24, 21, 22, 8, 9, 37, 38, 43, 44, 40, 34, 1, 2, 3, 4], [25, 26, 21, 22, 8, 9, 37, 38, 43, 44, 40, 34, 1, 2, 3, 4], [27, 9, 37, 38, 43, 44, 40, 34, 1, 2, 3, 4], [28, 37, 38, 43, 44, 40, 34, 1, 2, 3, 4], [41, 38, 43, 44, 40, 34, 1, 2, 3, 4], [42, 43, 44, 40, 34, 1, 2, 3, 4], [7, 8, 9, 37, 38, 45, 46, 44, 40, 34, 1, 2, 3, 4], [13, 14, 15, 8, 9, 37, 38, 45, 46, 44, 40, 34, 1, 2, 3, 4], [16, 14, 15, 8, 9, 37, 38, 45, 46, 44, 40, 34, 1, 2, 3, 4], [17, 14, 15, 8, 9, 37, 38, 45, 46, 44, 40, 34, 1, 2, 3, 4], [18, 19, 14, 15, 8, 9, 37, 38, 45, 46, 44, 40, 34, 1, 2, 3, 4], [20, 21, 22, 8, 9, 37, 38, 45, 46, 44, 40, 34, 1, 2, 3, 4], [23, 21, 22, 8, 9, 37, 38, 45, 46, 44, 40, 34, 1, 2, 3, 4], [24, 21, 22, 8, 9, 37, 38, 45, 46, 44, 40, 34, 1, 2, 3, 4], [25, 26, 21, 22, 8, 9, 37, 38, 45, 46, 44, 40, 34, 1, 2, 3, 4], [27, 9, 37, 38, 45, 46, 44, 40, 34, 1, 2, 3, 4], [28, 37, 38, 45, 46, 44, 40, 34, 1, 2, 3, 4], [41, 38, 45, 46, 44, 40, 34, 1, 2, 3, 4], [42, 45, 46, 44, 40, 34, 1, 2, 3, 4], [7, 8, 9, 37, 38, 47, 48, 46, 44, 40, 34, 1, 2, 3, 4], [13, 14, 15, 8, 9, 37, 38, 47, 48, 46, 44, 40, 34, 1, 2, 3, 4], [16, 14, 15, 8, 9, 37, 38, 47, 48, 46, 44, 40, 34, 1, 2, 3, 4], [49, 14, 15, 8, 9, 37, 38, 47, 48, 46, 44, 40, 34, 1, 2, 3, 4], [18, 50, 14, 15, 8, 9, 37, 38, 47, 48, 46, 44, 40, 34, 1, 2, 3, 4], [20, 21, 22, 8, 9, 37, 38, 47, 48, 46, 44, 40, 34, 1, 2, 3, 4], [23, 21, 22, 8, 9, 37, 38, 47, 48, 46, 44, 40, 34, 1, 2, 3, 4], [51, 21, 22, 8, 9, 37, 38, 47, 48, 46, 44, 40, 34, 1, 2, 3, 4], [25, 52, 21, 22, 8, 9, 37, 38, 47, 48, 46, 44, 40, 34, 1, 2, 3, 4], [7, 53, 27, 9, 37, 38, 47, 48, 46, 44, 40, 34, 1, 2, 3, 4], [13, 14, 15, 53, 27, 9, 37, 38, 47, 48, 46, 44, 40, 34, 1, 2, 3, 4], [16, 14, 15, 53, 27, 9, 37, 38, 47, 48, 46, 44, 40, 34, 1, 2, 3, 4], [49, 14, 15, 53, 27, 9, 37, 38, 47, 48, 46, 44, 40, 34, 1, 2, 3, 4], [18, 50, 14, 15, 53, 27, 9, 37, 38, 47, 48, 46, 44, 40, 34, 1, 2, 3, 4], [20, 21, 22, 53, 27, 9, 37, 38, 47, 48, 46, 44, 40, 34, 1, 2, 3, 4], [23, 21, 22, 53, 27, 9, 37, 38, 47, 48, 46, 44, 40, 34, 1, 2, 3, 4], [51, 21, 22, 53, 27, 9, 37, 38, 47, 48, 46, 44, 40, 34, 1, 2, 3, 4], [25, 52, 21, 22, 53, 27, 9, 37, 38, 47, 48, 46, 44, 40, 34, 1, 2, 3, 4], [54, 27, 9, 37, 38, 47, 48, 46, 44, 40, 34, 1, 2, 3, 4], [28, 37, 38, 47, 48, 46, 44, 40, 34, 1, 2, 3, 4], [41, 38, 47, 48, 46, 44, 40, 34, 1, 2, 3, 4], [42, 47, 48, 46, 44, 40, 34, 1, 2, 3, 4], [7, 53, 9, 32, 55, 56, 48, 46, 44, 40, 34, 1, 2, 3, 4], [13, 14, 15, 53, 9, 32, 55, 56, 48, 46, 44, 40, 34, 1, 2, 3, 4], [16, 14, 15, 53, 9, 32, 55, 56, 48, 46, 44, 40, 34, 1, 2, 3, 4], [49, 14, 15, 53, 9, 32, 55, 56, 48, 46, 44, 40, 34, 1, 2, 3, 4], [18, 50, 14, 15, 53, 9, 32, 55, 56, 48, 46, 44, 40, 34, 1, 2, 3, 4], [20, 21, 22, 53, 9, 32, 55, 56, 48, 46, 44, 40, 34, 1, 2, 3, 4], [23, 21, 22, 53, 9, 32, 55, 56, 48, 46, 44, 40, 34, 1, 2, 3, 4], [51, 21, 22, 53, 9, 32, 55, 56, 48, 46, 44, 40, 34, 1, 2, 3, 4], [25, 52, 21, 22, 53, 9, 32, 55, 56, 48, 46, 44, 40, 34, 1, 2, 3, 4], [54, 9, 32, 55, 56, 48, 46, 44, 40, 34, 1, 2, 3, 4], [28, 32, 55, 56, 48, 46, 44, 40, 34, 1, 2, 3, 4], [36, 55, 56, 48, 46, 44, 40, 34, 1, 2, 3, 4], [7, 8, 9, 32, 57, 58, 56, 48, 46, 44, 40, 34, 1, 2, 3, 4], [13, 14, 15, 8, 9, 32, 57, 58, 56, 48, 46, 44, 40, 34, 1, 2, 3, 4], [16, 14, 15, 8, 9, 32, 57, 58, 56, 48, 46, 44, 40, 34, 1, 2, 3, 4], [17, 14, 15, 8, 9, 32, 57, 58, 56, 48, 46, 44, 40, 34, 1, 2, 3, 4], [18, 19, 14, 15, 8, 9, 32, 57, 58, 56, 48, 46, 44, 40, 34, 1, 2, 3, 4], [20, 21, 22, 8, 9, 32, 57, 58, 56, 48, 46, 44, 40, 34, 1, 2, 3, 4], [23, 21, 22, 8, 9, 32, 57, 58, 56, 48, 46, 44, 40, 34, 1, 2, 3, 4], [24, 21, 22, 8, 9, 32, 57, 58, 56, 48, 46, 44, 40, 34, 1, 2, 3, 4], [25, 26, 21, 22, 8, 9, 32, 57, 58, 56, 48, 46, 44, 40, 34, 1, 2, 3, 4], [27, 9, 32, 57, 58, 56, 48, 46, 44, 40, 34, 1, 2, 3, 4], [28, 32, 57, 58, 56, 48, 46, 44, 40, 34, 1, 2, 3, 4], [36, 57, 58, 56, 48, 46, 44, 40, 34, 1, 2, 3, 4], [7, 59, 9, 32, 60, 61, 58, 56, 48, 46, 44, 40, 34, 1, 2, 3, 4], [13, 14, 15, 59, 9, 32, 60, 61, 58, 56, 48, 46, 44, 40, 34, 1, 2, 3, 4], [16, 14, 15, 59, 9, 32, 60, 61, 58, 56, 48, 46, 44, 40, 34, 1, 2, 3, 4], [17, 14, 15, 59, 9, 32, 60, 61, 58, 56, 48, 46, 44, 40, 34, 1, 2, 3, 4], [18, 19, 14, 15, 59, 9, 32, 60, 61, 58, 56, 48, 46, 44, 40, 34, 1, 2, 3, 4], [20, 21, 22, 59, 9, 32, 60, 61, 58, 56, 48, 46, 44, 40, 34, 1, 2, 3, 4], [23, 21, 22, 59, 9, 32, 60, 61, 58, 56, 48, 46, 44, 40, 34, 1, 2, 3, 4], [24, 21, 22, 59, 9, 32, 60, 61, 58, 56, 48, 46, 44, 40, 34, 1, 2, 3, 4], [25, 26, 21, 22, 59, 9, 32, 60, 61, 58, 56, 48, 46, 44, 40, 34, 1, 2, 3, 4], [62, 9, 32, 60, 61, 58, 56, 48, 46, 44, 40, 34, 1, 2, 3, 4], [28, 32, 60, 61, 58, 56, 48, 46, 44, 40, 34, 1, 2, 3, 4], [36, 60, 61, 58, 56, 48, 46, 44, 40, 34, 1, 2, 3, 4], [63, 61, 58, 56, 48, 46, 44, 40, 34, 1, 2, 3, 4], [64, 65, 2, 3, 4]]
theorem ec_kqrun (N : Nat) (tl : List Deferred) : Abs.R.res (fun _ => true) ((Abs.runF (Abs.j1i Tryz.prog (fun _ => false) j1u [] [Abs.j2i Tryz.prog kU "parts" (Abs.j0q kK kT N) (Abs.pSnd kK kT) (Abs.pWrd kK kT) (Abs.pWrds kK kT), Abs.j2o Tryz.prog kU "back" (Abs.j4k kK kT 1073741824 N) (Abs.j0q kK kT N) (Abs.pApp kK kT)]) 1000000 ((Abs.j2i Tryz.prog kU "parts" (Abs.j0q kK kT (N + 1)) (Abs.pSnd kK kT) (Abs.pWrd kK kT) (Abs.pWrds kK kT)).fi tl) (Abs.j2i Tryz.prog kU "parts" (Abs.j0q kK kT (N + 1)) (Abs.pSnd kK kT) (Abs.pWrd kK kT) (Abs.pWrds kK kT)).tr (Abs.j2i Tryz.prog kU "parts" (Abs.j0q kK kT (N + 1)) (Abs.pSnd kK kT) (Abs.pWrd kK kT) (Abs.pWrds kK kT)).todo [] .run none (Abs.j2i Tryz.prog kU "parts" (Abs.j0q kK kT (N + 1)) (Abs.pSnd kK kT) (Abs.pWrd kK kT) (Abs.pWrds kK kT)).S).bind (Abs.conLook (Abs.j1i Tryz.prog (fun _ => false) j1u [] [Abs.j2i Tryz.prog kU "parts" (Abs.j0q kK kT N) (Abs.pSnd kK kT) (Abs.pWrd kK kT) (Abs.pWrds kK kT), Abs.j2o Tryz.prog kU "back" (Abs.j4k kK kT 1073741824 N) (Abs.j0q kK kT N) (Abs.pApp kK kT)]) (Abs.j2i Tryz.prog kU "parts" (Abs.j0q kK kT (N + 1)) (Abs.pSnd kK kT) (Abs.pWrd kK kT) (Abs.pWrds kK kT)))) = some (ec_kqR.map fun r => r.map (ec_kq N)) := by kernel_rfl
theorem ec_kqstep {N : Nat} (hN : N + 1 ≤ 1073741824) (hc : Abs.j1w Tryz.prog (Abs.j2i Tryz.prog kU "parts" (Abs.j0q kK kT N) (Abs.pSnd kK kT) (Abs.pWrd kK kT) (Abs.pWrds kK kT))) : Abs.j1w Tryz.prog (Abs.j2i Tryz.prog kU "parts" (Abs.j0q kK kT (N + 1)) (Abs.pSnd kK kT) (Abs.pWrd kK kT) (Abs.pWrds kK kT)) := Abs.con_of (Abs.j3g (fun c h => by cases h with | head => exact hc | tail _ h => cases h with | head => exact ec_kbok (by omega) _ | tail _ h => cases h) (fun _ h => by cases h) j0l j0t (Abs.j3p j3e)) j0k _ 1000000 (ec_kqrun N)
  (Abs.j2q (F := ec_kq N) (pats := [[0, 1, 2], [5, 1, 2], [6, 1, 2], [7, 1, 2], [13, 14], [16, 15, 1, 2, 3], [17, 15, 1, 2, 4], [18, 19, 15, 1, 2, 4], [20, 21], [23, 22, 1, 2, 3], [24, 22, 1, 2, 4], [25, 26, 22, 1, 2, 4], [1, 2, 3, 27, 9, 10, 11, 12], [1, 2, 3, 28, 10, 11, 12], [1, 2, 3, 29, 11, 12], [1, 2, 3, 30, 12], [1, 2, 3, 27, 31, 32, 33, 34], [1, 2, 3, 35, 32, 33, 34], [1, 2, 3, 36, 33, 34], [1, 2, 3, 27, 9, 37, 38, 39, 40, 34], [1, 2, 3, 28, 37, 38, 39, 40, 34], [1, 2, 3, 41, 38, 39, 40, 34], [1, 2, 3, 42, 39, 40, 34], [1, 2, 3, 27, 9, 37, 38, 43, 44, 40, 34], [1, 2, 3, 28, 37, 38, 43, 44, 40, 34], [1, 2, 3, 41, 38, 43, 44, 40, 34], [1, 2, 3, 42, 43, 44, 40, 34], [1, 2, 3, 27, 9, 37, 38, 45, 46, 44, 40, 34], [1, 2, 3, 28, 37, 38, 45, 46, 44, 40, 34], [1, 2, 3, 41, 38, 45, 46, 44, 40, 34], [1, 2, 3, 42, 45, 46, 44, 40, 34], [49, 15, 1, 2, 4], [18, 50, 15, 1, 2, 4], [51, 22, 1, 2, 4], [25, 52, 22, 1, 2, 4], [1, 2, 3, 54, 27, 9, 37, 38, 47, 48, 46, 44, 40, 34], [1, 2, 3, 28, 37, 38, 47, 48, 46, 44, 40, 34], [1, 2, 3, 41, 38, 47, 48, 46, 44, 40, 34], [1, 2, 3, 42, 47, 48, 46, 44, 40, 34], [1, 2, 3, 54, 9, 32, 55, 56, 48, 46, 44, 40, 34], [1, 2, 3, 28, 32, 55, 56, 48, 46, 44, 40, 34], [1, 2, 3, 36, 55, 56, 48, 46, 44, 40, 34], [1, 2, 3, 27, 9, 32, 57, 58, 56, 48, 46, 44, 40, 34], [1, 2, 3, 28, 32, 57, 58, 56, 48, 46, 44, 40, 34], [1, 2, 3, 36, 57, 58, 56, 48, 46, 44, 40, 34], [1, 2, 3, 62, 9, 32, 60, 61, 58, 56, 48, 46, 44, 40, 34], [1, 2, 3, 28, 32, 60, 61, 58, 56, 48, 46, 44, 40, 34], [1, 2, 3, 36, 60, 61, 58, 56, 48, 46, 44, 40, 34], [1, 2, 3, 63, 61, 58, 56, 48, 46, 44, 40, 34], [64, 4]]) (fun p hp γ h => by
    have H := Abs.mem_of h
    simp only [List.mem_cons, List.not_mem_nil, or_false] at hp
    rcases hp with rfl | rfl | rfl | rfl | rfl | rfl | rfl | rfl | rfl | rfl | rfl | rfl | rfl | rfl | rfl | rfl | rfl | rfl | rfl | rfl | rfl | rfl | rfl | rfl | rfl | rfl | rfl | rfl | rfl | rfl | rfl | rfl | rfl | rfl | rfl | rfl | rfl | rfl | rfl | rfl | rfl | rfl | rfl | rfl | rfl | rfl | rfl | rfl | rfl | rfl
    · exact Abs.parts_out hN (H 2 rfl) (H 1 rfl) (H 0 rfl)
    · exact Abs.parts_hole hN (H 2 rfl) (H 1 rfl) (H 5 rfl)
    · exact Abs.parts_cut hN (H 2 rfl) (H 1 rfl) (H 6 rfl)
    · exact Abs.parts_back kHK hN (Nat.le_refl _) (H 2 rfl) (H 1 rfl) (H 7 rfl)
    · exact (H 13 rfl) (H 14 rfl)
    · exact Abs.snds_step kHK hN (H 2 rfl) (H 1 rfl) (H 15 rfl) (H 3 rfl) (H 16 rfl)
    · exact Abs.wrd_next kHK hN (by decide) (H 2 rfl) (H 1 rfl) (H 15 rfl) (H 4 rfl) (H 17 rfl)
    · exact Abs.wrds_next kHK hN (by decide) (H 2 rfl) (H 1 rfl) (H 15 rfl) (H 4 rfl) (H 19 rfl) (H 18 rfl)
    · exact (H 20 rfl) (H 21 rfl)
    · exact Abs.snds_step kHK hN (H 2 rfl) (H 1 rfl) (H 22 rfl) (H 3 rfl) (H 23 rfl)
    · exact Abs.wrd_next kHK hN (by decide) (H 2 rfl) (H 1 rfl) (H 22 rfl) (H 4 rfl) (H 24 rfl)
    · exact Abs.wrds_next kHK hN (by decide) (H 2 rfl) (H 1 rfl) (H 22 rfl) (H 4 rfl) (H 26 rfl) (H 25 rfl)
    · exact absurd (Abs.j0u kHK hN (H 2 rfl) (H 1 rfl) (H 3 rfl)) (by rintro ⟨k, nn, str, l, e0, e1, e2, e3, hs⟩; have es := Abs.j0h e2; have q27 := fE 0 (H 27 rfl) e3; have q9 := tS (H 9 rfl) e2; have q10 := tL 576460752303423487 (H 10 rfl) e1; have q11 := tG (-576460752303423488) (H 11 rfl) e1; have q12 := tE 1 (H 12 rfl) e0; unfold Abs.j0m at hs; omega)
    · exact absurd (Abs.j0u kHK hN (H 2 rfl) (H 1 rfl) (H 3 rfl)) (by rintro ⟨k, nn, str, l, e0, e1, e2, e3, hs⟩; have es := Abs.j0h e2; have q28 := fS (H 28 rfl) e2; have q10 := tL 576460752303423487 (H 10 rfl) e1; have q11 := tG (-576460752303423488) (H 11 rfl) e1; have q12 := tE 1 (H 12 rfl) e0; unfold Abs.j0m at hs; omega)
    · exact absurd (Abs.j0u kHK hN (H 2 rfl) (H 1 rfl) (H 3 rfl)) (by rintro ⟨k, nn, str, l, e0, e1, e2, e3, hs⟩; have es := Abs.j0h e2; have q29 := fL 576460752303423487 (H 29 rfl) e1; have q11 := tG (-576460752303423488) (H 11 rfl) e1; have q12 := tE 1 (H 12 rfl) e0; unfold Abs.j0m at hs; omega)
    · exact absurd (Abs.j0u kHK hN (H 2 rfl) (H 1 rfl) (H 3 rfl)) (by rintro ⟨k, nn, str, l, e0, e1, e2, e3, hs⟩; have es := Abs.j0h e2; have q30 := fG (-576460752303423488) (H 30 rfl) e1; have q12 := tE 1 (H 12 rfl) e0; unfold Abs.j0m at hs; omega)
    · exact absurd (Abs.j0u kHK hN (H 2 rfl) (H 1 rfl) (H 3 rfl)) (by rintro ⟨k, nn, str, l, e0, e1, e2, e3, hs⟩; have es := Abs.j0h e2; have q27 := fE 0 (H 27 rfl) e3; have q31 := tL 64 (H 31 rfl) es; have q32 := tE 0 (H 32 rfl) e1; have q33 := tE 2 (H 33 rfl) e0; have q34 := fE 1 (H 34 rfl) e0; unfold Abs.j0m at hs; omega)
    · exact absurd (Abs.j0u kHK hN (H 2 rfl) (H 1 rfl) (H 3 rfl)) (by rintro ⟨k, nn, str, l, e0, e1, e2, e3, hs⟩; have es := Abs.j0h e2; have q35 := fL 64 (H 35 rfl) es; have q32 := tE 0 (H 32 rfl) e1; have q33 := tE 2 (H 33 rfl) e0; have q34 := fE 1 (H 34 rfl) e0; unfold Abs.j0m at hs; omega)
    · exact absurd (Abs.j0u kHK hN (H 2 rfl) (H 1 rfl) (H 3 rfl)) (by rintro ⟨k, nn, str, l, e0, e1, e2, e3, hs⟩; have es := Abs.j0h e2; have q36 := fE 0 (H 36 rfl) e1; have q33 := tE 2 (H 33 rfl) e0; have q34 := fE 1 (H 34 rfl) e0; unfold Abs.j0m at hs; omega)
    · exact absurd (Abs.j0u kHK hN (H 2 rfl) (H 1 rfl) (H 3 rfl)) (by rintro ⟨k, nn, str, l, e0, e1, e2, e3, hs⟩; have es := Abs.j0h e2; have q27 := fE 0 (H 27 rfl) e3; have q9 := tS (H 9 rfl) e2; have q37 := tL 1073741824 (H 37 rfl) e1; have q38 := tG 0 (H 38 rfl) e1; have q39 := tE 3 (H 39 rfl) e0; have q40 := fE 2 (H 40 rfl) e0; have q34 := fE 1 (H 34 rfl) e0; unfold Abs.j0m at hs; omega)
    · exact absurd (Abs.j0u kHK hN (H 2 rfl) (H 1 rfl) (H 3 rfl)) (by rintro ⟨k, nn, str, l, e0, e1, e2, e3, hs⟩; have es := Abs.j0h e2; have q28 := fS (H 28 rfl) e2; have q37 := tL 1073741824 (H 37 rfl) e1; have q38 := tG 0 (H 38 rfl) e1; have q39 := tE 3 (H 39 rfl) e0; have q40 := fE 2 (H 40 rfl) e0; have q34 := fE 1 (H 34 rfl) e0; unfold Abs.j0m at hs; omega)
    · exact absurd (Abs.j0u kHK hN (H 2 rfl) (H 1 rfl) (H 3 rfl)) (by rintro ⟨k, nn, str, l, e0, e1, e2, e3, hs⟩; have es := Abs.j0h e2; have q41 := fL 1073741824 (H 41 rfl) e1; have q38 := tG 0 (H 38 rfl) e1; have q39 := tE 3 (H 39 rfl) e0; have q40 := fE 2 (H 40 rfl) e0; have q34 := fE 1 (H 34 rfl) e0; unfold Abs.j0m at hs; omega)
    · exact absurd (Abs.j0u kHK hN (H 2 rfl) (H 1 rfl) (H 3 rfl)) (by rintro ⟨k, nn, str, l, e0, e1, e2, e3, hs⟩; have es := Abs.j0h e2; have q42 := fG 0 (H 42 rfl) e1; have q39 := tE 3 (H 39 rfl) e0; have q40 := fE 2 (H 40 rfl) e0; have q34 := fE 1 (H 34 rfl) e0; unfold Abs.j0m at hs; omega)
    · exact absurd (Abs.j0u kHK hN (H 2 rfl) (H 1 rfl) (H 3 rfl)) (by rintro ⟨k, nn, str, l, e0, e1, e2, e3, hs⟩; have es := Abs.j0h e2; have q27 := fE 0 (H 27 rfl) e3; have q9 := tS (H 9 rfl) e2; have q37 := tL 1073741824 (H 37 rfl) e1; have q38 := tG 0 (H 38 rfl) e1; have q43 := tE 4 (H 43 rfl) e0; have q44 := fE 3 (H 44 rfl) e0; have q40 := fE 2 (H 40 rfl) e0; have q34 := fE 1 (H 34 rfl) e0; unfold Abs.j0m at hs; omega)
    · exact absurd (Abs.j0u kHK hN (H 2 rfl) (H 1 rfl) (H 3 rfl)) (by rintro ⟨k, nn, str, l, e0, e1, e2, e3, hs⟩; have es := Abs.j0h e2; have q28 := fS (H 28 rfl) e2; have q37 := tL 1073741824 (H 37 rfl) e1; have q38 := tG 0 (H 38 rfl) e1; have q43 := tE 4 (H 43 rfl) e0; have q44 := fE 3 (H 44 rfl) e0; have q40 := fE 2 (H 40 rfl) e0; have q34 := fE 1 (H 34 rfl) e0; unfold Abs.j0m at hs; omega)
    · exact absurd (Abs.j0u kHK hN (H 2 rfl) (H 1 rfl) (H 3 rfl)) (by rintro ⟨k, nn, str, l, e0, e1, e2, e3, hs⟩; have es := Abs.j0h e2; have q41 := fL 1073741824 (H 41 rfl) e1; have q38 := tG 0 (H 38 rfl) e1; have q43 := tE 4 (H 43 rfl) e0; have q44 := fE 3 (H 44 rfl) e0; have q40 := fE 2 (H 40 rfl) e0; have q34 := fE 1 (H 34 rfl) e0; unfold Abs.j0m at hs; omega)
    · exact absurd (Abs.j0u kHK hN (H 2 rfl) (H 1 rfl) (H 3 rfl)) (by rintro ⟨k, nn, str, l, e0, e1, e2, e3, hs⟩; have es := Abs.j0h e2; have q42 := fG 0 (H 42 rfl) e1; have q43 := tE 4 (H 43 rfl) e0; have q44 := fE 3 (H 44 rfl) e0; have q40 := fE 2 (H 40 rfl) e0; have q34 := fE 1 (H 34 rfl) e0; unfold Abs.j0m at hs; omega)
    · exact absurd (Abs.j0u kHK hN (H 2 rfl) (H 1 rfl) (H 3 rfl)) (by rintro ⟨k, nn, str, l, e0, e1, e2, e3, hs⟩; have es := Abs.j0h e2; have q27 := fE 0 (H 27 rfl) e3; have q9 := tS (H 9 rfl) e2; have q37 := tL 1073741824 (H 37 rfl) e1; have q38 := tG 0 (H 38 rfl) e1; have q45 := tE 6 (H 45 rfl) e0; have q46 := fE 4 (H 46 rfl) e0; have q44 := fE 3 (H 44 rfl) e0; have q40 := fE 2 (H 40 rfl) e0; have q34 := fE 1 (H 34 rfl) e0; unfold Abs.j0m at hs; omega)
    · exact absurd (Abs.j0u kHK hN (H 2 rfl) (H 1 rfl) (H 3 rfl)) (by rintro ⟨k, nn, str, l, e0, e1, e2, e3, hs⟩; have es := Abs.j0h e2; have q28 := fS (H 28 rfl) e2; have q37 := tL 1073741824 (H 37 rfl) e1; have q38 := tG 0 (H 38 rfl) e1; have q45 := tE 6 (H 45 rfl) e0; have q46 := fE 4 (H 46 rfl) e0; have q44 := fE 3 (H 44 rfl) e0; have q40 := fE 2 (H 40 rfl) e0; have q34 := fE 1 (H 34 rfl) e0; unfold Abs.j0m at hs; omega)
    · exact absurd (Abs.j0u kHK hN (H 2 rfl) (H 1 rfl) (H 3 rfl)) (by rintro ⟨k, nn, str, l, e0, e1, e2, e3, hs⟩; have es := Abs.j0h e2; have q41 := fL 1073741824 (H 41 rfl) e1; have q38 := tG 0 (H 38 rfl) e1; have q45 := tE 6 (H 45 rfl) e0; have q46 := fE 4 (H 46 rfl) e0; have q44 := fE 3 (H 44 rfl) e0; have q40 := fE 2 (H 40 rfl) e0; have q34 := fE 1 (H 34 rfl) e0; unfold Abs.j0m at hs; omega)
    · exact absurd (Abs.j0u kHK hN (H 2 rfl) (H 1 rfl) (H 3 rfl)) (by rintro ⟨k, nn, str, l, e0, e1, e2, e3, hs⟩; have es := Abs.j0h e2; have q42 := fG 0 (H 42 rfl) e1; have q45 := tE 6 (H 45 rfl) e0; have q46 := fE 4 (H 46 rfl) e0; have q44 := fE 3 (H 44 rfl) e0; have q40 := fE 2 (H 40 rfl) e0; have q34 := fE 1 (H 34 rfl) e0; unfold Abs.j0m at hs; omega)
    · exact Abs.wrd_next kHK hN (by decide) (H 2 rfl) (H 1 rfl) (H 15 rfl) (H 4 rfl) (H 49 rfl)
    · exact Abs.wrds_next kHK hN (by decide) (H 2 rfl) (H 1 rfl) (H 15 rfl) (H 4 rfl) (H 50 rfl) (H 18 rfl)
    · exact Abs.wrd_next kHK hN (by decide) (H 2 rfl) (H 1 rfl) (H 22 rfl) (H 4 rfl) (H 51 rfl)
    · exact Abs.wrds_next kHK hN (by decide) (H 2 rfl) (H 1 rfl) (H 22 rfl) (H 4 rfl) (H 52 rfl) (H 25 rfl)
    · exact absurd (Abs.j0u kHK hN (H 2 rfl) (H 1 rfl) (H 3 rfl)) (by rintro ⟨k, nn, str, l, e0, e1, e2, e3, hs⟩; have es := Abs.j0h e2; have q54 := fL 64 (H 54 rfl) e3; have q27 := fE 0 (H 27 rfl) e3; have q9 := tS (H 9 rfl) e2; have q37 := tL 1073741824 (H 37 rfl) e1; have q38 := tG 0 (H 38 rfl) e1; have q47 := tE 5 (H 47 rfl) e0; have q48 := fE 6 (H 48 rfl) e0; have q46 := fE 4 (H 46 rfl) e0; have q44 := fE 3 (H 44 rfl) e0; have q40 := fE 2 (H 40 rfl) e0; have q34 := fE 1 (H 34 rfl) e0; unfold Abs.j0m at hs; omega)
    · exact absurd (Abs.j0u kHK hN (H 2 rfl) (H 1 rfl) (H 3 rfl)) (by rintro ⟨k, nn, str, l, e0, e1, e2, e3, hs⟩; have es := Abs.j0h e2; have q28 := fS (H 28 rfl) e2; have q37 := tL 1073741824 (H 37 rfl) e1; have q38 := tG 0 (H 38 rfl) e1; have q47 := tE 5 (H 47 rfl) e0; have q48 := fE 6 (H 48 rfl) e0; have q46 := fE 4 (H 46 rfl) e0; have q44 := fE 3 (H 44 rfl) e0; have q40 := fE 2 (H 40 rfl) e0; have q34 := fE 1 (H 34 rfl) e0; unfold Abs.j0m at hs; omega)
    · exact absurd (Abs.j0u kHK hN (H 2 rfl) (H 1 rfl) (H 3 rfl)) (by rintro ⟨k, nn, str, l, e0, e1, e2, e3, hs⟩; have es := Abs.j0h e2; have q41 := fL 1073741824 (H 41 rfl) e1; have q38 := tG 0 (H 38 rfl) e1; have q47 := tE 5 (H 47 rfl) e0; have q48 := fE 6 (H 48 rfl) e0; have q46 := fE 4 (H 46 rfl) e0; have q44 := fE 3 (H 44 rfl) e0; have q40 := fE 2 (H 40 rfl) e0; have q34 := fE 1 (H 34 rfl) e0; unfold Abs.j0m at hs; omega)
    · exact absurd (Abs.j0u kHK hN (H 2 rfl) (H 1 rfl) (H 3 rfl)) (by rintro ⟨k, nn, str, l, e0, e1, e2, e3, hs⟩; have es := Abs.j0h e2; have q42 := fG 0 (H 42 rfl) e1; have q47 := tE 5 (H 47 rfl) e0; have q48 := fE 6 (H 48 rfl) e0; have q46 := fE 4 (H 46 rfl) e0; have q44 := fE 3 (H 44 rfl) e0; have q40 := fE 2 (H 40 rfl) e0; have q34 := fE 1 (H 34 rfl) e0; unfold Abs.j0m at hs; omega)
    · exact absurd (Abs.j0u kHK hN (H 2 rfl) (H 1 rfl) (H 3 rfl)) (by rintro ⟨k, nn, str, l, e0, e1, e2, e3, hs⟩; have es := Abs.j0h e2; have q54 := fL 64 (H 54 rfl) e3; have q9 := tS (H 9 rfl) e2; have q32 := tE 0 (H 32 rfl) e1; have q55 := tE 7 (H 55 rfl) e0; have q56 := fE 5 (H 56 rfl) e0; have q48 := fE 6 (H 48 rfl) e0; have q46 := fE 4 (H 46 rfl) e0; have q44 := fE 3 (H 44 rfl) e0; have q40 := fE 2 (H 40 rfl) e0; have q34 := fE 1 (H 34 rfl) e0; unfold Abs.j0m at hs; omega)
    · exact absurd (Abs.j0u kHK hN (H 2 rfl) (H 1 rfl) (H 3 rfl)) (by rintro ⟨k, nn, str, l, e0, e1, e2, e3, hs⟩; have es := Abs.j0h e2; have q28 := fS (H 28 rfl) e2; have q32 := tE 0 (H 32 rfl) e1; have q55 := tE 7 (H 55 rfl) e0; have q56 := fE 5 (H 56 rfl) e0; have q48 := fE 6 (H 48 rfl) e0; have q46 := fE 4 (H 46 rfl) e0; have q44 := fE 3 (H 44 rfl) e0; have q40 := fE 2 (H 40 rfl) e0; have q34 := fE 1 (H 34 rfl) e0; unfold Abs.j0m at hs; omega)
    · exact absurd (Abs.j0u kHK hN (H 2 rfl) (H 1 rfl) (H 3 rfl)) (by rintro ⟨k, nn, str, l, e0, e1, e2, e3, hs⟩; have es := Abs.j0h e2; have q36 := fE 0 (H 36 rfl) e1; have q55 := tE 7 (H 55 rfl) e0; have q56 := fE 5 (H 56 rfl) e0; have q48 := fE 6 (H 48 rfl) e0; have q46 := fE 4 (H 46 rfl) e0; have q44 := fE 3 (H 44 rfl) e0; have q40 := fE 2 (H 40 rfl) e0; have q34 := fE 1 (H 34 rfl) e0; unfold Abs.j0m at hs; omega)
    · exact absurd (Abs.j0u kHK hN (H 2 rfl) (H 1 rfl) (H 3 rfl)) (by rintro ⟨k, nn, str, l, e0, e1, e2, e3, hs⟩; have es := Abs.j0h e2; have q27 := fE 0 (H 27 rfl) e3; have q9 := tS (H 9 rfl) e2; have q32 := tE 0 (H 32 rfl) e1; have q57 := tE 8 (H 57 rfl) e0; have q58 := fE 7 (H 58 rfl) e0; have q56 := fE 5 (H 56 rfl) e0; have q48 := fE 6 (H 48 rfl) e0; have q46 := fE 4 (H 46 rfl) e0; have q44 := fE 3 (H 44 rfl) e0; have q40 := fE 2 (H 40 rfl) e0; have q34 := fE 1 (H 34 rfl) e0; unfold Abs.j0m at hs; omega)
    · exact absurd (Abs.j0u kHK hN (H 2 rfl) (H 1 rfl) (H 3 rfl)) (by rintro ⟨k, nn, str, l, e0, e1, e2, e3, hs⟩; have es := Abs.j0h e2; have q28 := fS (H 28 rfl) e2; have q32 := tE 0 (H 32 rfl) e1; have q57 := tE 8 (H 57 rfl) e0; have q58 := fE 7 (H 58 rfl) e0; have q56 := fE 5 (H 56 rfl) e0; have q48 := fE 6 (H 48 rfl) e0; have q46 := fE 4 (H 46 rfl) e0; have q44 := fE 3 (H 44 rfl) e0; have q40 := fE 2 (H 40 rfl) e0; have q34 := fE 1 (H 34 rfl) e0; unfold Abs.j0m at hs; omega)
    · exact absurd (Abs.j0u kHK hN (H 2 rfl) (H 1 rfl) (H 3 rfl)) (by rintro ⟨k, nn, str, l, e0, e1, e2, e3, hs⟩; have es := Abs.j0h e2; have q36 := fE 0 (H 36 rfl) e1; have q57 := tE 8 (H 57 rfl) e0; have q58 := fE 7 (H 58 rfl) e0; have q56 := fE 5 (H 56 rfl) e0; have q48 := fE 6 (H 48 rfl) e0; have q46 := fE 4 (H 46 rfl) e0; have q44 := fE 3 (H 44 rfl) e0; have q40 := fE 2 (H 40 rfl) e0; have q34 := fE 1 (H 34 rfl) e0; unfold Abs.j0m at hs; omega)
    · exact absurd (Abs.j0u kHK hN (H 2 rfl) (H 1 rfl) (H 3 rfl)) (by rintro ⟨k, nn, str, l, e0, e1, e2, e3, hs⟩; have es := Abs.j0h e2; have q62 := fE 2 (H 62 rfl) e3; have q9 := tS (H 9 rfl) e2; have q32 := tE 0 (H 32 rfl) e1; have q60 := tE 9 (H 60 rfl) e0; have q61 := fE 8 (H 61 rfl) e0; have q58 := fE 7 (H 58 rfl) e0; have q56 := fE 5 (H 56 rfl) e0; have q48 := fE 6 (H 48 rfl) e0; have q46 := fE 4 (H 46 rfl) e0; have q44 := fE 3 (H 44 rfl) e0; have q40 := fE 2 (H 40 rfl) e0; have q34 := fE 1 (H 34 rfl) e0; unfold Abs.j0m at hs; omega)
    · exact absurd (Abs.j0u kHK hN (H 2 rfl) (H 1 rfl) (H 3 rfl)) (by rintro ⟨k, nn, str, l, e0, e1, e2, e3, hs⟩; have es := Abs.j0h e2; have q28 := fS (H 28 rfl) e2; have q32 := tE 0 (H 32 rfl) e1; have q60 := tE 9 (H 60 rfl) e0; have q61 := fE 8 (H 61 rfl) e0; have q58 := fE 7 (H 58 rfl) e0; have q56 := fE 5 (H 56 rfl) e0; have q48 := fE 6 (H 48 rfl) e0; have q46 := fE 4 (H 46 rfl) e0; have q44 := fE 3 (H 44 rfl) e0; have q40 := fE 2 (H 40 rfl) e0; have q34 := fE 1 (H 34 rfl) e0; unfold Abs.j0m at hs; omega)
    · exact absurd (Abs.j0u kHK hN (H 2 rfl) (H 1 rfl) (H 3 rfl)) (by rintro ⟨k, nn, str, l, e0, e1, e2, e3, hs⟩; have es := Abs.j0h e2; have q36 := fE 0 (H 36 rfl) e1; have q60 := tE 9 (H 60 rfl) e0; have q61 := fE 8 (H 61 rfl) e0; have q58 := fE 7 (H 58 rfl) e0; have q56 := fE 5 (H 56 rfl) e0; have q48 := fE 6 (H 48 rfl) e0; have q46 := fE 4 (H 46 rfl) e0; have q44 := fE 3 (H 44 rfl) e0; have q40 := fE 2 (H 40 rfl) e0; have q34 := fE 1 (H 34 rfl) e0; unfold Abs.j0m at hs; omega)
    · exact absurd (Abs.j0u kHK hN (H 2 rfl) (H 1 rfl) (H 3 rfl)) (by rintro ⟨k, nn, str, l, e0, e1, e2, e3, hs⟩; have es := Abs.j0h e2; have q63 := fE 9 (H 63 rfl) e0; have q61 := fE 8 (H 61 rfl) e0; have q58 := fE 7 (H 58 rfl) e0; have q56 := fE 5 (H 56 rfl) e0; have q48 := fE 6 (H 48 rfl) e0; have q46 := fE 4 (H 46 rfl) e0; have q44 := fE 3 (H 44 rfl) e0; have q40 := fE 2 (H 40 rfl) e0; have q34 := fE 1 (H 34 rfl) e0; unfold Abs.j0m at hs; omega)
    · exact Abs.wrds_end (H 4 rfl) (H 64 rfl)) (by kernel_rfl))
theorem ec_kqok (N : Nat) (hN : N ≤ 1073741824) : Abs.j1w Tryz.prog (Abs.j2i Tryz.prog kU "parts" (Abs.j0q kK kT N) (Abs.pSnd kK kT) (Abs.pWrd kK kT) (Abs.pWrds kK kT)) := Abs.one_all (c := fun N => Abs.j2i Tryz.prog kU "parts" (Abs.j0q kK kT N) (Abs.pSnd kK kT) (Abs.pWrd kK kT) (Abs.pWrds kK kT)) (B := 1073741824) (Abs.j4m fun γ hf => Abs.left_zero (hf _ List.mem_cons_self)) (fun n hn h => ec_kqstep hn h) N hN
noncomputable def ec_kc  : Nat → Abs.Fact := fun i => ([
  .rel "parts" true (Abs.j0q kK kT kB) [(.int .i64 (.ofNat 1)), (.a2 .sn (.a2 .sn (.a2 .sn (.a2 .sn (.a1 (.nl [(.int .i64), (.int .i64), .str, (.sl 24)]) (.bool true)) (.var 7)) (.var 8)) (.var 9)) (.var 10))],
  .rel "term" false (Abs.j0r kK kT kB) [(.var 7), (.var 8), (.var 9), (.var 10)],
  .rel "sound" true Abs.j3a [(.var 7), (.var 8), (.var 9), (.var 10)],
  .fl (.a2 (.bin .gtr) (.var 19) (.int .i64 (.ofNat 65536))),
  .rel "snd" false (Abs.pSnd kK kT) [(.int .i64 (.ofNat 1)), (.a2 .sn (.a2 .sn (.a2 .sn (.a2 .sn (.a1 (.nl [(.int .i64), (.int .i64), .str, (.sl 24)]) (.bool true)) (.var 7)) (.var 8)) (.var 9)) (.var 10))]] : List Abs.Fact).getD i (.tr (.bool true))
noncomputable def ec_kcR : List (List Nat) := [[0, 1], [2, 3, 4, 1]]
theorem ec_kcrun  (tl : List Deferred) : Abs.R.res (fun _ => true) ((Abs.runF (Abs.j1i Tryz.prog (fun _ => false) j1u [] [Abs.j2e Tryz.prog kU "parts" (Abs.j0q kK kT kB) (Abs.pSnd kK kT)]) 1000000 ((Abs.conCheckA Tryz.prog kU (Abs.j0r kK kT kB) Abs.j3a).fi tl) (Abs.conCheckA Tryz.prog kU (Abs.j0r kK kT kB) Abs.j3a).tr (Abs.conCheckA Tryz.prog kU (Abs.j0r kK kT kB) Abs.j3a).todo [] .run none (Abs.conCheckA Tryz.prog kU (Abs.j0r kK kT kB) Abs.j3a).S).bind (Abs.conLook (Abs.j1i Tryz.prog (fun _ => false) j1u [] [Abs.j2e Tryz.prog kU "parts" (Abs.j0q kK kT kB) (Abs.pSnd kK kT)]) (Abs.conCheckA Tryz.prog kU (Abs.j0r kK kT kB) Abs.j3a))) = some (ec_kcR.map fun r => r.map (ec_kc)) := by kernel_rfl
theorem ec_kcok : Abs.j1w Tryz.prog (Abs.conCheckA Tryz.prog kU (Abs.j0r kK kT kB) Abs.j3a) := Abs.con_of (Abs.j3g (fun c h => by cases h with | head => exact ec_kpok _ (of_decide_eq_true (by kernel_rfl)) | tail _ h => cases h) (fun _ h => by cases h) j0l j0t (Abs.j3p j3e)) j0k _ 1000000 (ec_kcrun)
  (Abs.j2q (F := ec_kc) (pats := [[0, 1], [2, 4, 1]]) (fun p hp γ h => by
    have H := Abs.mem_of h
    simp only [List.mem_cons, List.not_mem_nil, or_false] at hp
    rcases hp with rfl | rfl
    · exact Abs.check_parts kHK (H 1 rfl) (H 0 rfl)
    · exact Abs.check_sound kHK (H 1 rfl) (H 4 rfl) (H 2 rfl)) (by kernel_rfl))
noncomputable def ec_kt  : Nat → Abs.Fact := fun i => ([
  .rel "parts" true (Abs.j0q kK kT (kB + 4)) [(.int .i64 (.ofNat 2)), (.a2 .sn (.a2 .sn (.a2 .sn (.a2 .sn (.a2 .sn (.a2 .sn (.a2 .sn (.a2 .sn (.a1 (.nl [(.int .i64), (.int .i64), .str, (.sl 24)]) (.bool true)) (.var 8)) (.var 9)) (.var 10)) (.var 11)) (.int .i64 (.ofNat 2))) (.int .i64 (.ofNat 0))) (.var 7)) (.a1 (.ns 24 4) (.bool true)))],
  .rel "term" false (Abs.j0r kK kT kB) [(.var 8), (.var 9), (.var 10), (.var 11)],
  .rel "sound" false Abs.j3a [(.var 8), (.var 9), (.var 10), (.var 11)],
  .rel "atom" false Abs.pAtom [(.var 7)],
  .rel "snd" true (Abs.pSnd kK kT) [(.int .i64 (.ofNat 2)), (.a2 .sn (.a2 .sn (.a2 .sn (.a2 .sn (.a2 .sn (.a2 .sn (.a2 .sn (.a2 .sn (.a1 (.nl [(.int .i64), (.int .i64), .str, (.sl 24)]) (.bool true)) (.var 8)) (.var 9)) (.var 10)) (.var 11)) (.int .i64 (.ofNat 2))) (.int .i64 (.ofNat 0))) (.var 7)) (.a1 (.ns 24 4) (.bool true)))],
  .rel "wrd" true (Abs.pWrd kK kT) [(.int .i64 (.ofNat 2)), (.int .i64 (.ofNat 2)), (.a2 .sn (.a2 .sn (.a2 .sn (.a2 .sn (.a2 .sn (.a2 .sn (.a2 .sn (.a2 .sn (.a1 (.nl [(.int .i64), (.int .i64), .str, (.sl 24)]) (.bool true)) (.var 8)) (.var 9)) (.var 10)) (.var 11)) (.int .i64 (.ofNat 2))) (.int .i64 (.ofNat 0))) (.var 7)) (.a1 (.ns 24 4) (.bool true)))],
  .tr (.a2 (.bin .gtr) (.var 34) (.int .i64 (.ofNat 65536))),
  .rel "wrds" false (Abs.pWrds kK kT) [(.var 34), (.int .i64 (.ofNat 2)), (.int .i64 (.ofNat 2)), (.a2 .sn (.a2 .sn (.a2 .sn (.a2 .sn (.a2 .sn (.a2 .sn (.a2 .sn (.a2 .sn (.a1 (.nl [(.int .i64), (.int .i64), .str, (.sl 24)]) (.bool true)) (.var 8)) (.var 9)) (.var 10)) (.var 11)) (.int .i64 (.ofNat 2))) (.int .i64 (.ofNat 0))) (.var 7)) (.a1 (.ns 24 4) (.bool true)))]] : List Abs.Fact).getD i (.tr (.bool true))
noncomputable def ec_ktR : List (List Nat) := [[0, 1, 2, 3], [4, 1, 2, 3], [5, 1, 2, 3], [6, 7, 1, 2, 3]]
theorem ec_ktrun  (tl : List Deferred) : Abs.R.res (fun _ => true) ((Abs.runF (Abs.j1i Tryz.prog (fun _ => false) j1u [] [Abs.j2i Tryz.prog kU "parts" (Abs.j0q kK kT (kB + 4)) (Abs.pSnd kK kT) (Abs.pWrd kK kT) (Abs.pWrds kK kT)]) 1000000 ((Abs.conTupB Tryz.prog kU (Abs.j0r kK kT kB) Abs.j3a Abs.pAtom).fi tl) (Abs.conTupB Tryz.prog kU (Abs.j0r kK kT kB) Abs.j3a Abs.pAtom).tr (Abs.conTupB Tryz.prog kU (Abs.j0r kK kT kB) Abs.j3a Abs.pAtom).todo [] .run none (Abs.conTupB Tryz.prog kU (Abs.j0r kK kT kB) Abs.j3a Abs.pAtom).S).bind (Abs.conLook (Abs.j1i Tryz.prog (fun _ => false) j1u [] [Abs.j2i Tryz.prog kU "parts" (Abs.j0q kK kT (kB + 4)) (Abs.pSnd kK kT) (Abs.pWrd kK kT) (Abs.pWrds kK kT)]) (Abs.conTupB Tryz.prog kU (Abs.j0r kK kT kB) Abs.j3a Abs.pAtom))) = some (ec_ktR.map fun r => r.map (ec_kt)) := by kernel_rfl
theorem ec_ktok : Abs.j1w Tryz.prog (Abs.conTupB Tryz.prog kU (Abs.j0r kK kT kB) Abs.j3a Abs.pAtom) := Abs.con_of (Abs.j3g (fun c h => by cases h with | head => exact ec_kqok _ (of_decide_eq_true (by kernel_rfl)) | tail _ h => cases h) (fun _ h => by cases h) j0l j0t (Abs.j3p j3e)) j0k _ 1000000 (ec_ktrun)
  (Abs.j2q (F := ec_kt) (pats := [[0, 1, 3], [4, 1, 3, 2], [5, 1, 3], [6, 1, 3, 7]]) (fun p hp γ h => by
    have H := Abs.mem_of h
    simp only [List.mem_cons, List.not_mem_nil, or_false] at hp
    rcases hp with rfl | rfl | rfl | rfl
    · exact Abs.tup_parts kHK (H 1 rfl) (H 3 rfl) (Nat.le_refl _) (H 0 rfl)
    · exact Abs.tup_snd kHK (H 1 rfl) (H 3 rfl) (H 2 rfl) (H 4 rfl)
    · exact Abs.tup_wrd kHK kHB (H 1 rfl) (H 3 rfl) (H 5 rfl)
    · exact Abs.tup_words kHK kHB2 (H 1 rfl) (H 3 rfl) (H 7 rfl) (H 6 rfl)) (by kernel_rfl))
noncomputable def ec_ksl (N M : Nat) : Nat → Abs.Fact := fun i => ([
  .rel "out" false Abs.pOut [(.var 13), (.a1 .len (.var 10))],
  .tr (.a2 (.bin .lss) (.var 12) (.var 11)),
  .tr (.a2 (.bin .lss) (.var 13) (.a1 .len (.var 10))),
  .rel "sl" false (Abs.pSl2 kK kT N (M + 1)) [(.var 10), (.var 13), (.var 12), (.var 11)],
  .rel "terms" true (Abs.j0r kK kT N) [(.a1 (.ld 0) (.a2 .el (.var 10) (.var 13))), (.a1 (.ld 1) (.a2 .el (.var 10) (.var 13))), (.a1 (.ld 2) (.a2 .el (.var 10) (.var 13))), (.a1 (.ld 3) (.a2 .el (.var 10) (.var 13)))],
  .rel "most" true Abs.pMost [(.a2 (.bin .sub) (.var 11) (.var 12))],
  .rel "sl" true (Abs.pSl2 kK kT N M) [(.var 10), (.a2 (.bin .add) (.var 13) (.int .i64 (.ofNat 1))), (.a2 (.bin .add) (.var 12) (.var 15)), (.var 11)],
  .rel "sz" false (Abs.pSz kT) [(.a2 (.bin .sub) (.var 11) (.var 12)), (.var 15), (.a1 (.ld 3) (.a2 .el (.var 10) (.var 13)))],
  .rel "sz" true (Abs.pSz kT) [(.var 11), (.var 16), (.var 10)],
  .rel "sz" false (Abs.pSz kT) [(.var 11), (.var 16), (.var 10)],
  .rel "sz" true (Abs.pSz kT) [(.var 11), (.var 12), (.var 10)],
  .fl (.a2 (.bin .lss) (.var 12) (.var 11)),
  .fl (.a2 (.bin .lss) (.var 13) (.a1 .len (.var 10)))] : List Abs.Fact).getD i (.tr (.bool true))
noncomputable def ec_kslR : List (List Nat) := [[0, 1, 2, 3], [4, 1, 2, 3], [5, 1, 2, 3], [6, 7, 1, 2, 3], [8, 9, 7, 1, 2, 3], [10, 11, 2, 3], [10, 12, 3]]
theorem ec_kslrun (N M : Nat) (tl : List Deferred) : Abs.R.res (fun _ => true) ((Abs.runF (Abs.j1i Tryz.prog (fun _ => false) j1u [] [Abs.j3j Tryz.prog kU kA "sl" (Abs.pSl2 kK kT N M) (Abs.pSz kT), Abs.conSize Tryz.prog kU kA "terms" (Abs.j0r kK kT N) Abs.pMost (Abs.pSz kT)]) 1000000 ((Abs.j3j Tryz.prog kU kA "sl" (Abs.pSl2 kK kT N (M + 1)) (Abs.pSz kT)).fi tl) (Abs.j3j Tryz.prog kU kA "sl" (Abs.pSl2 kK kT N (M + 1)) (Abs.pSz kT)).tr (Abs.j3j Tryz.prog kU kA "sl" (Abs.pSl2 kK kT N (M + 1)) (Abs.pSz kT)).todo [] .run none (Abs.j3j Tryz.prog kU kA "sl" (Abs.pSl2 kK kT N (M + 1)) (Abs.pSz kT)).S).bind (Abs.conLook (Abs.j1i Tryz.prog (fun _ => false) j1u [] [Abs.j3j Tryz.prog kU kA "sl" (Abs.pSl2 kK kT N M) (Abs.pSz kT), Abs.conSize Tryz.prog kU kA "terms" (Abs.j0r kK kT N) Abs.pMost (Abs.pSz kT)]) (Abs.j3j Tryz.prog kU kA "sl" (Abs.pSl2 kK kT N (M + 1)) (Abs.pSz kT)))) = some (ec_kslR.map fun r => r.map (ec_ksl N M)) := by kernel_rfl
noncomputable def ec_kse (N : Nat) : Nat → Abs.Fact := fun i => ([
  .rel "sz" true (Abs.pSz kT) [(.var 11), (.var 11), (.var 10)],
  .tr (.a2 (.bin .gtr) (.a1 .len (.var 9)) (.int .i64 (.ofNat 100))),
  .rel "terms" false (Abs.j0r kK kT (N + 1)) [(.var 7), (.var 8), (.var 9), (.var 10)],
  .rel "most" false Abs.pMost [(.var 11)],
  .tr (.a2 (.bin .gtr) (.a1 .len (.var 10)) (.var 11)),
  .fl (.a2 (.bin .gtr) (.a1 .len (.var 9)) (.int .i64 (.ofNat 100))),
  .rel "sl" true (Abs.pSl2 kK kT N (N + 1)) [(.var 10), (.int .i64 (.ofNat 0)), (.int .i64 (.ofNat 1)), (.var 11)],
  .fl (.a2 (.bin .gtr) (.a1 .len (.var 10)) (.var 11)),
  .rel "sz" true (Abs.pSz kT) [(.var 11), (.var 13), (.var 10)],
  .rel "sz" false (Abs.pSz kT) [(.var 11), (.var 13), (.var 10)]] : List Abs.Fact).getD i (.tr (.bool true))
noncomputable def ec_kseR : List (List Nat) := [[0, 1, 2, 3], [0, 4, 5, 2, 3], [6, 7, 5, 2, 3], [8, 9, 7, 5, 2, 3]]
theorem ec_kserun (N : Nat) (tl : List Deferred) : Abs.R.res (fun _ => true) ((Abs.runF (Abs.j1i Tryz.prog (fun _ => false) j1u [] [Abs.j3j Tryz.prog kU kA "sl" (Abs.pSl2 kK kT N (N + 1)) (Abs.pSz kT)]) 1000000 ((Abs.conSize Tryz.prog kU kA "terms" (Abs.j0r kK kT (N + 1)) Abs.pMost (Abs.pSz kT)).fi tl) (Abs.conSize Tryz.prog kU kA "terms" (Abs.j0r kK kT (N + 1)) Abs.pMost (Abs.pSz kT)).tr (Abs.conSize Tryz.prog kU kA "terms" (Abs.j0r kK kT (N + 1)) Abs.pMost (Abs.pSz kT)).todo [] .run none (Abs.conSize Tryz.prog kU kA "terms" (Abs.j0r kK kT (N + 1)) Abs.pMost (Abs.pSz kT)).S).bind (Abs.conLook (Abs.j1i Tryz.prog (fun _ => false) j1u [] [Abs.j3j Tryz.prog kU kA "sl" (Abs.pSl2 kK kT N (N + 1)) (Abs.pSz kT)]) (Abs.conSize Tryz.prog kU kA "terms" (Abs.j0r kK kT (N + 1)) Abs.pMost (Abs.pSz kT)))) = some (ec_kseR.map fun r => r.map (ec_kse N)) := by kernel_rfl
theorem ec_kslstep (N M : Nat) (hS : Abs.j1w Tryz.prog (Abs.conSize Tryz.prog kU kA "terms" (Abs.j0r kK kT N) Abs.pMost (Abs.pSz kT))) (hL : Abs.j1w Tryz.prog (Abs.j3j Tryz.prog kU kA "sl" (Abs.pSl2 kK kT N M) (Abs.pSz kT))) : Abs.j1w Tryz.prog (Abs.j3j Tryz.prog kU kA "sl" (Abs.pSl2 kK kT N (M + 1)) (Abs.pSz kT)) := Abs.con_of (Abs.j3g (fun c h => by cases h with | head => exact hL | tail _ h => cases h with | head => exact hS | tail _ h => cases h) (fun _ h => by cases h) j0l j0t (Abs.j3p j3e)) j0k _ 1000000 (ec_kslrun N M)
  (Abs.j2q (F := ec_ksl N M) (pats := [[0, 2, 3], [4, 2, 3], [5, 1, 3], [6, 7, 2, 1, 3], [8, 9], [10, 11, 3], [10, 12, 3]]) (fun p hp γ h => by
    have H := Abs.mem_of h
    simp only [List.mem_cons, List.not_mem_nil, or_false] at hp
    rcases hp with rfl | rfl | rfl | rfl | rfl | rfl | rfl
    · exact Abs.sz_out (H 3 rfl) (H 2 rfl) (H 0 rfl)
    · exact Abs.sz_term kHK (H 3 rfl) (H 2 rfl) (H 4 rfl)
    · exact Abs.sz_most (H 3 rfl) (H 1 rfl) (H 5 rfl)
    · exact Abs.sz_next kHK (H 3 rfl) (H 2 rfl) (H 1 rfl) (H 7 rfl) (H 6 rfl)
    · exact (H 8 rfl) (H 9 rfl)
    · exact Abs.sz_end2 (H 3 rfl) (H 11 rfl) (H 10 rfl)
    · exact Abs.sz_end1 kHK (H 3 rfl) (H 12 rfl) (H 10 rfl)) (by kernel_rfl))
theorem ec_ksestep (N : Nat) (hL : Abs.j1w Tryz.prog (Abs.j3j Tryz.prog kU kA "sl" (Abs.pSl2 kK kT N (N + 1)) (Abs.pSz kT))) : Abs.j1w Tryz.prog (Abs.conSize Tryz.prog kU kA "terms" (Abs.j0r kK kT (N + 1)) Abs.pMost (Abs.pSz kT)) := Abs.con_of (Abs.j3g (fun c h => by cases h with | head => exact hL | tail _ h => cases h) (fun _ h => by cases h) j0l j0t (Abs.j3p j3e)) j0k _ 1000000 (ec_kserun N)
  (Abs.j2q (F := ec_kse N) (pats := [[0, 2, 3], [6, 7, 2, 3], [8, 9]]) (fun p hp γ h => by
    have H := Abs.mem_of h
    simp only [List.mem_cons, List.not_mem_nil, or_false] at hp
    rcases hp with rfl | rfl | rfl
    · exact Abs.sz_big kHK (H 2 rfl) (H 3 rfl) (H 0 rfl)
    · exact Abs.sz_start kHK (H 2 rfl) (H 3 rfl) (H 7 rfl) (H 6 rfl)
    · exact (H 8 rfl) (H 9 rfl)) (by kernel_rfl))
theorem ec_ksok (B : Nat) : Abs.j1w Tryz.prog (Abs.conSize Tryz.prog kU kA "terms" (Abs.j0r kK kT B) Abs.pMost (Abs.pSz kT)) := Abs.two_all (cS := fun N => Abs.conSize Tryz.prog kU kA "terms" (Abs.j0r kK kT N) Abs.pMost (Abs.pSz kT)) (cL := fun N M => Abs.j3j Tryz.prog kU kA "sl" (Abs.pSl2 kK kT N M) (Abs.pSz kT)) (B := B) (Abs.j4m fun γ hf => Abs.term_zero (hf _ List.mem_cons_self)) (fun N => Abs.j4m fun γ hf => Abs.sl2_zero (hf _ List.mem_cons_self))
  (fun N M _ hS hL => ec_kslstep N M hS hL)
  (fun N _ hL => ec_ksestep N hL) B (Nat.le_refl _)
noncomputable def ec_kcl (N M : Nat) : Nat → Abs.Fact := fun i => ([
  .rel "out" false Abs.pOut [(.var 16), (.a1 .len (.var 10))],
  .tr (.a2 (.bin .lss) (.var 16) (.a1 .len (.var 10))),
  .rel "copy" false (Abs.j4p kK kT N (M + 1)) [(.var 10), (.var 17), (.var 15), (.var 16)],
  .rel "term" true (Abs.j0r kK kT N) [(.a1 (.ld 0) (.a2 .el (.var 10) (.var 16))), (.a1 (.ld 1) (.a2 .el (.var 10) (.var 16))), (.a1 (.ld 2) (.a2 .el (.var 10) (.var 16))), (.a1 (.ld 3) (.a2 .el (.var 10) (.var 16)))],
  .rel "out" false Abs.pOut [(.var 16), (.var 15)],
  .rel "cop" false (Abs.pCop kK kT) [(.a1 (.ld 3) (.a2 .el (.var 10) (.var 16))), (.var 23)],
  .rel "hole" false (Abs.pHole 4) [(.var 17), (.var 16)],
  .rel "copy" true (Abs.j4p kK kT N M) [(.var 10), (.a3 (.up 4 3) (.a3 (.up 4 2) (.a3 (.up 4 1) (.a3 (.up 4 0) (.var 17) (.var 16) (.a1 (.ld 0) (.a2 .el (.var 10) (.var 16)))) (.var 16) (.a1 (.ld 1) (.a2 .el (.var 10) (.var 16)))) (.var 16) (.a1 (.ld 2) (.a2 .el (.var 10) (.var 16)))) (.var 16) (.var 23)), (.var 15), (.a2 (.bin .add) (.var 16) (.int .i64 (.ofNat 1)))],
  .rel "cop" true (Abs.pCop kK kT) [(.var 10), (.var 24)],
  .rel "cop" false (Abs.pCop kK kT) [(.var 10), (.var 24)],
  .rel "short" false (Abs.pShort 4) [(.var 17), (.var 15)],
  .fl (.a2 (.bin .lss) (.var 16) (.a1 .len (.var 10))),
  .rel "cop" true (Abs.pCop kK kT) [(.var 10), (.var 22)],
  .rel "frz" false (Abs.pFrz kT 4) [(.var 22), (.var 17), (.var 15)]] : List Abs.Fact).getD i (.tr (.bool true))
noncomputable def ec_kclR : List (List Nat) := [[0, 1, 2], [3, 1, 2], [4, 5, 1, 2], [6, 5, 1, 2], [7, 5, 1, 2], [8, 9, 5, 1, 2], [10, 11, 2], [12, 13, 11, 2]]
theorem ec_kclrun (N M : Nat) (tl : List Deferred) : Abs.R.res (fun _ => true) ((Abs.runF (Abs.j1i Tryz.prog (fun _ => false) j1u [] [Abs.j3h Tryz.prog kU kA "copy" (Abs.j4p kK kT N M) (Abs.pCop kK kT), Abs.conCopy Tryz.prog kU kA "term" (Abs.j0r kK kT N) (Abs.pCop kK kT)]) 1000000 ((Abs.j3h Tryz.prog kU kA "copy" (Abs.j4p kK kT N (M + 1)) (Abs.pCop kK kT)).fi tl) (Abs.j3h Tryz.prog kU kA "copy" (Abs.j4p kK kT N (M + 1)) (Abs.pCop kK kT)).tr (Abs.j3h Tryz.prog kU kA "copy" (Abs.j4p kK kT N (M + 1)) (Abs.pCop kK kT)).todo [] .run none (Abs.j3h Tryz.prog kU kA "copy" (Abs.j4p kK kT N (M + 1)) (Abs.pCop kK kT)).S).bind (Abs.conLook (Abs.j1i Tryz.prog (fun _ => false) j1u [] [Abs.j3h Tryz.prog kU kA "copy" (Abs.j4p kK kT N M) (Abs.pCop kK kT), Abs.conCopy Tryz.prog kU kA "term" (Abs.j0r kK kT N) (Abs.pCop kK kT)]) (Abs.j3h Tryz.prog kU kA "copy" (Abs.j4p kK kT N (M + 1)) (Abs.pCop kK kT)))) = some (ec_kclR.map fun r => r.map (ec_kcl N M)) := by kernel_rfl
noncomputable def ec_kce (N : Nat) : Nat → Abs.Fact := fun i => ([
  .rel "cop" true (Abs.pCop kK kT) [(.var 10), (.a1 (.ns 24 4) (.bool true))],
  .tr (.a2 (.bin .eql) (.a1 .len (.var 10)) (.int .i64 (.ofNat 0))),
  .rel "term" false (Abs.j0r kK kT (N + 1)) [(.var 7), (.var 8), (.var 9), (.var 10)],
  .rel "make" false (Abs.pMake 56) [(.a1 .len (.var 10))],
  .fl (.a2 (.bin .eql) (.a1 .len (.var 10)) (.int .i64 (.ofNat 0))),
  .rel "copy" true (Abs.j4p kK kT N (N + 1)) [(.var 10), (.a1 (.zs [(.int .i64), (.int .i64), .str, (.sl 24)] [0, 0, 0, 4]) (.a1 .len (.var 10))), (.a1 .len (.var 10)), (.int .i64 (.ofNat 0))],
  .rel "cop" true (Abs.pCop kK kT) [(.var 10), (.var 15)],
  .rel "cop" false (Abs.pCop kK kT) [(.var 10), (.var 15)]] : List Abs.Fact).getD i (.tr (.bool true))
noncomputable def ec_kceR : List (List Nat) := [[0, 1, 2], [3, 4, 2], [5, 4, 2], [6, 7, 4, 2]]
theorem ec_kcerun (N : Nat) (tl : List Deferred) : Abs.R.res (fun _ => true) ((Abs.runF (Abs.j1i Tryz.prog (fun _ => false) j1u [] [Abs.j3h Tryz.prog kU kA "copy" (Abs.j4p kK kT N (N + 1)) (Abs.pCop kK kT)]) 1000000 ((Abs.conCopy Tryz.prog kU kA "term" (Abs.j0r kK kT (N + 1)) (Abs.pCop kK kT)).fi tl) (Abs.conCopy Tryz.prog kU kA "term" (Abs.j0r kK kT (N + 1)) (Abs.pCop kK kT)).tr (Abs.conCopy Tryz.prog kU kA "term" (Abs.j0r kK kT (N + 1)) (Abs.pCop kK kT)).todo [] .run none (Abs.conCopy Tryz.prog kU kA "term" (Abs.j0r kK kT (N + 1)) (Abs.pCop kK kT)).S).bind (Abs.conLook (Abs.j1i Tryz.prog (fun _ => false) j1u [] [Abs.j3h Tryz.prog kU kA "copy" (Abs.j4p kK kT N (N + 1)) (Abs.pCop kK kT)]) (Abs.conCopy Tryz.prog kU kA "term" (Abs.j0r kK kT (N + 1)) (Abs.pCop kK kT)))) = some (ec_kceR.map fun r => r.map (ec_kce N)) := by kernel_rfl
theorem ec_kclstep {N : Nat} (hN : N ≤ 1073741824) (M : Nat) (hS : Abs.j1w Tryz.prog (Abs.conCopy Tryz.prog kU kA "term" (Abs.j0r kK kT N) (Abs.pCop kK kT))) (hL : Abs.j1w Tryz.prog (Abs.j3h Tryz.prog kU kA "copy" (Abs.j4p kK kT N M) (Abs.pCop kK kT))) : Abs.j1w Tryz.prog (Abs.j3h Tryz.prog kU kA "copy" (Abs.j4p kK kT N (M + 1)) (Abs.pCop kK kT)) := Abs.con_of (Abs.j3g (fun c h => by cases h with | head => exact hL | tail _ h => cases h with | head => exact hS | tail _ h => cases h) (fun _ h => by cases h) j0l j0t (Abs.j3p j3e)) j0k _ 1000000 (ec_kclrun N M)
  (Abs.j2q (F := ec_kcl N M) (pats := [[0, 1, 2], [3, 1, 2], [4, 1, 2], [6, 1, 2], [7, 5, 1, 2], [8, 9], [10, 2], [12, 13, 11, 2]]) (fun p hp γ h => by
    have H := Abs.mem_of h
    simp only [List.mem_cons, List.not_mem_nil, or_false] at hp
    rcases hp with rfl | rfl | rfl | rfl | rfl | rfl | rfl | rfl
    · exact Abs.copy_out (H 2 rfl) (H 1 rfl) (H 0 rfl)
    · exact Abs.copy_term kHK (H 2 rfl) (H 1 rfl) (H 3 rfl)
    · exact Abs.copy_out2 (H 2 rfl) (H 1 rfl) (H 4 rfl)
    · exact Abs.copy_hole (H 2 rfl) (H 1 rfl) (H 6 rfl)
    · exact Abs.copy_next kHK hN (H 2 rfl) (H 1 rfl) (H 5 rfl) (H 7 rfl)
    · exact (H 8 rfl) (H 9 rfl)
    · exact Abs.copy_short (H 2 rfl) (H 10 rfl)
    · exact Abs.copy_end kHK (H 2 rfl) (H 11 rfl) (H 13 rfl) (H 12 rfl)) (by kernel_rfl))
theorem ec_kcestep {N : Nat} (hN : N + 1 ≤ 1073741824) (hL : Abs.j1w Tryz.prog (Abs.j3h Tryz.prog kU kA "copy" (Abs.j4p kK kT N (N + 1)) (Abs.pCop kK kT))) : Abs.j1w Tryz.prog (Abs.conCopy Tryz.prog kU kA "term" (Abs.j0r kK kT (N + 1)) (Abs.pCop kK kT)) := Abs.con_of (Abs.j3g (fun c h => by cases h with | head => exact hL | tail _ h => cases h) (fun _ h => by cases h) j0l j0t (Abs.j3p j3e)) j0k _ 1000000 (ec_kcerun N)
  (Abs.j2q (F := ec_kce N) (pats := [[0, 1, 2], [3, 2], [5, 2], [6, 7]]) (fun p hp γ h => by
    have H := Abs.mem_of h
    simp only [List.mem_cons, List.not_mem_nil, or_false] at hp
    rcases hp with rfl | rfl | rfl | rfl
    · exact Abs.copy_none kHK (H 2 rfl) (H 1 rfl) (H 0 rfl)
    · exact Abs.term_make kHK hN (by omega) (H 2 rfl) (H 3 rfl)
    · exact Abs.term_copy kHK (H 2 rfl) (H 5 rfl)
    · exact (H 6 rfl) (H 7 rfl)) (by kernel_rfl))
theorem ec_kdok : ∀ B, B ≤ 1073741824 → Abs.j1w Tryz.prog (Abs.conCopy Tryz.prog kU kA "term" (Abs.j0r kK kT B) (Abs.pCop kK kT)) := Abs.two_all (cS := fun N => Abs.conCopy Tryz.prog kU kA "term" (Abs.j0r kK kT N) (Abs.pCop kK kT)) (cL := fun N M => Abs.j3h Tryz.prog kU kA "copy" (Abs.j4p kK kT N M) (Abs.pCop kK kT)) (B := 1073741824) (Abs.j4m fun γ hf => Abs.term_zero (hf _ List.mem_cons_self)) (fun N => Abs.j4m fun γ hf => Abs.copy_zero (hf _ List.mem_cons_self))
  (fun N M hN hS hL => ec_kclstep hN M hS hL)
  (fun N hN hL => ec_kcestep hN hL)
noncomputable def ec_kal (N M : Nat) : Nat → Abs.Fact := fun i => ([
  .rel "al" true (Abs.pAl kK kT N) [(.a1 (.ld 3) (.a2 .el (.var 7) (.var 9))), (.a1 (.ld 3) (.a2 .el (.var 8) (.var 9)))],
  .tr (.a2 (.bin .eql) (.a1 (.ld 2) (.a2 .el (.var 7) (.var 9))) (.a1 (.ld 2) (.a2 .el (.var 8) (.var 9)))),
  .tr (.a2 (.bin .eql) (.a1 (.ld 1) (.a2 .el (.var 7) (.var 9))) (.a1 (.ld 1) (.a2 .el (.var 8) (.var 9)))),
  .tr (.a2 (.bin .eql) (.a1 (.ld 0) (.a2 .el (.var 7) (.var 9))) (.a1 (.ld 0) (.a2 .el (.var 8) (.var 9)))),
  .tr (.a2 (.bin .lss) (.var 9) (.a1 .len (.var 7))),
  .rel "als" false (Abs.pAls kK kT N (M + 1)) [(.var 7), (.var 8), (.var 9)],
  .inr (.var 9) (.int .i64 (.ofNat 1073741825)),
  .tr (.a2 (.bin .eql) (.a1 .len (.var 7)) (.a1 .len (.var 8))),
  .rel "als" true (Abs.pAls kK kT N M) [(.var 7), (.var 8), (.a2 (.bin .add) (.var 9) (.int .i64 (.ofNat 1)))],
  .rel "in" true Abs.pIn [(.a2 (.bin .add) (.var 9) (.int .i64 (.ofNat 1))), (.int .i64 (.ofNat 1073741825))],
  .rel "tr" true Abs.pTr [(.a2 (.bin .eql) (.a1 .len (.var 7)) (.a1 .len (.var 8)))],
  .fl (.a2 (.bin .eql) (.a1 (.ld 2) (.a2 .el (.var 7) (.var 9))) (.a1 (.ld 2) (.a2 .el (.var 8) (.var 9)))),
  .fl (.a2 (.bin .eql) (.a1 (.ld 1) (.a2 .el (.var 7) (.var 9))) (.a1 (.ld 1) (.a2 .el (.var 8) (.var 9)))),
  .fl (.a2 (.bin .eql) (.a1 (.ld 0) (.a2 .el (.var 7) (.var 9))) (.a1 (.ld 0) (.a2 .el (.var 8) (.var 9))))] : List Abs.Fact).getD i (.tr (.bool true))
noncomputable def ec_kalR : List (List Nat) := [[0, 1, 2, 3, 4, 5, 6, 7], [8, 1, 2, 3, 4, 5, 6, 7], [9, 1, 2, 3, 4, 5, 6, 7], [10, 1, 2, 3, 4, 5, 6, 7], [11, 2, 3, 4, 5, 6, 7], [12, 3, 4, 5, 6, 7], [13, 4, 5, 6, 7]]
theorem ec_kalrun (N M : Nat) (tl : List Deferred) : Abs.R.res (fun _ => true) ((Abs.runF (Abs.j1i Tryz.prog (fun _ => false) j1u [] [Abs.j3n Tryz.prog kU 27 27 "als" (Abs.pAls kK kT N M), Abs.conSame Tryz.prog kU 27 27 "al" (Abs.pAl kK kT N)]) 1000000 ((Abs.j3n Tryz.prog kU 27 27 "als" (Abs.pAls kK kT N (M + 1))).fi tl) (Abs.j3n Tryz.prog kU 27 27 "als" (Abs.pAls kK kT N (M + 1))).tr (Abs.j3n Tryz.prog kU 27 27 "als" (Abs.pAls kK kT N (M + 1))).todo [] .run none (Abs.j3n Tryz.prog kU 27 27 "als" (Abs.pAls kK kT N (M + 1))).S).bind (Abs.conLook (Abs.j1i Tryz.prog (fun _ => false) j1u [] [Abs.j3n Tryz.prog kU 27 27 "als" (Abs.pAls kK kT N M), Abs.conSame Tryz.prog kU 27 27 "al" (Abs.pAl kK kT N)]) (Abs.j3n Tryz.prog kU 27 27 "als" (Abs.pAls kK kT N (M + 1))))) = some (ec_kalR.map fun r => r.map (ec_kal N M)) := by kernel_rfl
noncomputable def ec_kae (N : Nat) : Nat → Abs.Fact := fun i => ([
  .tr (.a2 (.bin .neq) (.a1 .len (.var 7)) (.a1 .len (.var 8))),
  .rel "al" false (Abs.pAl kK kT (N + 1)) [(.var 7), (.var 8)],
  .rel "als" true (Abs.pAls kK kT N (N + 1)) [(.var 7), (.var 8), (.int .i64 (.ofNat 0))],
  .fl (.a2 (.bin .neq) (.a1 .len (.var 7)) (.a1 .len (.var 8))),
  .rel "in" true Abs.pIn [(.int .i64 (.ofNat 0)), (.int .i64 (.ofNat 1073741825))],
  .rel "tr" true Abs.pTr [(.a2 (.bin .eql) (.a1 .len (.var 7)) (.a1 .len (.var 8)))]] : List Abs.Fact).getD i (.tr (.bool true))
noncomputable def ec_kaeR : List (List Nat) := [[0, 1], [2, 3, 1], [4, 3, 1], [5, 3, 1]]
theorem ec_kaerun (N : Nat) (tl : List Deferred) : Abs.R.res (fun _ => true) ((Abs.runF (Abs.j1i Tryz.prog (fun _ => false) j1u [] [Abs.j3n Tryz.prog kU 27 27 "als" (Abs.pAls kK kT N (N + 1))]) 1000000 ((Abs.conSame Tryz.prog kU 27 27 "al" (Abs.pAl kK kT (N + 1))).fi tl) (Abs.conSame Tryz.prog kU 27 27 "al" (Abs.pAl kK kT (N + 1))).tr (Abs.conSame Tryz.prog kU 27 27 "al" (Abs.pAl kK kT (N + 1))).todo [] .run none (Abs.conSame Tryz.prog kU 27 27 "al" (Abs.pAl kK kT (N + 1))).S).bind (Abs.conLook (Abs.j1i Tryz.prog (fun _ => false) j1u [] [Abs.j3n Tryz.prog kU 27 27 "als" (Abs.pAls kK kT N (N + 1))]) (Abs.conSame Tryz.prog kU 27 27 "al" (Abs.pAl kK kT (N + 1))))) = some (ec_kaeR.map fun r => r.map (ec_kae N)) := by kernel_rfl
theorem ec_kalstep {N : Nat} (hN : N ≤ 1073741824) (M : Nat) (hS : Abs.j1w Tryz.prog (Abs.conSame Tryz.prog kU 27 27 "al" (Abs.pAl kK kT N))) (hL : Abs.j1w Tryz.prog (Abs.j3n Tryz.prog kU 27 27 "als" (Abs.pAls kK kT N M))) : Abs.j1w Tryz.prog (Abs.j3n Tryz.prog kU 27 27 "als" (Abs.pAls kK kT N (M + 1))) := Abs.con_of (Abs.j3g (fun c h => by cases h with | head => exact hL | tail _ h => cases h with | head => exact hS | tail _ h => cases h) (fun _ h => by cases h) j0l j0t (Abs.j3p j3e)) j0k _ 1000000 (ec_kalrun N M)
  (Abs.j2q (F := ec_kal N M) (pats := [[0, 4, 5], [8, 4, 5], [9, 4, 5], [10, 5], [11, 4, 5], [12, 4, 5], [13, 4, 5]]) (fun p hp γ h => by
    have H := Abs.mem_of h
    simp only [List.mem_cons, List.not_mem_nil, or_false] at hp
    rcases hp with rfl | rfl | rfl | rfl | rfl | rfl | rfl
    · exact Abs.als_inner kHK (H 5 rfl) (H 4 rfl) (H 0 rfl)
    · exact Abs.als_next kHK hN (H 5 rfl) (H 4 rfl) (H 8 rfl)
    · exact Abs.als_in kHK hN (H 5 rfl) (H 4 rfl) (H 9 rfl)
    · exact Abs.als_tr (H 5 rfl) (H 10 rfl)
    · exact Abs.als_ne (q := 2) kHK (by decide) (H 5 rfl) (H 4 rfl) (H 11 rfl)
    · exact Abs.als_ne (q := 1) kHK (by decide) (H 5 rfl) (H 4 rfl) (H 12 rfl)
    · exact Abs.als_ne (q := 0) kHK (by decide) (H 5 rfl) (H 4 rfl) (H 13 rfl)) (by kernel_rfl))
theorem ec_kaestep {N : Nat} (hN : N + 1 ≤ 1073741824) (hL : Abs.j1w Tryz.prog (Abs.j3n Tryz.prog kU 27 27 "als" (Abs.pAls kK kT N (N + 1)))) : Abs.j1w Tryz.prog (Abs.conSame Tryz.prog kU 27 27 "al" (Abs.pAl kK kT (N + 1))) := Abs.con_of (Abs.j3g (fun c h => by cases h with | head => exact hL | tail _ h => cases h) (fun _ h => by cases h) j0l j0t (Abs.j3p j3e)) j0k _ 1000000 (ec_kaerun N)
  (Abs.j2q (F := ec_kae N) (pats := [[0, 1], [2, 1], [4], [5, 1]]) (fun p hp γ h => by
    have H := Abs.mem_of h
    simp only [List.mem_cons, List.not_mem_nil, or_false] at hp
    rcases hp with rfl | rfl | rfl | rfl
    · exact Abs.al_len (H 1 rfl) (H 0 rfl)
    · exact Abs.al_start kHK (H 1 rfl) (H 2 rfl)
    · exact Abs.in_zero (H 4 rfl)
    · exact Abs.al_tr (H 1 rfl) (H 5 rfl)) (by kernel_rfl))
theorem ec_kalok : ∀ B, B ≤ 1073741824 → Abs.j1w Tryz.prog (Abs.conSame Tryz.prog kU 27 27 "al" (Abs.pAl kK kT B)) := Abs.two_all (cS := fun N => Abs.conSame Tryz.prog kU 27 27 "al" (Abs.pAl kK kT N)) (cL := fun N M => Abs.j3n Tryz.prog kU 27 27 "als" (Abs.pAls kK kT N M)) (B := 1073741824) (Abs.j4m fun γ hf => Abs.al_zero (hf _ List.mem_cons_self)) (fun N => Abs.j4m fun γ hf => Abs.als_zero (hf _ List.mem_cons_self))
  (fun N M hN hS hL => ec_kalstep hN M hS hL)
  (fun N hN hL => ec_kaestep hN hL)
end Go.Proofs.YtkgnlfmfenmihaaGreatDoor
