/- Contracts of term.Check, tenurekit.size, term.Copy, order.Compare, and of their loops: by induction over what is left, each step by a run of the abstract machine in the kernel. No condition. -/
import Derived.Test.YtjioppomopfifaaGreatDoorRows
import Derived.Test.YtjioppomopfifaaGreatDoorAbs7
namespace Go.Proofs.YtjioppomopfifaaGreatDoor
noncomputable def kU:Abs.DL:=⟨55,151,192,22,24,3,28,7,17,38,19⟩
noncomputable def kA:Abs.a4z:=⟨17,43,40,35,76⟩
noncomputable def kK:TypeId→List Abs.Kd:=Abs.aJ (Abs.mkCtx Tryz.prog (fun _=>false) [])
noncomputable def kT:TypeId:=24
noncomputable def kB:Nat:=1000
theorem kHB:kB≤1000000:=of_decide_eq_true (by kernel_rfl)
theorem ad2:kB≤60000:=of_decide_eq_true (by kernel_rfl)
theorem jO:kK kT=[.int .i64,.int .i64,.str,.sl kT]:=by kernel_rfl
noncomputable def aH:List (FuncId×Abs.Ext):=[]
theorem aS:Abs.a0i Tryz.prog aH:=trivial
set_option maxRecDepth 100000 in
theorem aB:Abs.Jv Tryz.prog=true:=by kernel_rfl
set_option maxRecDepth 100000 in
theorem aK:Abs.FB Tryz.prog.funcs.toList=true:=by kernel_rfl
theorem aC:Tryz.prog.follows .mixedOrders=true:=by kernel_rfl
noncomputable def aaS (N M:Nat):Nat→Abs.Fact:=fun i=>([
 .rel "out" false Abs.CJ [(.var 16),(.a1 .len (.var 15))],
 .tr (.a2 (.bin .geq) (.var 16) (.int .i64 (.ofNat 0))),
 .rel "back" false (Abs.pBack kK kT (N+1) M) [(.var 12),(.var 14),(.var 15),(.var 16)],
 .rel "grow" false (Abs.a5m 4 56 1) [(.var 14),(.var 12)],
 .rel "back" true (Abs.pBack kK kT N M) [(.a2 (.bin .add) (.var 12) (.int .i64 (.ofNat 1))),(.a2 .sn (.a2 .sn (.a2 .sn (.a2 .sn (.a2 (.tk 4) (.var 14) (.var 12)) (.a1 (.ld 0) (.a2 .el (.var 15) (.var 16)))) (.a1 (.ld 1) (.a2 .el (.var 15) (.var 16)))) (.a1 (.ld 2) (.a2 .el (.var 15) (.var 16)))) (.a1 (.ld 3) (.a2 .el (.var 15) (.var 16)))),(.var 15),(.a2 (.bin .sub) (.var 16) (.int .i64 (.ofNat 1)))],
 .inr (.var 12) (.a2 (.bin .add) (.var 12) (.int .i64 (.ofNat 1))),
 .rel "left" true (Abs.dD kK kT M) [(.var 22),(.var 24)],
 .rel "left" false (Abs.dD kK kT M) [(.var 22),(.var 24)],
 .rel "app" false (Abs.ng kK kT) [(.var 22),(.var 24),(.a2 (.bin .add) (.var 12) (.int .i64 (.ofNat 1))),(.a2 .sn (.a2 .sn (.a2 .sn (.a2 .sn (.a2 (.tk 4) (.var 14) (.var 12)) (.a1 (.ld 0) (.a2 .el (.var 15) (.var 16)))) (.a1 (.ld 1) (.a2 .el (.var 15) (.var 16)))) (.a1 (.ld 2) (.a2 .el (.var 15) (.var 16)))) (.a1 (.ld 3) (.a2 .el (.var 15) (.var 16)))),(.var 15),(.a2 (.bin .sub) (.var 16) (.int .i64 (.ofNat 1)))],
 .rel "app" true (Abs.ng kK kT) [(.var 22),(.var 24),(.var 12),(.var 14),(.var 15),(.var 16)],
 .rel "left" true (Abs.dD kK kT M) [(.var 21),(.var 23)],
 .rel "left" false (Abs.dD kK kT M) [(.var 21),(.var 23)],
 .rel "app" false (Abs.ng kK kT) [(.var 21),(.var 23),(.a2 (.bin .add) (.var 12) (.int .i64 (.ofNat 1))),(.a2 .sn (.a2 .sn (.a2 .sn (.a2 .sn (.a2 (.tk 4) (.var 14) (.var 12)) (.a1 (.ld 0) (.a2 .el (.var 15) (.var 16)))) (.a1 (.ld 1) (.a2 .el (.var 15) (.var 16)))) (.a1 (.ld 2) (.a2 .el (.var 15) (.var 16)))) (.a1 (.ld 3) (.a2 .el (.var 15) (.var 16)))),(.var 15),(.a2 (.bin .sub) (.var 16) (.int .i64 (.ofNat 1)))],
 .rel "app" true (Abs.ng kK kT) [(.var 21),(.var 23),(.var 12),(.var 14),(.var 15),(.var 16)],
 .rel "left" true (Abs.dD kK kT M) [(.var 12),(.var 14)],
 .fl (.a2 (.bin .geq) (.var 16) (.int .i64 (.ofNat 0))),
 .rel "app" true (Abs.ng kK kT) [(.var 12),(.var 14),(.var 12),(.var 14),(.var 15),(.var 16)]]:List Abs.Fact).getD i (.tr (.bool true))
noncomputable def acz:List (List Nat):=[[0,1,2],[3,1,2],[4,5,1,2],[6,7,8,5,1,2],[9,7,8,5,1,2],[10,11,12,5,1,2],[13,11,12,5,1,2],[14,15,2],[16,15,2]]
set_option maxRecDepth 100000 in
theorem a7n (N M:Nat) (tl:List Deferred):Abs.R.res (fun _=>true) ((Abs.dS (Abs.mkCtx Tryz.prog (fun _=>false) aH [] [Abs.jw Tryz.prog kU "back" (Abs.pBack kK kT N M) (Abs.dD kK kT M) (Abs.ng kK kT)]) 1000000 ((Abs.jw Tryz.prog kU "back" (Abs.pBack kK kT (N+1) M) (Abs.dD kK kT M) (Abs.ng kK kT)).fi tl) (Abs.jw Tryz.prog kU "back" (Abs.pBack kK kT (N+1) M) (Abs.dD kK kT M) (Abs.ng kK kT)).tr (Abs.jw Tryz.prog kU "back" (Abs.pBack kK kT (N+1) M) (Abs.dD kK kT M) (Abs.ng kK kT)).todo [] .run none (Abs.jw Tryz.prog kU "back" (Abs.pBack kK kT (N+1) M) (Abs.dD kK kT M) (Abs.ng kK kT)).S).bind (Abs.bC (Abs.mkCtx Tryz.prog (fun _=>false) aH [] [Abs.jw Tryz.prog kU "back" (Abs.pBack kK kT N M) (Abs.dD kK kT M) (Abs.ng kK kT)]) (Abs.jw Tryz.prog kU "back" (Abs.pBack kK kT (N+1) M) (Abs.dD kK kT M) (Abs.ng kK kT))))=some (acz.map fun r=>r.map (aaS N M)):=by kernel_rfl
theorem a4d {M:Nat} (hM:M≤1073741824) (N:Nat) (hc:Abs.bM Tryz.prog (Abs.jw Tryz.prog kU "back" (Abs.pBack kK kT N M) (Abs.dD kK kT M) (Abs.ng kK kT))):Abs.bM Tryz.prog (Abs.jw Tryz.prog kU "back" (Abs.pBack kK kT (N+1) M) (Abs.dD kK kT M) (Abs.ng kK kT)):=Abs.bV (Abs.aX (fun c h=>by cases h with|head=>exact hc|tail _ h=>cases h) (fun _ h=>by cases h) aB aK (Abs.bG aS)) aC _ 1000000 (a7n N M)
 (Abs.gW (F:=aaS N M) (pats:=[[0,1,2],[3,2],[4,1,2],[6,7],[9,8,1,2],[10,11],[13,12,1,2],[14,2],[16,15,2]]) (fun p hp γ h=>by
   simp only [List.mem_cons,List.not_mem_nil,or_false] at hp
   rcases hp with rfl|rfl|rfl|rfl|rfl|rfl|rfl|rfl|rfl
   ·exact Abs.a7G (h 2 (by simp)) (h 1 (by simp)) (h 0 (by simp))
   ·exact Abs.a4v hM (by omega) (h 2 (by simp)) (h 3 (by simp))
   ·exact Abs.a4u jO hM (h 2 (by simp)) (h 1 (by simp)) (h 4 (by simp))
   ·exact (h 6 (by simp)) (h 7 (by simp))
   ·exact Abs.a0b jO hM (h 2 (by simp)) (h 1 (by simp)) (h 8 (by simp)) (h 9 (by simp))
   ·exact (h 10 (by simp)) (h 11 (by simp))
   ·exact Abs.a0b jO hM (h 2 (by simp)) (h 1 (by simp)) (h 12 (by simp)) (h 13 (by simp))
   ·exact Abs.a7H (h 2 (by simp)) (h 14 (by simp))
   ·exact Abs.aam (h 2 (by simp)) (h 15 (by simp)) (h 16 (by simp))) (by kernel_rfl))
set_option maxRecDepth 100000 in
theorem a2H {M:Nat} (hM:M≤1073741824) (N:Nat):Abs.bM Tryz.prog (Abs.jw Tryz.prog kU "back" (Abs.pBack kK kT N M) (Abs.dD kK kT M) (Abs.ng kK kT)):=Abs.NZ (c:=fun N=>Abs.jw Tryz.prog kU "back" (Abs.pBack kK kT N M) (Abs.dD kK kT M) (Abs.ng kK kT)) (B:=N) (Abs.oQ fun _ hf=>Abs.a4s (hf _ List.mem_cons_self)) (fun n _ h=>a4d hM n h) N (Nat.le_refl _)
noncomputable def aaQ (N:Nat):Nat→Abs.Fact:=fun i=>([
 .rel "out" false Abs.CJ [(.a2 (.bin .sub) (.var 13) (.int .i64 (.ofNat 1))),(.var 13)],
 .tr (.a2 (.bin .gtr) (.var 13) (.int .i64 (.ofNat 0))),
 .rel "parts" false (Abs.dD kK kT (N+1)) [(.var 13),(.var 15)],
 .rel "hole" false (Abs.Pj 4) [(.var 15),(.a2 (.bin .sub) (.var 13) (.int .i64 (.ofNat 1)))],
 .rel "cut" false Abs.a5n [(.int .i64 (.ofNat 0)),(.a2 (.bin .sub) (.var 13) (.int .i64 (.ofNat 1))),(.var 13)],
 .rel "back" true (Abs.pBack kK kT 1073741824 N) [(.a2 (.bin .sub) (.var 13) (.int .i64 (.ofNat 1))),(.var 15),(.a2 (.at 4 3) (.var 15) (.a2 (.bin .sub) (.var 13) (.int .i64 (.ofNat 1)))),(.a2 (.bin .sub) (.a1 .len (.a2 (.at 4 3) (.var 15) (.a2 (.bin .sub) (.var 13) (.int .i64 (.ofNat 1))))) (.int .i64 (.ofNat 1)))],
 .tr (.a2 (.bin .eql) (.a1 .len (.a2 (.at 4 3) (.var 15) (.a2 (.bin .sub) (.var 13) (.int .i64 (.ofNat 1))))) (.int .i64 (.ofNat 0))),
 .tr (.a2 (.bin .eql) (.a2 (.at 4 2) (.var 15) (.a2 (.bin .sub) (.var 13) (.int .i64 (.ofNat 1)))) (.str [])),
 .tr (.a2 (.bin .leq) (.a2 (.at 4 1) (.var 15) (.a2 (.bin .sub) (.var 13) (.int .i64 (.ofNat 1)))) (.int .i64 (.ofNat 576460752303423487))),
 .tr (.a2 (.bin .geq) (.a2 (.at 4 1) (.var 15) (.a2 (.bin .sub) (.var 13) (.int .i64 (.ofNat 1)))) (.int .i64 (.negSucc 576460752303423487))),
 .tr (.a2 (.bin .eql) (.a2 (.at 4 0) (.var 15) (.a2 (.bin .sub) (.var 13) (.int .i64 (.ofNat 1)))) (.int .i64 (.ofNat 1))),
 .rel "parts" true (Abs.dD kK kT N) [(.var 25),(.var 27)],
 .rel "left" false (Abs.dD kK kT N) [(.var 25),(.var 27)],
 .rel "app" false (Abs.ng kK kT) [(.var 25),(.var 27),(.a2 (.bin .sub) (.var 13) (.int .i64 (.ofNat 1))),(.var 15),(.a2 (.at 4 3) (.var 15) (.a2 (.bin .sub) (.var 13) (.int .i64 (.ofNat 1)))),(.a2 (.bin .sub) (.a1 .len (.a2 (.at 4 3) (.var 15) (.a2 (.bin .sub) (.var 13) (.int .i64 (.ofNat 1))))) (.int .i64 (.ofNat 1)))],
 .rel "snd" true (Abs.jR kK kT) [(.var 13),(.var 15)],
 .rel "snd" false (Abs.jR kK kT) [(.var 25),(.var 27)],
 .rel "parts" true (Abs.dD kK kT N) [(.var 24),(.var 26)],
 .rel "left" false (Abs.dD kK kT N) [(.var 24),(.var 26)],
 .rel "app" false (Abs.ng kK kT) [(.var 24),(.var 26),(.a2 (.bin .sub) (.var 13) (.int .i64 (.ofNat 1))),(.var 15),(.a2 (.at 4 3) (.var 15) (.a2 (.bin .sub) (.var 13) (.int .i64 (.ofNat 1)))),(.a2 (.bin .sub) (.a1 .len (.a2 (.at 4 3) (.var 15) (.a2 (.bin .sub) (.var 13) (.int .i64 (.ofNat 1))))) (.int .i64 (.ofNat 1)))],
 .rel "snd" false (Abs.jR kK kT) [(.var 24),(.var 26)],
 .tr (.a2 (.bin .leq) (.a1 .len (.a2 (.at 4 2) (.var 15) (.a2 (.bin .sub) (.var 13) (.int .i64 (.ofNat 1))))) (.int .i64 (.ofNat 64))),
 .tr (.a2 (.bin .eql) (.a2 (.at 4 1) (.var 15) (.a2 (.bin .sub) (.var 13) (.int .i64 (.ofNat 1)))) (.int .i64 (.ofNat 0))),
 .tr (.a2 (.bin .eql) (.a2 (.at 4 0) (.var 15) (.a2 (.bin .sub) (.var 13) (.int .i64 (.ofNat 1)))) (.int .i64 (.ofNat 2))),
 .fl (.a2 (.bin .eql) (.a2 (.at 4 0) (.var 15) (.a2 (.bin .sub) (.var 13) (.int .i64 (.ofNat 1)))) (.int .i64 (.ofNat 1))),
 .tr (.a2 (.bin .leq) (.a2 (.at 4 1) (.var 15) (.a2 (.bin .sub) (.var 13) (.int .i64 (.ofNat 1)))) (.int .i64 (.ofNat 1073741824))),
 .tr (.a2 (.bin .geq) (.a2 (.at 4 1) (.var 15) (.a2 (.bin .sub) (.var 13) (.int .i64 (.ofNat 1)))) (.int .i64 (.ofNat 0))),
 .tr (.a2 (.bin .eql) (.a2 (.at 4 0) (.var 15) (.a2 (.bin .sub) (.var 13) (.int .i64 (.ofNat 1)))) (.int .i64 (.ofNat 3))),
 .fl (.a2 (.bin .eql) (.a2 (.at 4 0) (.var 15) (.a2 (.bin .sub) (.var 13) (.int .i64 (.ofNat 1)))) (.int .i64 (.ofNat 2))),
 .tr (.a2 (.bin .eql) (.a2 (.at 4 0) (.var 15) (.a2 (.bin .sub) (.var 13) (.int .i64 (.ofNat 1)))) (.int .i64 (.ofNat 4))),
 .fl (.a2 (.bin .eql) (.a2 (.at 4 0) (.var 15) (.a2 (.bin .sub) (.var 13) (.int .i64 (.ofNat 1)))) (.int .i64 (.ofNat 3))),
 .tr (.a2 (.bin .eql) (.a2 (.at 4 0) (.var 15) (.a2 (.bin .sub) (.var 13) (.int .i64 (.ofNat 1)))) (.int .i64 (.ofNat 6))),
 .fl (.a2 (.bin .eql) (.a2 (.at 4 0) (.var 15) (.a2 (.bin .sub) (.var 13) (.int .i64 (.ofNat 1)))) (.int .i64 (.ofNat 4))),
 .tr (.a2 (.bin .eql) (.a2 (.at 4 0) (.var 15) (.a2 (.bin .sub) (.var 13) (.int .i64 (.ofNat 1)))) (.int .i64 (.ofNat 5))),
 .fl (.a2 (.bin .eql) (.a2 (.at 4 0) (.var 15) (.a2 (.bin .sub) (.var 13) (.int .i64 (.ofNat 1)))) (.int .i64 (.ofNat 6))),
 .tr (.a2 (.bin .leq) (.a1 .len (.a2 (.at 4 3) (.var 15) (.a2 (.bin .sub) (.var 13) (.int .i64 (.ofNat 1))))) (.int .i64 (.ofNat 64))),
 .fl (.a2 (.bin .eql) (.a1 .len (.a2 (.at 4 3) (.var 15) (.a2 (.bin .sub) (.var 13) (.int .i64 (.ofNat 1))))) (.int .i64 (.ofNat 0))),
 .tr (.a2 (.bin .eql) (.a2 (.at 4 0) (.var 15) (.a2 (.bin .sub) (.var 13) (.int .i64 (.ofNat 1)))) (.int .i64 (.ofNat 7))),
 .fl (.a2 (.bin .eql) (.a2 (.at 4 0) (.var 15) (.a2 (.bin .sub) (.var 13) (.int .i64 (.ofNat 1)))) (.int .i64 (.ofNat 5))),
 .tr (.a2 (.bin .eql) (.a2 (.at 4 0) (.var 15) (.a2 (.bin .sub) (.var 13) (.int .i64 (.ofNat 1)))) (.int .i64 (.ofNat 8))),
 .fl (.a2 (.bin .eql) (.a2 (.at 4 0) (.var 15) (.a2 (.bin .sub) (.var 13) (.int .i64 (.ofNat 1)))) (.int .i64 (.ofNat 7))),
 .tr (.a2 (.bin .eql) (.a1 .len (.a2 (.at 4 3) (.var 15) (.a2 (.bin .sub) (.var 13) (.int .i64 (.ofNat 1))))) (.int .i64 (.ofNat 2))),
 .tr (.a2 (.bin .eql) (.a2 (.at 4 0) (.var 15) (.a2 (.bin .sub) (.var 13) (.int .i64 (.ofNat 1)))) (.int .i64 (.ofNat 9))),
 .fl (.a2 (.bin .eql) (.a2 (.at 4 0) (.var 15) (.a2 (.bin .sub) (.var 13) (.int .i64 (.ofNat 1)))) (.int .i64 (.ofNat 8))),
 .fl (.a2 (.bin .gtr) (.var 13) (.int .i64 (.ofNat 0)))]:List Abs.Fact).getD i (.tr (.bool true))
noncomputable def acw:List (List Nat):=[[0,1,2],[3,1,2],[4,1,2],[5,6,7,8,9,10,1,2],[11,12,13,6,7,8,9,10,1,2],[14,15,12,13,6,7,8,9,10,1,2],[16,17,18,6,7,8,9,10,1,2],[14,19,17,18,6,7,8,9,10,1,2],[5,6,20,21,22,23,1,2],[11,12,13,6,20,21,22,23,1,2],[14,15,12,13,6,20,21,22,23,1,2],[16,17,18,6,20,21,22,23,1,2],[14,19,17,18,6,20,21,22,23,1,2],[5,6,7,24,25,26,27,23,1,2],[11,12,13,6,7,24,25,26,27,23,1,2],[14,15,12,13,6,7,24,25,26,27,23,1,2],[16,17,18,6,7,24,25,26,27,23,1,2],[14,19,17,18,6,7,24,25,26,27,23,1,2],[5,6,7,24,25,28,29,27,23,1,2],[11,12,13,6,7,24,25,28,29,27,23,1,2],[14,15,12,13,6,7,24,25,28,29,27,23,1,2],[16,17,18,6,7,24,25,28,29,27,23,1,2],[14,19,17,18,6,7,24,25,28,29,27,23,1,2],[5,6,7,24,25,30,31,29,27,23,1,2],[11,12,13,6,7,24,25,30,31,29,27,23,1,2],[14,15,12,13,6,7,24,25,30,31,29,27,23,1,2],[16,17,18,6,7,24,25,30,31,29,27,23,1,2],[14,19,17,18,6,7,24,25,30,31,29,27,23,1,2],[5,6,7,24,25,32,33,31,29,27,23,1,2],[11,12,13,6,7,24,25,32,33,31,29,27,23,1,2],[14,15,12,13,6,7,24,25,32,33,31,29,27,23,1,2],[16,17,18,6,7,24,25,32,33,31,29,27,23,1,2],[14,19,17,18,6,7,24,25,32,33,31,29,27,23,1,2],[5,34,35,7,24,25,32,33,31,29,27,23,1,2],[11,12,13,34,35,7,24,25,32,33,31,29,27,23,1,2],[14,15,12,13,34,35,7,24,25,32,33,31,29,27,23,1,2],[16,17,18,34,35,7,24,25,32,33,31,29,27,23,1,2],[14,19,17,18,34,35,7,24,25,32,33,31,29,27,23,1,2],[5,34,7,21,36,37,33,31,29,27,23,1,2],[11,12,13,34,7,21,36,37,33,31,29,27,23,1,2],[14,15,12,13,34,7,21,36,37,33,31,29,27,23,1,2],[16,17,18,34,7,21,36,37,33,31,29,27,23,1,2],[14,19,17,18,34,7,21,36,37,33,31,29,27,23,1,2],[5,6,7,21,38,39,37,33,31,29,27,23,1,2],[11,12,13,6,7,21,38,39,37,33,31,29,27,23,1,2],[14,15,12,13,6,7,21,38,39,37,33,31,29,27,23,1,2],[16,17,18,6,7,21,38,39,37,33,31,29,27,23,1,2],[14,19,17,18,6,7,21,38,39,37,33,31,29,27,23,1,2],[5,40,7,21,41,42,39,37,33,31,29,27,23,1,2],[11,12,13,40,7,21,41,42,39,37,33,31,29,27,23,1,2],[14,15,12,13,40,7,21,41,42,39,37,33,31,29,27,23,1,2],[16,17,18,40,7,21,41,42,39,37,33,31,29,27,23,1,2],[14,19,17,18,40,7,21,41,42,39,37,33,31,29,27,23,1,2],[14,43,2]]
set_option maxRecDepth 100000 in
theorem a7i (N:Nat) (tl:List Deferred):Abs.R.res (fun _=>true) ((Abs.dS (Abs.mkCtx Tryz.prog (fun _=>false) aH [] [Abs.jh Tryz.prog kU "parts" (Abs.dD kK kT N) (Abs.jR kK kT),Abs.jw Tryz.prog kU "back" (Abs.pBack kK kT 1073741824 N) (Abs.dD kK kT N) (Abs.ng kK kT)]) 1000000 ((Abs.jh Tryz.prog kU "parts" (Abs.dD kK kT (N+1)) (Abs.jR kK kT)).fi tl) (Abs.jh Tryz.prog kU "parts" (Abs.dD kK kT (N+1)) (Abs.jR kK kT)).tr (Abs.jh Tryz.prog kU "parts" (Abs.dD kK kT (N+1)) (Abs.jR kK kT)).todo [] .run none (Abs.jh Tryz.prog kU "parts" (Abs.dD kK kT (N+1)) (Abs.jR kK kT)).S).bind (Abs.bC (Abs.mkCtx Tryz.prog (fun _=>false) aH [] [Abs.jh Tryz.prog kU "parts" (Abs.dD kK kT N) (Abs.jR kK kT),Abs.jw Tryz.prog kU "back" (Abs.pBack kK kT 1073741824 N) (Abs.dD kK kT N) (Abs.ng kK kT)]) (Abs.jh Tryz.prog kU "parts" (Abs.dD kK kT (N+1)) (Abs.jR kK kT))))=some (acw.map fun r=>r.map (aaQ N)):=by kernel_rfl
theorem a3Z {N:Nat} (hN:N+1≤1073741824) (hc:Abs.bM Tryz.prog (Abs.jh Tryz.prog kU "parts" (Abs.dD kK kT N) (Abs.jR kK kT))):Abs.bM Tryz.prog (Abs.jh Tryz.prog kU "parts" (Abs.dD kK kT (N+1)) (Abs.jR kK kT)):=Abs.bV (Abs.aX (fun c h=>by cases h with|head=>exact hc|tail _ h=>cases h with|head=>exact a2H (by omega) _|tail _ h=>cases h) (fun _ h=>by cases h) aB aK (Abs.bG aS)) aC _ 1000000 (a7i N)
 (Abs.gW (F:=aaQ N) (pats:=[[0,1,2],[3,1,2],[4,1,2],[5,1,2],[11,12],[14,15,13,1,2,6,7,8,9,10],[16,17],[14,19,18,1,2,6,7,8,9,10],[14,15,13,1,2,6,20,21,22,23],[14,19,18,1,2,6,20,21,22,23],[14,15,13,1,2,6,7,24,25,26,27,23],[14,19,18,1,2,6,7,24,25,26,27,23],[14,15,13,1,2,6,7,24,25,28,29,27,23],[14,19,18,1,2,6,7,24,25,28,29,27,23],[14,15,13,1,2,6,7,24,25,30,31,29,27,23],[14,19,18,1,2,6,7,24,25,30,31,29,27,23],[14,15,13,1,2,6,7,24,25,32,33,31,29,27,23],[14,19,18,1,2,6,7,24,25,32,33,31,29,27,23],[14,15,13,1,2,34,35,7,24,25,32,33,31,29,27,23],[14,19,18,1,2,34,35,7,24,25,32,33,31,29,27,23],[14,15,13,1,2,34,7,21,36,37,33,31,29,27,23],[14,19,18,1,2,34,7,21,36,37,33,31,29,27,23],[14,15,13,1,2,6,7,21,38,39,37,33,31,29,27,23],[14,19,18,1,2,6,7,21,38,39,37,33,31,29,27,23],[14,15,13,1,2,40,7,21,41,42,39,37,33,31,29,27,23],[14,19,18,1,2,40,7,21,41,42,39,37,33,31,29,27,23],[14,43,2]]) (fun p hp γ h=>by
   simp only [List.mem_cons,List.not_mem_nil,or_false] at hp
   rcases hp with rfl|rfl|rfl|rfl|rfl|rfl|rfl|rfl|rfl|rfl|rfl|rfl|rfl|rfl|rfl|rfl|rfl|rfl|rfl|rfl|rfl|rfl|rfl|rfl|rfl|rfl|rfl
   ·exact Abs.Ul hN (h 2 (by simp)) (h 1 (by simp)) (h 0 (by simp))
   ·exact Abs.Pg hN (h 2 (by simp)) (h 1 (by simp)) (h 3 (by simp))
   ·exact Abs.Um hN (h 2 (by simp)) (h 1 (by simp)) (h 4 (by simp))
   ·exact Abs.Ph jO hN (Nat.le_refl _) (h 2 (by simp)) (h 1 (by simp)) (h 5 (by simp))
   ·exact (h 11 (by simp)) (h 12 (by simp))
   ·exact Abs.gX jO hN (h 2 (by simp)) (h 1 (by simp)) (h 13 (by simp)) (h 15 (by simp)) (fun k nn str l e0 e1 e2 e3=>by
    have es:=Abs.bY e2
    have q6:=Abs.aQ (c:=0) (h 6 (by simp)) e3
    have q7:=Abs.eG (h 7 (by simp)) e2
    have q8:=Abs.dU (c:=576460752303423487) (h 8 (by simp)) e1
    have q9:=Abs.eu (c:=(-576460752303423488)) (h 9 (by simp)) e1
    have q10:=Abs.aQ (c:=1) (h 10 (by simp)) e0
    unfold Abs.dA;omega) (h 14 (by simp))
   ·exact (h 16 (by simp)) (h 17 (by simp))
   ·exact Abs.gX jO hN (h 2 (by simp)) (h 1 (by simp)) (h 18 (by simp)) (h 19 (by simp)) (fun k nn str l e0 e1 e2 e3=>by
    have es:=Abs.bY e2
    have q6:=Abs.aQ (c:=0) (h 6 (by simp)) e3
    have q7:=Abs.eG (h 7 (by simp)) e2
    have q8:=Abs.dU (c:=576460752303423487) (h 8 (by simp)) e1
    have q9:=Abs.eu (c:=(-576460752303423488)) (h 9 (by simp)) e1
    have q10:=Abs.aQ (c:=1) (h 10 (by simp)) e0
    unfold Abs.dA;omega) (h 14 (by simp))
   ·exact Abs.gX jO hN (h 2 (by simp)) (h 1 (by simp)) (h 13 (by simp)) (h 15 (by simp)) (fun k nn str l e0 e1 e2 e3=>by
    have es:=Abs.bY e2
    have q6:=Abs.aQ (c:=0) (h 6 (by simp)) e3
    have q20:=Abs.dU (c:=64) (h 20 (by simp)) es
    have q21:=Abs.aQ (c:=0) (h 21 (by simp)) e1
    have q22:=Abs.aQ (c:=2) (h 22 (by simp)) e0
    have q23:=Abs.au (c:=1) (h 23 (by simp)) e0
    unfold Abs.dA;omega) (h 14 (by simp))
   ·exact Abs.gX jO hN (h 2 (by simp)) (h 1 (by simp)) (h 18 (by simp)) (h 19 (by simp)) (fun k nn str l e0 e1 e2 e3=>by
    have es:=Abs.bY e2
    have q6:=Abs.aQ (c:=0) (h 6 (by simp)) e3
    have q20:=Abs.dU (c:=64) (h 20 (by simp)) es
    have q21:=Abs.aQ (c:=0) (h 21 (by simp)) e1
    have q22:=Abs.aQ (c:=2) (h 22 (by simp)) e0
    have q23:=Abs.au (c:=1) (h 23 (by simp)) e0
    unfold Abs.dA;omega) (h 14 (by simp))
   ·exact Abs.gX jO hN (h 2 (by simp)) (h 1 (by simp)) (h 13 (by simp)) (h 15 (by simp)) (fun k nn str l e0 e1 e2 e3=>by
    have es:=Abs.bY e2
    have q6:=Abs.aQ (c:=0) (h 6 (by simp)) e3
    have q7:=Abs.eG (h 7 (by simp)) e2
    have q24:=Abs.dU (c:=1073741824) (h 24 (by simp)) e1
    have q25:=Abs.eu (c:=0) (h 25 (by simp)) e1
    have q26:=Abs.aQ (c:=3) (h 26 (by simp)) e0
    have q27:=Abs.au (c:=2) (h 27 (by simp)) e0
    have q23:=Abs.au (c:=1) (h 23 (by simp)) e0
    unfold Abs.dA;omega) (h 14 (by simp))
   ·exact Abs.gX jO hN (h 2 (by simp)) (h 1 (by simp)) (h 18 (by simp)) (h 19 (by simp)) (fun k nn str l e0 e1 e2 e3=>by
    have es:=Abs.bY e2
    have q6:=Abs.aQ (c:=0) (h 6 (by simp)) e3
    have q7:=Abs.eG (h 7 (by simp)) e2
    have q24:=Abs.dU (c:=1073741824) (h 24 (by simp)) e1
    have q25:=Abs.eu (c:=0) (h 25 (by simp)) e1
    have q26:=Abs.aQ (c:=3) (h 26 (by simp)) e0
    have q27:=Abs.au (c:=2) (h 27 (by simp)) e0
    have q23:=Abs.au (c:=1) (h 23 (by simp)) e0
    unfold Abs.dA;omega) (h 14 (by simp))
   ·exact Abs.gX jO hN (h 2 (by simp)) (h 1 (by simp)) (h 13 (by simp)) (h 15 (by simp)) (fun k nn str l e0 e1 e2 e3=>by
    have es:=Abs.bY e2
    have q6:=Abs.aQ (c:=0) (h 6 (by simp)) e3
    have q7:=Abs.eG (h 7 (by simp)) e2
    have q24:=Abs.dU (c:=1073741824) (h 24 (by simp)) e1
    have q25:=Abs.eu (c:=0) (h 25 (by simp)) e1
    have q28:=Abs.aQ (c:=4) (h 28 (by simp)) e0
    have q29:=Abs.au (c:=3) (h 29 (by simp)) e0
    have q27:=Abs.au (c:=2) (h 27 (by simp)) e0
    have q23:=Abs.au (c:=1) (h 23 (by simp)) e0
    unfold Abs.dA;omega) (h 14 (by simp))
   ·exact Abs.gX jO hN (h 2 (by simp)) (h 1 (by simp)) (h 18 (by simp)) (h 19 (by simp)) (fun k nn str l e0 e1 e2 e3=>by
    have es:=Abs.bY e2
    have q6:=Abs.aQ (c:=0) (h 6 (by simp)) e3
    have q7:=Abs.eG (h 7 (by simp)) e2
    have q24:=Abs.dU (c:=1073741824) (h 24 (by simp)) e1
    have q25:=Abs.eu (c:=0) (h 25 (by simp)) e1
    have q28:=Abs.aQ (c:=4) (h 28 (by simp)) e0
    have q29:=Abs.au (c:=3) (h 29 (by simp)) e0
    have q27:=Abs.au (c:=2) (h 27 (by simp)) e0
    have q23:=Abs.au (c:=1) (h 23 (by simp)) e0
    unfold Abs.dA;omega) (h 14 (by simp))
   ·exact Abs.gX jO hN (h 2 (by simp)) (h 1 (by simp)) (h 13 (by simp)) (h 15 (by simp)) (fun k nn str l e0 e1 e2 e3=>by
    have es:=Abs.bY e2
    have q6:=Abs.aQ (c:=0) (h 6 (by simp)) e3
    have q7:=Abs.eG (h 7 (by simp)) e2
    have q24:=Abs.dU (c:=1073741824) (h 24 (by simp)) e1
    have q25:=Abs.eu (c:=0) (h 25 (by simp)) e1
    have q30:=Abs.aQ (c:=6) (h 30 (by simp)) e0
    have q31:=Abs.au (c:=4) (h 31 (by simp)) e0
    have q29:=Abs.au (c:=3) (h 29 (by simp)) e0
    have q27:=Abs.au (c:=2) (h 27 (by simp)) e0
    have q23:=Abs.au (c:=1) (h 23 (by simp)) e0
    unfold Abs.dA;omega) (h 14 (by simp))
   ·exact Abs.gX jO hN (h 2 (by simp)) (h 1 (by simp)) (h 18 (by simp)) (h 19 (by simp)) (fun k nn str l e0 e1 e2 e3=>by
    have es:=Abs.bY e2
    have q6:=Abs.aQ (c:=0) (h 6 (by simp)) e3
    have q7:=Abs.eG (h 7 (by simp)) e2
    have q24:=Abs.dU (c:=1073741824) (h 24 (by simp)) e1
    have q25:=Abs.eu (c:=0) (h 25 (by simp)) e1
    have q30:=Abs.aQ (c:=6) (h 30 (by simp)) e0
    have q31:=Abs.au (c:=4) (h 31 (by simp)) e0
    have q29:=Abs.au (c:=3) (h 29 (by simp)) e0
    have q27:=Abs.au (c:=2) (h 27 (by simp)) e0
    have q23:=Abs.au (c:=1) (h 23 (by simp)) e0
    unfold Abs.dA;omega) (h 14 (by simp))
   ·exact Abs.gX jO hN (h 2 (by simp)) (h 1 (by simp)) (h 13 (by simp)) (h 15 (by simp)) (fun k nn str l e0 e1 e2 e3=>by
    have es:=Abs.bY e2
    have q6:=Abs.aQ (c:=0) (h 6 (by simp)) e3
    have q7:=Abs.eG (h 7 (by simp)) e2
    have q24:=Abs.dU (c:=1073741824) (h 24 (by simp)) e1
    have q25:=Abs.eu (c:=0) (h 25 (by simp)) e1
    have q32:=Abs.aQ (c:=5) (h 32 (by simp)) e0
    have q33:=Abs.au (c:=6) (h 33 (by simp)) e0
    have q31:=Abs.au (c:=4) (h 31 (by simp)) e0
    have q29:=Abs.au (c:=3) (h 29 (by simp)) e0
    have q27:=Abs.au (c:=2) (h 27 (by simp)) e0
    have q23:=Abs.au (c:=1) (h 23 (by simp)) e0
    unfold Abs.dA;omega) (h 14 (by simp))
   ·exact Abs.gX jO hN (h 2 (by simp)) (h 1 (by simp)) (h 18 (by simp)) (h 19 (by simp)) (fun k nn str l e0 e1 e2 e3=>by
    have es:=Abs.bY e2
    have q6:=Abs.aQ (c:=0) (h 6 (by simp)) e3
    have q7:=Abs.eG (h 7 (by simp)) e2
    have q24:=Abs.dU (c:=1073741824) (h 24 (by simp)) e1
    have q25:=Abs.eu (c:=0) (h 25 (by simp)) e1
    have q32:=Abs.aQ (c:=5) (h 32 (by simp)) e0
    have q33:=Abs.au (c:=6) (h 33 (by simp)) e0
    have q31:=Abs.au (c:=4) (h 31 (by simp)) e0
    have q29:=Abs.au (c:=3) (h 29 (by simp)) e0
    have q27:=Abs.au (c:=2) (h 27 (by simp)) e0
    have q23:=Abs.au (c:=1) (h 23 (by simp)) e0
    unfold Abs.dA;omega) (h 14 (by simp))
   ·exact Abs.gX jO hN (h 2 (by simp)) (h 1 (by simp)) (h 13 (by simp)) (h 15 (by simp)) (fun k nn str l e0 e1 e2 e3=>by
    have es:=Abs.bY e2
    have q34:=Abs.dU (c:=64) (h 34 (by simp)) e3
    have q35:=Abs.au (c:=0) (h 35 (by simp)) e3
    have q7:=Abs.eG (h 7 (by simp)) e2
    have q24:=Abs.dU (c:=1073741824) (h 24 (by simp)) e1
    have q25:=Abs.eu (c:=0) (h 25 (by simp)) e1
    have q32:=Abs.aQ (c:=5) (h 32 (by simp)) e0
    have q33:=Abs.au (c:=6) (h 33 (by simp)) e0
    have q31:=Abs.au (c:=4) (h 31 (by simp)) e0
    have q29:=Abs.au (c:=3) (h 29 (by simp)) e0
    have q27:=Abs.au (c:=2) (h 27 (by simp)) e0
    have q23:=Abs.au (c:=1) (h 23 (by simp)) e0
    unfold Abs.dA;omega) (h 14 (by simp))
   ·exact Abs.gX jO hN (h 2 (by simp)) (h 1 (by simp)) (h 18 (by simp)) (h 19 (by simp)) (fun k nn str l e0 e1 e2 e3=>by
    have es:=Abs.bY e2
    have q34:=Abs.dU (c:=64) (h 34 (by simp)) e3
    have q35:=Abs.au (c:=0) (h 35 (by simp)) e3
    have q7:=Abs.eG (h 7 (by simp)) e2
    have q24:=Abs.dU (c:=1073741824) (h 24 (by simp)) e1
    have q25:=Abs.eu (c:=0) (h 25 (by simp)) e1
    have q32:=Abs.aQ (c:=5) (h 32 (by simp)) e0
    have q33:=Abs.au (c:=6) (h 33 (by simp)) e0
    have q31:=Abs.au (c:=4) (h 31 (by simp)) e0
    have q29:=Abs.au (c:=3) (h 29 (by simp)) e0
    have q27:=Abs.au (c:=2) (h 27 (by simp)) e0
    have q23:=Abs.au (c:=1) (h 23 (by simp)) e0
    unfold Abs.dA;omega) (h 14 (by simp))
   ·exact Abs.gX jO hN (h 2 (by simp)) (h 1 (by simp)) (h 13 (by simp)) (h 15 (by simp)) (fun k nn str l e0 e1 e2 e3=>by
    have es:=Abs.bY e2
    have q34:=Abs.dU (c:=64) (h 34 (by simp)) e3
    have q7:=Abs.eG (h 7 (by simp)) e2
    have q21:=Abs.aQ (c:=0) (h 21 (by simp)) e1
    have q36:=Abs.aQ (c:=7) (h 36 (by simp)) e0
    have q37:=Abs.au (c:=5) (h 37 (by simp)) e0
    have q33:=Abs.au (c:=6) (h 33 (by simp)) e0
    have q31:=Abs.au (c:=4) (h 31 (by simp)) e0
    have q29:=Abs.au (c:=3) (h 29 (by simp)) e0
    have q27:=Abs.au (c:=2) (h 27 (by simp)) e0
    have q23:=Abs.au (c:=1) (h 23 (by simp)) e0
    unfold Abs.dA;omega) (h 14 (by simp))
   ·exact Abs.gX jO hN (h 2 (by simp)) (h 1 (by simp)) (h 18 (by simp)) (h 19 (by simp)) (fun k nn str l e0 e1 e2 e3=>by
    have es:=Abs.bY e2
    have q34:=Abs.dU (c:=64) (h 34 (by simp)) e3
    have q7:=Abs.eG (h 7 (by simp)) e2
    have q21:=Abs.aQ (c:=0) (h 21 (by simp)) e1
    have q36:=Abs.aQ (c:=7) (h 36 (by simp)) e0
    have q37:=Abs.au (c:=5) (h 37 (by simp)) e0
    have q33:=Abs.au (c:=6) (h 33 (by simp)) e0
    have q31:=Abs.au (c:=4) (h 31 (by simp)) e0
    have q29:=Abs.au (c:=3) (h 29 (by simp)) e0
    have q27:=Abs.au (c:=2) (h 27 (by simp)) e0
    have q23:=Abs.au (c:=1) (h 23 (by simp)) e0
    unfold Abs.dA;omega) (h 14 (by simp))
   ·exact Abs.gX jO hN (h 2 (by simp)) (h 1 (by simp)) (h 13 (by simp)) (h 15 (by simp)) (fun k nn str l e0 e1 e2 e3=>by
    have es:=Abs.bY e2
    have q6:=Abs.aQ (c:=0) (h 6 (by simp)) e3
    have q7:=Abs.eG (h 7 (by simp)) e2
    have q21:=Abs.aQ (c:=0) (h 21 (by simp)) e1
    have q38:=Abs.aQ (c:=8) (h 38 (by simp)) e0
    have q39:=Abs.au (c:=7) (h 39 (by simp)) e0
    have q37:=Abs.au (c:=5) (h 37 (by simp)) e0
    have q33:=Abs.au (c:=6) (h 33 (by simp)) e0
    have q31:=Abs.au (c:=4) (h 31 (by simp)) e0
    have q29:=Abs.au (c:=3) (h 29 (by simp)) e0
    have q27:=Abs.au (c:=2) (h 27 (by simp)) e0
    have q23:=Abs.au (c:=1) (h 23 (by simp)) e0
    unfold Abs.dA;omega) (h 14 (by simp))
   ·exact Abs.gX jO hN (h 2 (by simp)) (h 1 (by simp)) (h 18 (by simp)) (h 19 (by simp)) (fun k nn str l e0 e1 e2 e3=>by
    have es:=Abs.bY e2
    have q6:=Abs.aQ (c:=0) (h 6 (by simp)) e3
    have q7:=Abs.eG (h 7 (by simp)) e2
    have q21:=Abs.aQ (c:=0) (h 21 (by simp)) e1
    have q38:=Abs.aQ (c:=8) (h 38 (by simp)) e0
    have q39:=Abs.au (c:=7) (h 39 (by simp)) e0
    have q37:=Abs.au (c:=5) (h 37 (by simp)) e0
    have q33:=Abs.au (c:=6) (h 33 (by simp)) e0
    have q31:=Abs.au (c:=4) (h 31 (by simp)) e0
    have q29:=Abs.au (c:=3) (h 29 (by simp)) e0
    have q27:=Abs.au (c:=2) (h 27 (by simp)) e0
    have q23:=Abs.au (c:=1) (h 23 (by simp)) e0
    unfold Abs.dA;omega) (h 14 (by simp))
   ·exact Abs.gX jO hN (h 2 (by simp)) (h 1 (by simp)) (h 13 (by simp)) (h 15 (by simp)) (fun k nn str l e0 e1 e2 e3=>by
    have es:=Abs.bY e2
    have q40:=Abs.aQ (c:=2) (h 40 (by simp)) e3
    have q7:=Abs.eG (h 7 (by simp)) e2
    have q21:=Abs.aQ (c:=0) (h 21 (by simp)) e1
    have q41:=Abs.aQ (c:=9) (h 41 (by simp)) e0
    have q42:=Abs.au (c:=8) (h 42 (by simp)) e0
    have q39:=Abs.au (c:=7) (h 39 (by simp)) e0
    have q37:=Abs.au (c:=5) (h 37 (by simp)) e0
    have q33:=Abs.au (c:=6) (h 33 (by simp)) e0
    have q31:=Abs.au (c:=4) (h 31 (by simp)) e0
    have q29:=Abs.au (c:=3) (h 29 (by simp)) e0
    have q27:=Abs.au (c:=2) (h 27 (by simp)) e0
    have q23:=Abs.au (c:=1) (h 23 (by simp)) e0
    unfold Abs.dA;omega) (h 14 (by simp))
   ·exact Abs.gX jO hN (h 2 (by simp)) (h 1 (by simp)) (h 18 (by simp)) (h 19 (by simp)) (fun k nn str l e0 e1 e2 e3=>by
    have es:=Abs.bY e2
    have q40:=Abs.aQ (c:=2) (h 40 (by simp)) e3
    have q7:=Abs.eG (h 7 (by simp)) e2
    have q21:=Abs.aQ (c:=0) (h 21 (by simp)) e1
    have q41:=Abs.aQ (c:=9) (h 41 (by simp)) e0
    have q42:=Abs.au (c:=8) (h 42 (by simp)) e0
    have q39:=Abs.au (c:=7) (h 39 (by simp)) e0
    have q37:=Abs.au (c:=5) (h 37 (by simp)) e0
    have q33:=Abs.au (c:=6) (h 33 (by simp)) e0
    have q31:=Abs.au (c:=4) (h 31 (by simp)) e0
    have q29:=Abs.au (c:=3) (h 29 (by simp)) e0
    have q27:=Abs.au (c:=2) (h 27 (by simp)) e0
    have q23:=Abs.au (c:=1) (h 23 (by simp)) e0
    unfold Abs.dA;omega) (h 14 (by simp))
   ·exact Abs.a8i (h 2 (by simp)) (h 43 (by simp)) (h 14 (by simp))) (by kernel_rfl))
set_option maxRecDepth 100000 in
theorem a9Y (N:Nat) (hN:N≤1073741824):Abs.bM Tryz.prog (Abs.jh Tryz.prog kU "parts" (Abs.dD kK kT N) (Abs.jR kK kT)):=Abs.NZ (c:=fun N=>Abs.jh Tryz.prog kU "parts" (Abs.dD kK kT N) (Abs.jR kK kT)) (B:=1073741824) (Abs.oQ fun _ hf=>Abs.Ux (hf _ List.mem_cons_self)) (fun _ hn h=>a3Z hn h) N hN
noncomputable def aaP (N:Nat):Nat→Abs.Fact:=fun i=>([
 .rel "out" false Abs.CJ [(.a2 (.bin .sub) (.var 13) (.int .i64 (.ofNat 1))),(.var 13)],
 .tr (.a2 (.bin .gtr) (.var 13) (.int .i64 (.ofNat 0))),
 .rel "parts" false (Abs.dD kK kT (N+1)) [(.var 13),(.var 15)],
 .rel "snd" false (Abs.jR kK kT) [(.var 13),(.var 15)],
 .rel "wrd" false (Abs.uz kK kT) [(.var 16),(.var 13),(.var 15)],
 .rel "hole" false (Abs.Pj 4) [(.var 15),(.a2 (.bin .sub) (.var 13) (.int .i64 (.ofNat 1)))],
 .rel "cut" false Abs.a5n [(.int .i64 (.ofNat 0)),(.a2 (.bin .sub) (.var 13) (.int .i64 (.ofNat 1))),(.var 13)],
 .rel "back" true (Abs.pBack kK kT 1073741824 N) [(.a2 (.bin .sub) (.var 13) (.int .i64 (.ofNat 1))),(.var 15),(.a2 (.at 4 3) (.var 15) (.a2 (.bin .sub) (.var 13) (.int .i64 (.ofNat 1)))),(.a2 (.bin .sub) (.a1 .len (.a2 (.at 4 3) (.var 15) (.a2 (.bin .sub) (.var 13) (.int .i64 (.ofNat 1))))) (.int .i64 (.ofNat 1)))],
 .tr (.a2 (.bin .eql) (.a1 .len (.a2 (.at 4 3) (.var 15) (.a2 (.bin .sub) (.var 13) (.int .i64 (.ofNat 1))))) (.int .i64 (.ofNat 0))),
 .tr (.a2 (.bin .eql) (.a2 (.at 4 2) (.var 15) (.a2 (.bin .sub) (.var 13) (.int .i64 (.ofNat 1)))) (.str [])),
 .tr (.a2 (.bin .leq) (.a2 (.at 4 1) (.var 15) (.a2 (.bin .sub) (.var 13) (.int .i64 (.ofNat 1)))) (.int .i64 (.ofNat 576460752303423487))),
 .tr (.a2 (.bin .geq) (.a2 (.at 4 1) (.var 15) (.a2 (.bin .sub) (.var 13) (.int .i64 (.ofNat 1)))) (.int .i64 (.negSucc 576460752303423487))),
 .tr (.a2 (.bin .eql) (.a2 (.at 4 0) (.var 15) (.a2 (.bin .sub) (.var 13) (.int .i64 (.ofNat 1)))) (.int .i64 (.ofNat 1))),
 .rel "parts" true (Abs.dD kK kT N) [(.var 25),(.var 27)],
 .rel "left" false (Abs.dD kK kT N) [(.var 25),(.var 27)],
 .rel "app" false (Abs.ng kK kT) [(.var 25),(.var 27),(.a2 (.bin .sub) (.var 13) (.int .i64 (.ofNat 1))),(.var 15),(.a2 (.at 4 3) (.var 15) (.a2 (.bin .sub) (.var 13) (.int .i64 (.ofNat 1)))),(.a2 (.bin .sub) (.a1 .len (.a2 (.at 4 3) (.var 15) (.a2 (.bin .sub) (.var 13) (.int .i64 (.ofNat 1))))) (.int .i64 (.ofNat 1)))],
 .rel "snd" true (Abs.jR kK kT) [(.var 25),(.var 27)],
 .rel "wrd" true (Abs.uz kK kT) [(.a2 (.bin .add) (.var 16) (.int .i64 (.ofNat 1))),(.var 25),(.var 27)],
 .rel "wrds" true (Abs.kM kK kT) [(.var 28),(.var 16),(.var 13),(.var 15)],
 .rel "wrds" false (Abs.kM kK kT) [(.var 28),(.a2 (.bin .add) (.var 16) (.int .i64 (.ofNat 1))),(.var 25),(.var 27)],
 .rel "parts" true (Abs.dD kK kT N) [(.var 24),(.var 26)],
 .rel "left" false (Abs.dD kK kT N) [(.var 24),(.var 26)],
 .rel "app" false (Abs.ng kK kT) [(.var 24),(.var 26),(.a2 (.bin .sub) (.var 13) (.int .i64 (.ofNat 1))),(.var 15),(.a2 (.at 4 3) (.var 15) (.a2 (.bin .sub) (.var 13) (.int .i64 (.ofNat 1)))),(.a2 (.bin .sub) (.a1 .len (.a2 (.at 4 3) (.var 15) (.a2 (.bin .sub) (.var 13) (.int .i64 (.ofNat 1))))) (.int .i64 (.ofNat 1)))],
 .rel "snd" true (Abs.jR kK kT) [(.var 24),(.var 26)],
 .rel "wrd" true (Abs.uz kK kT) [(.a2 (.bin .add) (.var 16) (.int .i64 (.ofNat 1))),(.var 24),(.var 26)],
 .rel "wrds" true (Abs.kM kK kT) [(.var 27),(.var 16),(.var 13),(.var 15)],
 .rel "wrds" false (Abs.kM kK kT) [(.var 27),(.a2 (.bin .add) (.var 16) (.int .i64 (.ofNat 1))),(.var 24),(.var 26)],
 .fl (.a2 (.bin .eql) (.a1 .len (.a2 (.at 4 3) (.var 15) (.a2 (.bin .sub) (.var 13) (.int .i64 (.ofNat 1))))) (.int .i64 (.ofNat 0))),
 .fl (.a2 (.bin .eql) (.a2 (.at 4 2) (.var 15) (.a2 (.bin .sub) (.var 13) (.int .i64 (.ofNat 1)))) (.str [])),
 .fl (.a2 (.bin .leq) (.a2 (.at 4 1) (.var 15) (.a2 (.bin .sub) (.var 13) (.int .i64 (.ofNat 1)))) (.int .i64 (.ofNat 576460752303423487))),
 .fl (.a2 (.bin .geq) (.a2 (.at 4 1) (.var 15) (.a2 (.bin .sub) (.var 13) (.int .i64 (.ofNat 1)))) (.int .i64 (.negSucc 576460752303423487))),
 .tr (.a2 (.bin .leq) (.a1 .len (.a2 (.at 4 2) (.var 15) (.a2 (.bin .sub) (.var 13) (.int .i64 (.ofNat 1))))) (.int .i64 (.ofNat 64))),
 .tr (.a2 (.bin .eql) (.a2 (.at 4 1) (.var 15) (.a2 (.bin .sub) (.var 13) (.int .i64 (.ofNat 1)))) (.int .i64 (.ofNat 0))),
 .tr (.a2 (.bin .eql) (.a2 (.at 4 0) (.var 15) (.a2 (.bin .sub) (.var 13) (.int .i64 (.ofNat 1)))) (.int .i64 (.ofNat 2))),
 .fl (.a2 (.bin .eql) (.a2 (.at 4 0) (.var 15) (.a2 (.bin .sub) (.var 13) (.int .i64 (.ofNat 1)))) (.int .i64 (.ofNat 1))),
 .fl (.a2 (.bin .leq) (.a1 .len (.a2 (.at 4 2) (.var 15) (.a2 (.bin .sub) (.var 13) (.int .i64 (.ofNat 1))))) (.int .i64 (.ofNat 64))),
 .fl (.a2 (.bin .eql) (.a2 (.at 4 1) (.var 15) (.a2 (.bin .sub) (.var 13) (.int .i64 (.ofNat 1)))) (.int .i64 (.ofNat 0))),
 .tr (.a2 (.bin .leq) (.a2 (.at 4 1) (.var 15) (.a2 (.bin .sub) (.var 13) (.int .i64 (.ofNat 1)))) (.int .i64 (.ofNat 1073741824))),
 .tr (.a2 (.bin .geq) (.a2 (.at 4 1) (.var 15) (.a2 (.bin .sub) (.var 13) (.int .i64 (.ofNat 1)))) (.int .i64 (.ofNat 0))),
 .tr (.a2 (.bin .eql) (.a2 (.at 4 0) (.var 15) (.a2 (.bin .sub) (.var 13) (.int .i64 (.ofNat 1)))) (.int .i64 (.ofNat 3))),
 .fl (.a2 (.bin .eql) (.a2 (.at 4 0) (.var 15) (.a2 (.bin .sub) (.var 13) (.int .i64 (.ofNat 1)))) (.int .i64 (.ofNat 2))),
 .fl (.a2 (.bin .leq) (.a2 (.at 4 1) (.var 15) (.a2 (.bin .sub) (.var 13) (.int .i64 (.ofNat 1)))) (.int .i64 (.ofNat 1073741824))),
 .fl (.a2 (.bin .geq) (.a2 (.at 4 1) (.var 15) (.a2 (.bin .sub) (.var 13) (.int .i64 (.ofNat 1)))) (.int .i64 (.ofNat 0))),
 .tr (.a2 (.bin .eql) (.a2 (.at 4 0) (.var 15) (.a2 (.bin .sub) (.var 13) (.int .i64 (.ofNat 1)))) (.int .i64 (.ofNat 4))),
 .fl (.a2 (.bin .eql) (.a2 (.at 4 0) (.var 15) (.a2 (.bin .sub) (.var 13) (.int .i64 (.ofNat 1)))) (.int .i64 (.ofNat 3))),
 .tr (.a2 (.bin .eql) (.a2 (.at 4 0) (.var 15) (.a2 (.bin .sub) (.var 13) (.int .i64 (.ofNat 1)))) (.int .i64 (.ofNat 6))),
 .fl (.a2 (.bin .eql) (.a2 (.at 4 0) (.var 15) (.a2 (.bin .sub) (.var 13) (.int .i64 (.ofNat 1)))) (.int .i64 (.ofNat 4))),
 .tr (.a2 (.bin .eql) (.a2 (.at 4 0) (.var 15) (.a2 (.bin .sub) (.var 13) (.int .i64 (.ofNat 1)))) (.int .i64 (.ofNat 5))),
 .fl (.a2 (.bin .eql) (.a2 (.at 4 0) (.var 15) (.a2 (.bin .sub) (.var 13) (.int .i64 (.ofNat 1)))) (.int .i64 (.ofNat 6))),
 .rel "wrd" true (Abs.uz kK kT) [(.a2 (.bin .add) (.var 16) (.int .i64 (.ofNat 2))),(.var 25),(.var 27)],
 .rel "wrds" false (Abs.kM kK kT) [(.var 28),(.a2 (.bin .add) (.var 16) (.int .i64 (.ofNat 2))),(.var 25),(.var 27)],
 .rel "wrd" true (Abs.uz kK kT) [(.a2 (.bin .add) (.var 16) (.int .i64 (.ofNat 2))),(.var 24),(.var 26)],
 .rel "wrds" false (Abs.kM kK kT) [(.var 27),(.a2 (.bin .add) (.var 16) (.int .i64 (.ofNat 2))),(.var 24),(.var 26)],
 .tr (.a2 (.bin .leq) (.a1 .len (.a2 (.at 4 3) (.var 15) (.a2 (.bin .sub) (.var 13) (.int .i64 (.ofNat 1))))) (.int .i64 (.ofNat 64))),
 .fl (.a2 (.bin .leq) (.a1 .len (.a2 (.at 4 3) (.var 15) (.a2 (.bin .sub) (.var 13) (.int .i64 (.ofNat 1))))) (.int .i64 (.ofNat 64))),
 .tr (.a2 (.bin .eql) (.a2 (.at 4 0) (.var 15) (.a2 (.bin .sub) (.var 13) (.int .i64 (.ofNat 1)))) (.int .i64 (.ofNat 7))),
 .fl (.a2 (.bin .eql) (.a2 (.at 4 0) (.var 15) (.a2 (.bin .sub) (.var 13) (.int .i64 (.ofNat 1)))) (.int .i64 (.ofNat 5))),
 .tr (.a2 (.bin .eql) (.a2 (.at 4 0) (.var 15) (.a2 (.bin .sub) (.var 13) (.int .i64 (.ofNat 1)))) (.int .i64 (.ofNat 8))),
 .fl (.a2 (.bin .eql) (.a2 (.at 4 0) (.var 15) (.a2 (.bin .sub) (.var 13) (.int .i64 (.ofNat 1)))) (.int .i64 (.ofNat 7))),
 .tr (.a2 (.bin .eql) (.a1 .len (.a2 (.at 4 3) (.var 15) (.a2 (.bin .sub) (.var 13) (.int .i64 (.ofNat 1))))) (.int .i64 (.ofNat 2))),
 .tr (.a2 (.bin .eql) (.a2 (.at 4 0) (.var 15) (.a2 (.bin .sub) (.var 13) (.int .i64 (.ofNat 1)))) (.int .i64 (.ofNat 9))),
 .fl (.a2 (.bin .eql) (.a2 (.at 4 0) (.var 15) (.a2 (.bin .sub) (.var 13) (.int .i64 (.ofNat 1)))) (.int .i64 (.ofNat 8))),
 .fl (.a2 (.bin .eql) (.a1 .len (.a2 (.at 4 3) (.var 15) (.a2 (.bin .sub) (.var 13) (.int .i64 (.ofNat 1))))) (.int .i64 (.ofNat 2))),
 .fl (.a2 (.bin .eql) (.a2 (.at 4 0) (.var 15) (.a2 (.bin .sub) (.var 13) (.int .i64 (.ofNat 1)))) (.int .i64 (.ofNat 9))),
 .rel "wrds" true (Abs.kM kK kT) [(.var 16),(.var 16),(.var 13),(.var 15)],
 .fl (.a2 (.bin .gtr) (.var 13) (.int .i64 (.ofNat 0)))]:List Abs.Fact).getD i (.tr (.bool true))
noncomputable def acv:List (List Nat):=[[0,1,2,3,4],[5,1,2,3,4],[6,1,2,3,4],[7,8,9,10,11,12,1,2,3,4],[13,14,15,8,9,10,11,12,1,2,3,4],[16,14,15,8,9,10,11,12,1,2,3,4],[17,14,15,8,9,10,11,12,1,2,3,4],[18,19,14,15,8,9,10,11,12,1,2,3,4],[20,21,22,8,9,10,11,12,1,2,3,4],[23,21,22,8,9,10,11,12,1,2,3,4],[24,21,22,8,9,10,11,12,1,2,3,4],[25,26,21,22,8,9,10,11,12,1,2,3,4],[27,9,10,11,12,1,2,3,4],[28,10,11,12,1,2,3,4],[29,11,12,1,2,3,4],[30,12,1,2,3,4],[7,8,31,32,33,34,1,2,3,4],[13,14,15,8,31,32,33,34,1,2,3,4],[16,14,15,8,31,32,33,34,1,2,3,4],[17,14,15,8,31,32,33,34,1,2,3,4],[18,19,14,15,8,31,32,33,34,1,2,3,4],[20,21,22,8,31,32,33,34,1,2,3,4],[23,21,22,8,31,32,33,34,1,2,3,4],[24,21,22,8,31,32,33,34,1,2,3,4],[25,26,21,22,8,31,32,33,34,1,2,3,4],[27,31,32,33,34,1,2,3,4],[35,32,33,34,1,2,3,4],[36,33,34,1,2,3,4],[7,8,9,37,38,39,40,34,1,2,3,4],[13,14,15,8,9,37,38,39,40,34,1,2,3,4],[16,14,15,8,9,37,38,39,40,34,1,2,3,4],[17,14,15,8,9,37,38,39,40,34,1,2,3,4],[18,19,14,15,8,9,37,38,39,40,34,1,2,3,4],[20,21,22,8,9,37,38,39,40,34,1,2,3,4],[23,21,22,8,9,37,38,39,40,34,1,2,3,4],[24,21,22,8,9,37,38,39,40,34,1,2,3,4],[25,26,21,22,8,9,37,38,39,40,34,1,2,3,4],[27,9,37,38,39,40,34,1,2,3,4],[28,37,38,39,40,34,1,2,3,4],[41,38,39,40,34,1,2,3,4],[42,39,40,34,1,2,3,4],[7,8,9,37,38,43,44,40,34,1,2,3,4],[13,14,15,8,9,37,38,43,44,40,34,1,2,3,4],[16,14,15,8,9,37,38,43,44,40,34,1,2,3,4],[17,14,15,8,9,37,38,43,44,40,34,1,2,3,4],[18,19,14,15,8,9,37,38,43,44,40,34,1,2,3,4],[20,21,22,8,9,37,38,43,44,40,34,1,2,3,4],[23,21,22,8,9,37,38,43,44,40,34,1,2,3,4],[24,21,22,8,9,37,38,43,44,40,34,1,2,3,4],[25,26,21,22,8,9,37,38,43,44,40,34,1,2,3,4],[27,9,37,38,43,44,40,34,1,2,3,4],[28,37,38,43,44,40,34,1,2,3,4],[41,38,43,44,40,34,1,2,3,4],[42,43,44,40,34,1,2,3,4],[7,8,9,37,38,45,46,44,40,34,1,2,3,4],[13,14,15,8,9,37,38,45,46,44,40,34,1,2,3,4],[16,14,15,8,9,37,38,45,46,44,40,34,1,2,3,4],[17,14,15,8,9,37,38,45,46,44,40,34,1,2,3,4],[18,19,14,15,8,9,37,38,45,46,44,40,34,1,2,3,4],[20,21,22,8,9,37,38,45,46,44,40,34,1,2,3,4],[23,21,22,8,9,37,38,45,46,44,40,34,1,2,3,4],[24,21,22,8,9,37,38,45,46,44,40,34,1,2,3,4],[25,26,21,22,8,9,37,38,45,46,44,40,34,1,2,3,4],[27,9,37,38,45,46,44,40,34,1,2,3,4],[28,37,38,45,46,44,40,34,1,2,3,4],[41,38,45,46,44,40,34,1,2,3,4],[42,45,46,44,40,34,1,2,3,4],[7,8,9,37,38,47,48,46,44,40,34,1,2,3,4],[13,14,15,8,9,37,38,47,48,46,44,40,34,1,2,3,4],[16,14,15,8,9,37,38,47,48,46,44,40,34,1,2,3,4],[49,14,15,8,9,37,38,47,48,46,44,40,34,1,2,3,4],[18,50,14,15,8,9,37,38,47,48,46,44,40,34,1,2,3,4],[20,21,22,8,9,37,38,47,48,46,44,40,34,1,2,3,4],[23,21,22,8,9,37,38,47,48,46,44,40,34,1,2,3,4],[51,21,22,8,9,37,38,47,48,46,44,40,34,1,2,3,4],[25,52,21,22,8,9,37,38,47,48,46,44,40,34,1,2,3,4],[7,53,27,9,37,38,47,48,46,44,40,34,1,2,3,4],[13,14,15,53,27,9,37,38,47,48,46,44,40,34,1,2,3,4],[16,14,15,53,27,9,37,38,47,48,46,44,40,34,1,2,3,4],[49,14,15,53,27,9,37,38,47,48,46,44,40,34,1,2,3,4],[18,50,14,15,53,27,9,37,38,47,48,46,44,40,34,1,2,3,4],[20,21,22,53,27,9,37,38,47,48,46,44,40,34,1,2,3,4],[23,21,22,53,27,9,37,38,47,48,46,44,40,34,1,2,3,4],[51,21,22,53,27,9,37,38,47,48,46,44,40,34,1,2,3,4],[25,52,21,22,53,27,9,37,38,47,48,46,44,40,34,1,2,3,4],[54,27,9,37,38,47,48,46,44,40,34,1,2,3,4],[28,37,38,47,48,46,44,40,34,1,2,3,4],[41,38,47,48,46,44,40,34,1,2,3,4],[42,47,48,46,44,40,34,1,2,3,4],[7,53,9,32,55,56,48,46,44,40,34,1,2,3,4],[13,14,15,53,9,32,55,56,48,46,44,40,34,1,2,3,4],[16,14,15,53,9,32,55,56,48,46,44,40,34,1,2,3,4],[49,14,15,53,9,32,55,56,48,46,44,40,34,1,2,3,4],[18,50,14,15,53,9,32,55,56,48,46,44,40,34,1,2,3,4],[20,21,22,53,9,32,55,56,48,46,44,40,34,1,2,3,4],[23,21,22,53,9,32,55,56,48,46,44,40,34,1,2,3,4],[51,21,22,53,9,32,55,56,48,46,44,40,34,1,2,3,4],[25,52,21,22,53,9,32,55,56,48,46,44,40,34,1,2,3,4],[54,9,32,55,56,48,46,44,40,34,1,2,3,4],[28,32,55,56,48,46,44,40,34,1,2,3,4],[36,55,56,48,46,44,40,34,1,2,3,4],[7,8,9,32,57,58,56,48,46,44,40,34,1,2,3,4],[13,14,15,8,9,32,57,58,56,48,46,44,40,34,1,2,3,4],[16,14,15,8,9,32,57,58,56,48,46,44,40,34,1,2,3,4],[17,14,15,8,9,32,57,58,56,48,46,44,40,34,1,2,3,4],[18,19,14,15,8,9,32,57,58,56,48,46,44,40,34,1,2,3,4],[20,21,22,8,9,32,57,58,56,48,46,44,40,34,1,2,3,4],[23,21,22,8,9,32,57,58,56,48,46,44,40,34,1,2,3,4],[24,21,22,8,9,32,57,58,56,48,46,44,40,34,1,2,3,4],[25,26,21,22,8,9,32,57,58,56,48,46,44,40,34,1,2,3,4],[27,9,32,57,58,56,48,46,44,40,34,1,2,3,4],[28,32,57,58,56,48,46,44,40,34,1,2,3,4],[36,57,58,56,48,46,44,40,34,1,2,3,4],[7,59,9,32,60,61,58,56,48,46,44,40,34,1,2,3,4],[13,14,15,59,9,32,60,61,58,56,48,46,44,40,34,1,2,3,4],[16,14,15,59,9,32,60,61,58,56,48,46,44,40,34,1,2,3,4],[17,14,15,59,9,32,60,61,58,56,48,46,44,40,34,1,2,3,4],[18,19,14,15,59,9,32,60,61,58,56,48,46,44,40,34,1,2,3,4],[20,21,22,59,9,32,60,61,58,56,48,46,44,40,34,1,2,3,4],[23,21,22,59,9,32,60,61,58,56,48,46,44,40,34,1,2,3,4],[24,21,22,59,9,32,60,61,58,56,48,46,44,40,34,1,2,3,4],[25,26,21,22,59,9,32,60,61,58,56,48,46,44,40,34,1,2,3,4],[62,9,32,60,61,58,56,48,46,44,40,34,1,2,3,4],[28,32,60,61,58,56,48,46,44,40,34,1,2,3,4],[36,60,61,58,56,48,46,44,40,34,1,2,3,4],[63,61,58,56,48,46,44,40,34,1,2,3,4],[64,65,2,3,4]]
set_option maxRecDepth 100000 in
theorem a7h (N:Nat) (tl:List Deferred):Abs.R.res (fun _=>true) ((Abs.dS (Abs.mkCtx Tryz.prog (fun _=>false) aH [] [Abs.jg Tryz.prog kU "parts" (Abs.dD kK kT N) (Abs.jR kK kT) (Abs.uz kK kT) (Abs.kM kK kT),Abs.jw Tryz.prog kU "back" (Abs.pBack kK kT 1073741824 N) (Abs.dD kK kT N) (Abs.ng kK kT)]) 1000000 ((Abs.jg Tryz.prog kU "parts" (Abs.dD kK kT (N+1)) (Abs.jR kK kT) (Abs.uz kK kT) (Abs.kM kK kT)).fi tl) (Abs.jg Tryz.prog kU "parts" (Abs.dD kK kT (N+1)) (Abs.jR kK kT) (Abs.uz kK kT) (Abs.kM kK kT)).tr (Abs.jg Tryz.prog kU "parts" (Abs.dD kK kT (N+1)) (Abs.jR kK kT) (Abs.uz kK kT) (Abs.kM kK kT)).todo [] .run none (Abs.jg Tryz.prog kU "parts" (Abs.dD kK kT (N+1)) (Abs.jR kK kT) (Abs.uz kK kT) (Abs.kM kK kT)).S).bind (Abs.bC (Abs.mkCtx Tryz.prog (fun _=>false) aH [] [Abs.jg Tryz.prog kU "parts" (Abs.dD kK kT N) (Abs.jR kK kT) (Abs.uz kK kT) (Abs.kM kK kT),Abs.jw Tryz.prog kU "back" (Abs.pBack kK kT 1073741824 N) (Abs.dD kK kT N) (Abs.ng kK kT)]) (Abs.jg Tryz.prog kU "parts" (Abs.dD kK kT (N+1)) (Abs.jR kK kT) (Abs.uz kK kT) (Abs.kM kK kT))))=some (acv.map fun r=>r.map (aaP N)):=by kernel_rfl
theorem a3Y {N:Nat} (hN:N+1≤1073741824) (hc:Abs.bM Tryz.prog (Abs.jg Tryz.prog kU "parts" (Abs.dD kK kT N) (Abs.jR kK kT) (Abs.uz kK kT) (Abs.kM kK kT))):Abs.bM Tryz.prog (Abs.jg Tryz.prog kU "parts" (Abs.dD kK kT (N+1)) (Abs.jR kK kT) (Abs.uz kK kT) (Abs.kM kK kT)):=Abs.bV (Abs.aX (fun c h=>by cases h with|head=>exact hc|tail _ h=>cases h with|head=>exact a2H (by omega) _|tail _ h=>cases h) (fun _ h=>by cases h) aB aK (Abs.bG aS)) aC _ 1000000 (a7h N)
 (Abs.gW (F:=aaP N) (pats:=[[0,1,2],[5,1,2],[6,1,2],[7,1,2],[13,14],[16,15,1,2,3],[17,15,1,2,4],[18,19,15,1,2,4],[20,21],[23,22,1,2,3],[24,22,1,2,4],[25,26,22,1,2,4],[1,2,3,27,9,10,11,12],[1,2,3,28,10,11,12],[1,2,3,29,11,12],[1,2,3,30,12],[1,2,3,27,31,32,33,34],[1,2,3,35,32,33,34],[1,2,3,36,33,34],[1,2,3,27,9,37,38,39,40,34],[1,2,3,28,37,38,39,40,34],[1,2,3,41,38,39,40,34],[1,2,3,42,39,40,34],[1,2,3,27,9,37,38,43,44,40,34],[1,2,3,28,37,38,43,44,40,34],[1,2,3,41,38,43,44,40,34],[1,2,3,42,43,44,40,34],[1,2,3,27,9,37,38,45,46,44,40,34],[1,2,3,28,37,38,45,46,44,40,34],[1,2,3,41,38,45,46,44,40,34],[1,2,3,42,45,46,44,40,34],[49,15,1,2,4],[18,50,15,1,2,4],[51,22,1,2,4],[25,52,22,1,2,4],[1,2,3,54,27,9,37,38,47,48,46,44,40,34],[1,2,3,28,37,38,47,48,46,44,40,34],[1,2,3,41,38,47,48,46,44,40,34],[1,2,3,42,47,48,46,44,40,34],[1,2,3,54,9,32,55,56,48,46,44,40,34],[1,2,3,28,32,55,56,48,46,44,40,34],[1,2,3,36,55,56,48,46,44,40,34],[1,2,3,27,9,32,57,58,56,48,46,44,40,34],[1,2,3,28,32,57,58,56,48,46,44,40,34],[1,2,3,36,57,58,56,48,46,44,40,34],[1,2,3,62,9,32,60,61,58,56,48,46,44,40,34],[1,2,3,28,32,60,61,58,56,48,46,44,40,34],[1,2,3,36,60,61,58,56,48,46,44,40,34],[1,2,3,63,61,58,56,48,46,44,40,34],[64,4]]) (fun p hp γ h=>by
   simp only [List.mem_cons,List.not_mem_nil,or_false] at hp
   rcases hp with rfl|rfl|rfl|rfl|rfl|rfl|rfl|rfl|rfl|rfl|rfl|rfl|rfl|rfl|rfl|rfl|rfl|rfl|rfl|rfl|rfl|rfl|rfl|rfl|rfl|rfl|rfl|rfl|rfl|rfl|rfl|rfl|rfl|rfl|rfl|rfl|rfl|rfl|rfl|rfl|rfl|rfl|rfl|rfl|rfl|rfl|rfl|rfl|rfl|rfl
   ·exact Abs.Ul hN (h 2 (by simp)) (h 1 (by simp)) (h 0 (by simp))
   ·exact Abs.Pg hN (h 2 (by simp)) (h 1 (by simp)) (h 5 (by simp))
   ·exact Abs.Um hN (h 2 (by simp)) (h 1 (by simp)) (h 6 (by simp))
   ·exact Abs.Ph jO hN (Nat.le_refl _) (h 2 (by simp)) (h 1 (by simp)) (h 7 (by simp))
   ·exact (h 13 (by simp)) (h 14 (by simp))
   ·exact Abs.Ua jO hN (h 2 (by simp)) (h 1 (by simp)) (h 15 (by simp)) (h 3 (by simp)) (h 16 (by simp))
   ·exact Abs.Gm jO hN (by decide) (h 2 (by simp)) (h 1 (by simp)) (h 15 (by simp)) (h 4 (by simp)) (h 17 (by simp))
   ·exact Abs.DN jO hN (by decide) (h 2 (by simp)) (h 1 (by simp)) (h 15 (by simp)) (h 4 (by simp)) (h 19 (by simp)) (h 18 (by simp))
   ·exact (h 20 (by simp)) (h 21 (by simp))
   ·exact Abs.Ua jO hN (h 2 (by simp)) (h 1 (by simp)) (h 22 (by simp)) (h 3 (by simp)) (h 23 (by simp))
   ·exact Abs.Gm jO hN (by decide) (h 2 (by simp)) (h 1 (by simp)) (h 22 (by simp)) (h 4 (by simp)) (h 24 (by simp))
   ·exact Abs.DN jO hN (by decide) (h 2 (by simp)) (h 1 (by simp)) (h 22 (by simp)) (h 4 (by simp)) (h 26 (by simp)) (h 25 (by simp))
   ·exact absurd (Abs.dY jO hN (h 2 (by simp)) (h 1 (by simp)) (h 3 (by simp))) (by
    rintro ⟨k,nn,str,l,e0,e1,e2,e3,hs⟩
    have es:=Abs.bY e2
    have q27:=Abs.au (c:=0) (h 27 (by simp)) e3
    have q9:=Abs.eG (h 9 (by simp)) e2
    have q10:=Abs.dU (c:=576460752303423487) (h 10 (by simp)) e1
    have q11:=Abs.eu (c:=(-576460752303423488)) (h 11 (by simp)) e1
    have q12:=Abs.aQ (c:=1) (h 12 (by simp)) e0
    unfold Abs.dA at hs;omega)
   ·exact absurd (Abs.dY jO hN (h 2 (by simp)) (h 1 (by simp)) (h 3 (by simp))) (by
    rintro ⟨k,nn,str,l,e0,e1,e2,e3,hs⟩
    have es:=Abs.bY e2
    have q28:=Abs.uj (h 28 (by simp)) e2
    have q10:=Abs.dU (c:=576460752303423487) (h 10 (by simp)) e1
    have q11:=Abs.eu (c:=(-576460752303423488)) (h 11 (by simp)) e1
    have q12:=Abs.aQ (c:=1) (h 12 (by simp)) e0
    unfold Abs.dA at hs;omega)
   ·exact absurd (Abs.dY jO hN (h 2 (by simp)) (h 1 (by simp)) (h 3 (by simp))) (by
    rintro ⟨k,nn,str,l,e0,e1,e2,e3,hs⟩
    have es:=Abs.bY e2
    have q29:=Abs.um (c:=576460752303423487) (h 29 (by simp)) e1
    have q11:=Abs.eu (c:=(-576460752303423488)) (h 11 (by simp)) e1
    have q12:=Abs.aQ (c:=1) (h 12 (by simp)) e0
    unfold Abs.dA at hs;omega)
   ·exact absurd (Abs.dY jO hN (h 2 (by simp)) (h 1 (by simp)) (h 3 (by simp))) (by
    rintro ⟨k,nn,str,l,e0,e1,e2,e3,hs⟩
    have es:=Abs.bY e2
    have q30:=Abs.Du (c:=(-576460752303423488)) (h 30 (by simp)) e1
    have q12:=Abs.aQ (c:=1) (h 12 (by simp)) e0
    unfold Abs.dA at hs;omega)
   ·exact absurd (Abs.dY jO hN (h 2 (by simp)) (h 1 (by simp)) (h 3 (by simp))) (by
    rintro ⟨k,nn,str,l,e0,e1,e2,e3,hs⟩
    have es:=Abs.bY e2
    have q27:=Abs.au (c:=0) (h 27 (by simp)) e3
    have q31:=Abs.dU (c:=64) (h 31 (by simp)) es
    have q32:=Abs.aQ (c:=0) (h 32 (by simp)) e1
    have q33:=Abs.aQ (c:=2) (h 33 (by simp)) e0
    have q34:=Abs.au (c:=1) (h 34 (by simp)) e0
    unfold Abs.dA at hs;omega)
   ·exact absurd (Abs.dY jO hN (h 2 (by simp)) (h 1 (by simp)) (h 3 (by simp))) (by
    rintro ⟨k,nn,str,l,e0,e1,e2,e3,hs⟩
    have es:=Abs.bY e2
    have q35:=Abs.um (c:=64) (h 35 (by simp)) es
    have q32:=Abs.aQ (c:=0) (h 32 (by simp)) e1
    have q33:=Abs.aQ (c:=2) (h 33 (by simp)) e0
    have q34:=Abs.au (c:=1) (h 34 (by simp)) e0
    unfold Abs.dA at hs;omega)
   ·exact absurd (Abs.dY jO hN (h 2 (by simp)) (h 1 (by simp)) (h 3 (by simp))) (by
    rintro ⟨k,nn,str,l,e0,e1,e2,e3,hs⟩
    have es:=Abs.bY e2
    have q36:=Abs.au (c:=0) (h 36 (by simp)) e1
    have q33:=Abs.aQ (c:=2) (h 33 (by simp)) e0
    have q34:=Abs.au (c:=1) (h 34 (by simp)) e0
    unfold Abs.dA at hs;omega)
   ·exact absurd (Abs.dY jO hN (h 2 (by simp)) (h 1 (by simp)) (h 3 (by simp))) (by
    rintro ⟨k,nn,str,l,e0,e1,e2,e3,hs⟩
    have es:=Abs.bY e2
    have q27:=Abs.au (c:=0) (h 27 (by simp)) e3
    have q9:=Abs.eG (h 9 (by simp)) e2
    have q37:=Abs.dU (c:=1073741824) (h 37 (by simp)) e1
    have q38:=Abs.eu (c:=0) (h 38 (by simp)) e1
    have q39:=Abs.aQ (c:=3) (h 39 (by simp)) e0
    have q40:=Abs.au (c:=2) (h 40 (by simp)) e0
    have q34:=Abs.au (c:=1) (h 34 (by simp)) e0
    unfold Abs.dA at hs;omega)
   ·exact absurd (Abs.dY jO hN (h 2 (by simp)) (h 1 (by simp)) (h 3 (by simp))) (by
    rintro ⟨k,nn,str,l,e0,e1,e2,e3,hs⟩
    have es:=Abs.bY e2
    have q28:=Abs.uj (h 28 (by simp)) e2
    have q37:=Abs.dU (c:=1073741824) (h 37 (by simp)) e1
    have q38:=Abs.eu (c:=0) (h 38 (by simp)) e1
    have q39:=Abs.aQ (c:=3) (h 39 (by simp)) e0
    have q40:=Abs.au (c:=2) (h 40 (by simp)) e0
    have q34:=Abs.au (c:=1) (h 34 (by simp)) e0
    unfold Abs.dA at hs;omega)
   ·exact absurd (Abs.dY jO hN (h 2 (by simp)) (h 1 (by simp)) (h 3 (by simp))) (by
    rintro ⟨k,nn,str,l,e0,e1,e2,e3,hs⟩
    have es:=Abs.bY e2
    have q41:=Abs.um (c:=1073741824) (h 41 (by simp)) e1
    have q38:=Abs.eu (c:=0) (h 38 (by simp)) e1
    have q39:=Abs.aQ (c:=3) (h 39 (by simp)) e0
    have q40:=Abs.au (c:=2) (h 40 (by simp)) e0
    have q34:=Abs.au (c:=1) (h 34 (by simp)) e0
    unfold Abs.dA at hs;omega)
   ·exact absurd (Abs.dY jO hN (h 2 (by simp)) (h 1 (by simp)) (h 3 (by simp))) (by
    rintro ⟨k,nn,str,l,e0,e1,e2,e3,hs⟩
    have es:=Abs.bY e2
    have q42:=Abs.Du (c:=0) (h 42 (by simp)) e1
    have q39:=Abs.aQ (c:=3) (h 39 (by simp)) e0
    have q40:=Abs.au (c:=2) (h 40 (by simp)) e0
    have q34:=Abs.au (c:=1) (h 34 (by simp)) e0
    unfold Abs.dA at hs;omega)
   ·exact absurd (Abs.dY jO hN (h 2 (by simp)) (h 1 (by simp)) (h 3 (by simp))) (by
    rintro ⟨k,nn,str,l,e0,e1,e2,e3,hs⟩
    have es:=Abs.bY e2
    have q27:=Abs.au (c:=0) (h 27 (by simp)) e3
    have q9:=Abs.eG (h 9 (by simp)) e2
    have q37:=Abs.dU (c:=1073741824) (h 37 (by simp)) e1
    have q38:=Abs.eu (c:=0) (h 38 (by simp)) e1
    have q43:=Abs.aQ (c:=4) (h 43 (by simp)) e0
    have q44:=Abs.au (c:=3) (h 44 (by simp)) e0
    have q40:=Abs.au (c:=2) (h 40 (by simp)) e0
    have q34:=Abs.au (c:=1) (h 34 (by simp)) e0
    unfold Abs.dA at hs;omega)
   ·exact absurd (Abs.dY jO hN (h 2 (by simp)) (h 1 (by simp)) (h 3 (by simp))) (by
    rintro ⟨k,nn,str,l,e0,e1,e2,e3,hs⟩
    have es:=Abs.bY e2
    have q28:=Abs.uj (h 28 (by simp)) e2
    have q37:=Abs.dU (c:=1073741824) (h 37 (by simp)) e1
    have q38:=Abs.eu (c:=0) (h 38 (by simp)) e1
    have q43:=Abs.aQ (c:=4) (h 43 (by simp)) e0
    have q44:=Abs.au (c:=3) (h 44 (by simp)) e0
    have q40:=Abs.au (c:=2) (h 40 (by simp)) e0
    have q34:=Abs.au (c:=1) (h 34 (by simp)) e0
    unfold Abs.dA at hs;omega)
   ·exact absurd (Abs.dY jO hN (h 2 (by simp)) (h 1 (by simp)) (h 3 (by simp))) (by
    rintro ⟨k,nn,str,l,e0,e1,e2,e3,hs⟩
    have es:=Abs.bY e2
    have q41:=Abs.um (c:=1073741824) (h 41 (by simp)) e1
    have q38:=Abs.eu (c:=0) (h 38 (by simp)) e1
    have q43:=Abs.aQ (c:=4) (h 43 (by simp)) e0
    have q44:=Abs.au (c:=3) (h 44 (by simp)) e0
    have q40:=Abs.au (c:=2) (h 40 (by simp)) e0
    have q34:=Abs.au (c:=1) (h 34 (by simp)) e0
    unfold Abs.dA at hs;omega)
   ·exact absurd (Abs.dY jO hN (h 2 (by simp)) (h 1 (by simp)) (h 3 (by simp))) (by
    rintro ⟨k,nn,str,l,e0,e1,e2,e3,hs⟩
    have es:=Abs.bY e2
    have q42:=Abs.Du (c:=0) (h 42 (by simp)) e1
    have q43:=Abs.aQ (c:=4) (h 43 (by simp)) e0
    have q44:=Abs.au (c:=3) (h 44 (by simp)) e0
    have q40:=Abs.au (c:=2) (h 40 (by simp)) e0
    have q34:=Abs.au (c:=1) (h 34 (by simp)) e0
    unfold Abs.dA at hs;omega)
   ·exact absurd (Abs.dY jO hN (h 2 (by simp)) (h 1 (by simp)) (h 3 (by simp))) (by
    rintro ⟨k,nn,str,l,e0,e1,e2,e3,hs⟩
    have es:=Abs.bY e2
    have q27:=Abs.au (c:=0) (h 27 (by simp)) e3
    have q9:=Abs.eG (h 9 (by simp)) e2
    have q37:=Abs.dU (c:=1073741824) (h 37 (by simp)) e1
    have q38:=Abs.eu (c:=0) (h 38 (by simp)) e1
    have q45:=Abs.aQ (c:=6) (h 45 (by simp)) e0
    have q46:=Abs.au (c:=4) (h 46 (by simp)) e0
    have q44:=Abs.au (c:=3) (h 44 (by simp)) e0
    have q40:=Abs.au (c:=2) (h 40 (by simp)) e0
    have q34:=Abs.au (c:=1) (h 34 (by simp)) e0
    unfold Abs.dA at hs;omega)
   ·exact absurd (Abs.dY jO hN (h 2 (by simp)) (h 1 (by simp)) (h 3 (by simp))) (by
    rintro ⟨k,nn,str,l,e0,e1,e2,e3,hs⟩
    have es:=Abs.bY e2
    have q28:=Abs.uj (h 28 (by simp)) e2
    have q37:=Abs.dU (c:=1073741824) (h 37 (by simp)) e1
    have q38:=Abs.eu (c:=0) (h 38 (by simp)) e1
    have q45:=Abs.aQ (c:=6) (h 45 (by simp)) e0
    have q46:=Abs.au (c:=4) (h 46 (by simp)) e0
    have q44:=Abs.au (c:=3) (h 44 (by simp)) e0
    have q40:=Abs.au (c:=2) (h 40 (by simp)) e0
    have q34:=Abs.au (c:=1) (h 34 (by simp)) e0
    unfold Abs.dA at hs;omega)
   ·exact absurd (Abs.dY jO hN (h 2 (by simp)) (h 1 (by simp)) (h 3 (by simp))) (by
    rintro ⟨k,nn,str,l,e0,e1,e2,e3,hs⟩
    have es:=Abs.bY e2
    have q41:=Abs.um (c:=1073741824) (h 41 (by simp)) e1
    have q38:=Abs.eu (c:=0) (h 38 (by simp)) e1
    have q45:=Abs.aQ (c:=6) (h 45 (by simp)) e0
    have q46:=Abs.au (c:=4) (h 46 (by simp)) e0
    have q44:=Abs.au (c:=3) (h 44 (by simp)) e0
    have q40:=Abs.au (c:=2) (h 40 (by simp)) e0
    have q34:=Abs.au (c:=1) (h 34 (by simp)) e0
    unfold Abs.dA at hs;omega)
   ·exact absurd (Abs.dY jO hN (h 2 (by simp)) (h 1 (by simp)) (h 3 (by simp))) (by
    rintro ⟨k,nn,str,l,e0,e1,e2,e3,hs⟩
    have es:=Abs.bY e2
    have q42:=Abs.Du (c:=0) (h 42 (by simp)) e1
    have q45:=Abs.aQ (c:=6) (h 45 (by simp)) e0
    have q46:=Abs.au (c:=4) (h 46 (by simp)) e0
    have q44:=Abs.au (c:=3) (h 44 (by simp)) e0
    have q40:=Abs.au (c:=2) (h 40 (by simp)) e0
    have q34:=Abs.au (c:=1) (h 34 (by simp)) e0
    unfold Abs.dA at hs;omega)
   ·exact Abs.Gm jO hN (by decide) (h 2 (by simp)) (h 1 (by simp)) (h 15 (by simp)) (h 4 (by simp)) (h 49 (by simp))
   ·exact Abs.DN jO hN (by decide) (h 2 (by simp)) (h 1 (by simp)) (h 15 (by simp)) (h 4 (by simp)) (h 50 (by simp)) (h 18 (by simp))
   ·exact Abs.Gm jO hN (by decide) (h 2 (by simp)) (h 1 (by simp)) (h 22 (by simp)) (h 4 (by simp)) (h 51 (by simp))
   ·exact Abs.DN jO hN (by decide) (h 2 (by simp)) (h 1 (by simp)) (h 22 (by simp)) (h 4 (by simp)) (h 52 (by simp)) (h 25 (by simp))
   ·exact absurd (Abs.dY jO hN (h 2 (by simp)) (h 1 (by simp)) (h 3 (by simp))) (by
    rintro ⟨k,nn,str,l,e0,e1,e2,e3,hs⟩
    have es:=Abs.bY e2
    have q54:=Abs.um (c:=64) (h 54 (by simp)) e3
    have q27:=Abs.au (c:=0) (h 27 (by simp)) e3
    have q9:=Abs.eG (h 9 (by simp)) e2
    have q37:=Abs.dU (c:=1073741824) (h 37 (by simp)) e1
    have q38:=Abs.eu (c:=0) (h 38 (by simp)) e1
    have q47:=Abs.aQ (c:=5) (h 47 (by simp)) e0
    have q48:=Abs.au (c:=6) (h 48 (by simp)) e0
    have q46:=Abs.au (c:=4) (h 46 (by simp)) e0
    have q44:=Abs.au (c:=3) (h 44 (by simp)) e0
    have q40:=Abs.au (c:=2) (h 40 (by simp)) e0
    have q34:=Abs.au (c:=1) (h 34 (by simp)) e0
    unfold Abs.dA at hs;omega)
   ·exact absurd (Abs.dY jO hN (h 2 (by simp)) (h 1 (by simp)) (h 3 (by simp))) (by
    rintro ⟨k,nn,str,l,e0,e1,e2,e3,hs⟩
    have es:=Abs.bY e2
    have q28:=Abs.uj (h 28 (by simp)) e2
    have q37:=Abs.dU (c:=1073741824) (h 37 (by simp)) e1
    have q38:=Abs.eu (c:=0) (h 38 (by simp)) e1
    have q47:=Abs.aQ (c:=5) (h 47 (by simp)) e0
    have q48:=Abs.au (c:=6) (h 48 (by simp)) e0
    have q46:=Abs.au (c:=4) (h 46 (by simp)) e0
    have q44:=Abs.au (c:=3) (h 44 (by simp)) e0
    have q40:=Abs.au (c:=2) (h 40 (by simp)) e0
    have q34:=Abs.au (c:=1) (h 34 (by simp)) e0
    unfold Abs.dA at hs;omega)
   ·exact absurd (Abs.dY jO hN (h 2 (by simp)) (h 1 (by simp)) (h 3 (by simp))) (by
    rintro ⟨k,nn,str,l,e0,e1,e2,e3,hs⟩
    have es:=Abs.bY e2
    have q41:=Abs.um (c:=1073741824) (h 41 (by simp)) e1
    have q38:=Abs.eu (c:=0) (h 38 (by simp)) e1
    have q47:=Abs.aQ (c:=5) (h 47 (by simp)) e0
    have q48:=Abs.au (c:=6) (h 48 (by simp)) e0
    have q46:=Abs.au (c:=4) (h 46 (by simp)) e0
    have q44:=Abs.au (c:=3) (h 44 (by simp)) e0
    have q40:=Abs.au (c:=2) (h 40 (by simp)) e0
    have q34:=Abs.au (c:=1) (h 34 (by simp)) e0
    unfold Abs.dA at hs;omega)
   ·exact absurd (Abs.dY jO hN (h 2 (by simp)) (h 1 (by simp)) (h 3 (by simp))) (by
    rintro ⟨k,nn,str,l,e0,e1,e2,e3,hs⟩
    have es:=Abs.bY e2
    have q42:=Abs.Du (c:=0) (h 42 (by simp)) e1
    have q47:=Abs.aQ (c:=5) (h 47 (by simp)) e0
    have q48:=Abs.au (c:=6) (h 48 (by simp)) e0
    have q46:=Abs.au (c:=4) (h 46 (by simp)) e0
    have q44:=Abs.au (c:=3) (h 44 (by simp)) e0
    have q40:=Abs.au (c:=2) (h 40 (by simp)) e0
    have q34:=Abs.au (c:=1) (h 34 (by simp)) e0
    unfold Abs.dA at hs;omega)
   ·exact absurd (Abs.dY jO hN (h 2 (by simp)) (h 1 (by simp)) (h 3 (by simp))) (by
    rintro ⟨k,nn,str,l,e0,e1,e2,e3,hs⟩
    have es:=Abs.bY e2
    have q54:=Abs.um (c:=64) (h 54 (by simp)) e3
    have q9:=Abs.eG (h 9 (by simp)) e2
    have q32:=Abs.aQ (c:=0) (h 32 (by simp)) e1
    have q55:=Abs.aQ (c:=7) (h 55 (by simp)) e0
    have q56:=Abs.au (c:=5) (h 56 (by simp)) e0
    have q48:=Abs.au (c:=6) (h 48 (by simp)) e0
    have q46:=Abs.au (c:=4) (h 46 (by simp)) e0
    have q44:=Abs.au (c:=3) (h 44 (by simp)) e0
    have q40:=Abs.au (c:=2) (h 40 (by simp)) e0
    have q34:=Abs.au (c:=1) (h 34 (by simp)) e0
    unfold Abs.dA at hs;omega)
   ·exact absurd (Abs.dY jO hN (h 2 (by simp)) (h 1 (by simp)) (h 3 (by simp))) (by
    rintro ⟨k,nn,str,l,e0,e1,e2,e3,hs⟩
    have es:=Abs.bY e2
    have q28:=Abs.uj (h 28 (by simp)) e2
    have q32:=Abs.aQ (c:=0) (h 32 (by simp)) e1
    have q55:=Abs.aQ (c:=7) (h 55 (by simp)) e0
    have q56:=Abs.au (c:=5) (h 56 (by simp)) e0
    have q48:=Abs.au (c:=6) (h 48 (by simp)) e0
    have q46:=Abs.au (c:=4) (h 46 (by simp)) e0
    have q44:=Abs.au (c:=3) (h 44 (by simp)) e0
    have q40:=Abs.au (c:=2) (h 40 (by simp)) e0
    have q34:=Abs.au (c:=1) (h 34 (by simp)) e0
    unfold Abs.dA at hs;omega)
   ·exact absurd (Abs.dY jO hN (h 2 (by simp)) (h 1 (by simp)) (h 3 (by simp))) (by
    rintro ⟨k,nn,str,l,e0,e1,e2,e3,hs⟩
    have es:=Abs.bY e2
    have q36:=Abs.au (c:=0) (h 36 (by simp)) e1
    have q55:=Abs.aQ (c:=7) (h 55 (by simp)) e0
    have q56:=Abs.au (c:=5) (h 56 (by simp)) e0
    have q48:=Abs.au (c:=6) (h 48 (by simp)) e0
    have q46:=Abs.au (c:=4) (h 46 (by simp)) e0
    have q44:=Abs.au (c:=3) (h 44 (by simp)) e0
    have q40:=Abs.au (c:=2) (h 40 (by simp)) e0
    have q34:=Abs.au (c:=1) (h 34 (by simp)) e0
    unfold Abs.dA at hs;omega)
   ·exact absurd (Abs.dY jO hN (h 2 (by simp)) (h 1 (by simp)) (h 3 (by simp))) (by
    rintro ⟨k,nn,str,l,e0,e1,e2,e3,hs⟩
    have es:=Abs.bY e2
    have q27:=Abs.au (c:=0) (h 27 (by simp)) e3
    have q9:=Abs.eG (h 9 (by simp)) e2
    have q32:=Abs.aQ (c:=0) (h 32 (by simp)) e1
    have q57:=Abs.aQ (c:=8) (h 57 (by simp)) e0
    have q58:=Abs.au (c:=7) (h 58 (by simp)) e0
    have q56:=Abs.au (c:=5) (h 56 (by simp)) e0
    have q48:=Abs.au (c:=6) (h 48 (by simp)) e0
    have q46:=Abs.au (c:=4) (h 46 (by simp)) e0
    have q44:=Abs.au (c:=3) (h 44 (by simp)) e0
    have q40:=Abs.au (c:=2) (h 40 (by simp)) e0
    have q34:=Abs.au (c:=1) (h 34 (by simp)) e0
    unfold Abs.dA at hs;omega)
   ·exact absurd (Abs.dY jO hN (h 2 (by simp)) (h 1 (by simp)) (h 3 (by simp))) (by
    rintro ⟨k,nn,str,l,e0,e1,e2,e3,hs⟩
    have es:=Abs.bY e2
    have q28:=Abs.uj (h 28 (by simp)) e2
    have q32:=Abs.aQ (c:=0) (h 32 (by simp)) e1
    have q57:=Abs.aQ (c:=8) (h 57 (by simp)) e0
    have q58:=Abs.au (c:=7) (h 58 (by simp)) e0
    have q56:=Abs.au (c:=5) (h 56 (by simp)) e0
    have q48:=Abs.au (c:=6) (h 48 (by simp)) e0
    have q46:=Abs.au (c:=4) (h 46 (by simp)) e0
    have q44:=Abs.au (c:=3) (h 44 (by simp)) e0
    have q40:=Abs.au (c:=2) (h 40 (by simp)) e0
    have q34:=Abs.au (c:=1) (h 34 (by simp)) e0
    unfold Abs.dA at hs;omega)
   ·exact absurd (Abs.dY jO hN (h 2 (by simp)) (h 1 (by simp)) (h 3 (by simp))) (by
    rintro ⟨k,nn,str,l,e0,e1,e2,e3,hs⟩
    have es:=Abs.bY e2
    have q36:=Abs.au (c:=0) (h 36 (by simp)) e1
    have q57:=Abs.aQ (c:=8) (h 57 (by simp)) e0
    have q58:=Abs.au (c:=7) (h 58 (by simp)) e0
    have q56:=Abs.au (c:=5) (h 56 (by simp)) e0
    have q48:=Abs.au (c:=6) (h 48 (by simp)) e0
    have q46:=Abs.au (c:=4) (h 46 (by simp)) e0
    have q44:=Abs.au (c:=3) (h 44 (by simp)) e0
    have q40:=Abs.au (c:=2) (h 40 (by simp)) e0
    have q34:=Abs.au (c:=1) (h 34 (by simp)) e0
    unfold Abs.dA at hs;omega)
   ·exact absurd (Abs.dY jO hN (h 2 (by simp)) (h 1 (by simp)) (h 3 (by simp))) (by
    rintro ⟨k,nn,str,l,e0,e1,e2,e3,hs⟩
    have es:=Abs.bY e2
    have q62:=Abs.au (c:=2) (h 62 (by simp)) e3
    have q9:=Abs.eG (h 9 (by simp)) e2
    have q32:=Abs.aQ (c:=0) (h 32 (by simp)) e1
    have q60:=Abs.aQ (c:=9) (h 60 (by simp)) e0
    have q61:=Abs.au (c:=8) (h 61 (by simp)) e0
    have q58:=Abs.au (c:=7) (h 58 (by simp)) e0
    have q56:=Abs.au (c:=5) (h 56 (by simp)) e0
    have q48:=Abs.au (c:=6) (h 48 (by simp)) e0
    have q46:=Abs.au (c:=4) (h 46 (by simp)) e0
    have q44:=Abs.au (c:=3) (h 44 (by simp)) e0
    have q40:=Abs.au (c:=2) (h 40 (by simp)) e0
    have q34:=Abs.au (c:=1) (h 34 (by simp)) e0
    unfold Abs.dA at hs;omega)
   ·exact absurd (Abs.dY jO hN (h 2 (by simp)) (h 1 (by simp)) (h 3 (by simp))) (by
    rintro ⟨k,nn,str,l,e0,e1,e2,e3,hs⟩
    have es:=Abs.bY e2
    have q28:=Abs.uj (h 28 (by simp)) e2
    have q32:=Abs.aQ (c:=0) (h 32 (by simp)) e1
    have q60:=Abs.aQ (c:=9) (h 60 (by simp)) e0
    have q61:=Abs.au (c:=8) (h 61 (by simp)) e0
    have q58:=Abs.au (c:=7) (h 58 (by simp)) e0
    have q56:=Abs.au (c:=5) (h 56 (by simp)) e0
    have q48:=Abs.au (c:=6) (h 48 (by simp)) e0
    have q46:=Abs.au (c:=4) (h 46 (by simp)) e0
    have q44:=Abs.au (c:=3) (h 44 (by simp)) e0
    have q40:=Abs.au (c:=2) (h 40 (by simp)) e0
    have q34:=Abs.au (c:=1) (h 34 (by simp)) e0
    unfold Abs.dA at hs;omega)
   ·exact absurd (Abs.dY jO hN (h 2 (by simp)) (h 1 (by simp)) (h 3 (by simp))) (by
    rintro ⟨k,nn,str,l,e0,e1,e2,e3,hs⟩
    have es:=Abs.bY e2
    have q36:=Abs.au (c:=0) (h 36 (by simp)) e1
    have q60:=Abs.aQ (c:=9) (h 60 (by simp)) e0
    have q61:=Abs.au (c:=8) (h 61 (by simp)) e0
    have q58:=Abs.au (c:=7) (h 58 (by simp)) e0
    have q56:=Abs.au (c:=5) (h 56 (by simp)) e0
    have q48:=Abs.au (c:=6) (h 48 (by simp)) e0
    have q46:=Abs.au (c:=4) (h 46 (by simp)) e0
    have q44:=Abs.au (c:=3) (h 44 (by simp)) e0
    have q40:=Abs.au (c:=2) (h 40 (by simp)) e0
    have q34:=Abs.au (c:=1) (h 34 (by simp)) e0
    unfold Abs.dA at hs;omega)
   ·exact absurd (Abs.dY jO hN (h 2 (by simp)) (h 1 (by simp)) (h 3 (by simp))) (by
    rintro ⟨k,nn,str,l,e0,e1,e2,e3,hs⟩
    have es:=Abs.bY e2
    have q63:=Abs.au (c:=9) (h 63 (by simp)) e0
    have q61:=Abs.au (c:=8) (h 61 (by simp)) e0
    have q58:=Abs.au (c:=7) (h 58 (by simp)) e0
    have q56:=Abs.au (c:=5) (h 56 (by simp)) e0
    have q48:=Abs.au (c:=6) (h 48 (by simp)) e0
    have q46:=Abs.au (c:=4) (h 46 (by simp)) e0
    have q44:=Abs.au (c:=3) (h 44 (by simp)) e0
    have q40:=Abs.au (c:=2) (h 40 (by simp)) e0
    have q34:=Abs.au (c:=1) (h 34 (by simp)) e0
    unfold Abs.dA at hs;omega)
   ·exact Abs.a4C (h 4 (by simp)) (h 64 (by simp))) (by kernel_rfl))
set_option maxRecDepth 100000 in
theorem a9X (N:Nat) (hN:N≤1073741824):Abs.bM Tryz.prog (Abs.jg Tryz.prog kU "parts" (Abs.dD kK kT N) (Abs.jR kK kT) (Abs.uz kK kT) (Abs.kM kK kT)):=Abs.NZ (c:=fun N=>Abs.jg Tryz.prog kU "parts" (Abs.dD kK kT N) (Abs.jR kK kT) (Abs.uz kK kT) (Abs.kM kK kT)) (B:=1073741824) (Abs.oQ fun _ hf=>Abs.Ux (hf _ List.mem_cons_self)) (fun _ hn h=>a3Y hn h) N hN
noncomputable def aaR:Nat→Abs.Fact:=fun i=>([
 .rel "parts" true (Abs.dD kK kT kB) [(.int .i64 (.ofNat 1)),(.a2 .sn (.a2 .sn (.a2 .sn (.a2 .sn (.a1 (.nl [(.int .i64),(.int .i64),.str,(.sl 24)]) (.bool true)) (.var 7)) (.var 8)) (.var 9)) (.var 10))],
 .rel "term" false (Abs.aj kK kT kB) [(.var 7),(.var 8),(.var 9),(.var 10)],
 .rel "sound" true Abs.ah [(.var 7),(.var 8),(.var 9),(.var 10)],
 .fl (.a2 (.bin .gtr) (.var 19) (.int .i64 (.ofNat 65536))),
 .rel "snd" false (Abs.jR kK kT) [(.int .i64 (.ofNat 1)),(.a2 .sn (.a2 .sn (.a2 .sn (.a2 .sn (.a1 (.nl [(.int .i64),(.int .i64),.str,(.sl 24)]) (.bool true)) (.var 7)) (.var 8)) (.var 9)) (.var 10))]]:List Abs.Fact).getD i (.tr (.bool true))
noncomputable def acy:List (List Nat):=[[0,1],[2,3,4,1]]
set_option maxRecDepth 100000 in
theorem a7j  (tl:List Deferred):Abs.R.res (fun _=>true) ((Abs.dS (Abs.mkCtx Tryz.prog (fun _=>false) aH [] [Abs.jh Tryz.prog kU "parts" (Abs.dD kK kT kB) (Abs.jR kK kT)]) 1000000 ((Abs.rV Tryz.prog kU (Abs.aj kK kT kB) Abs.ah).fi tl) (Abs.rV Tryz.prog kU (Abs.aj kK kT kB) Abs.ah).tr (Abs.rV Tryz.prog kU (Abs.aj kK kT kB) Abs.ah).todo [] .run none (Abs.rV Tryz.prog kU (Abs.aj kK kT kB) Abs.ah).S).bind (Abs.bC (Abs.mkCtx Tryz.prog (fun _=>false) aH [] [Abs.jh Tryz.prog kU "parts" (Abs.dD kK kT kB) (Abs.jR kK kT)]) (Abs.rV Tryz.prog kU (Abs.aj kK kT kB) Abs.ah)))=some (acy.map fun r=>r.map (aaR)):=by kernel_rfl
theorem a9Z:Abs.bM Tryz.prog (Abs.rV Tryz.prog kU (Abs.aj kK kT kB) Abs.ah):=Abs.bV (Abs.aX (fun c h=>by cases h with|head=>exact a9Y _ (of_decide_eq_true (by kernel_rfl))|tail _ h=>cases h) (fun _ h=>by cases h) aB aK (Abs.bG aS)) aC _ 1000000 (a7j)
 (Abs.gW (F:=aaR) (pats:=[[0,1],[2,4,1]]) (fun p hp γ h=>by
   simp only [List.mem_cons,List.not_mem_nil,or_false] at hp
   rcases hp with rfl|rfl
   ·exact Abs.MC jO (h 1 (by simp)) (h 0 (by simp))
   ·exact Abs.check_sound jO (h 1 (by simp)) (h 4 (by simp)) (h 2 (by simp))) (by kernel_rfl))
noncomputable def a7m:Nat→Abs.Fact:=fun i=>([
 .rel "parts" true (Abs.dD kK kT kB) [(.int .i64 (.ofNat 1)),(.a2 .sn (.a2 .sn (.a2 .sn (.a2 .sn (.a1 (.nl [(.int .i64),(.int .i64),.str,(.sl 24)]) (.bool true)) (.var 7)) (.var 8)) (.var 9)) (.var 10))],
 .rel "term" false (Abs.aj kK kT kB) [(.var 7),(.var 8),(.var 9),(.var 10)],
 .rel "sound" false Abs.ah [(.var 7),(.var 8),(.var 9),(.var 10)],
 .rel "snd" true (Abs.jR kK kT) [(.int .i64 (.ofNat 1)),(.a2 .sn (.a2 .sn (.a2 .sn (.a2 .sn (.a1 (.nl [(.int .i64),(.int .i64),.str,(.sl 24)]) (.bool true)) (.var 7)) (.var 8)) (.var 9)) (.var 10))],
 .rel "wrd" true (Abs.uz kK kT) [(.int .i64 (.ofNat 0)),(.int .i64 (.ofNat 1)),(.a2 .sn (.a2 .sn (.a2 .sn (.a2 .sn (.a1 (.nl [(.int .i64),(.int .i64),.str,(.sl 24)]) (.bool true)) (.var 7)) (.var 8)) (.var 9)) (.var 10))],
 .tr (.a2 (.bin .gtr) (.var 19) (.int .i64 (.ofNat 65536))),
 .rel "wrds" false (Abs.kM kK kT) [(.var 19),(.int .i64 (.ofNat 0)),(.int .i64 (.ofNat 1)),(.a2 .sn (.a2 .sn (.a2 .sn (.a2 .sn (.a1 (.nl [(.int .i64),(.int .i64),.str,(.sl 24)]) (.bool true)) (.var 7)) (.var 8)) (.var 9)) (.var 10))]]:List Abs.Fact).getD i (.tr (.bool true))
noncomputable def a95:List (List Nat):=[[0,1,2],[3,1,2],[4,1,2],[5,6,1,2]]
set_option maxRecDepth 100000 in
theorem a4c  (tl:List Deferred):Abs.R.res (fun _=>true) ((Abs.dS (Abs.mkCtx Tryz.prog (fun _=>false) aH [] [Abs.jg Tryz.prog kU "parts" (Abs.dD kK kT kB) (Abs.jR kK kT) (Abs.uz kK kT) (Abs.kM kK kT)]) 1000000 ((Abs.aN Tryz.prog kU (Abs.aj kK kT kB) Abs.ah).fi tl) (Abs.aN Tryz.prog kU (Abs.aj kK kT kB) Abs.ah).tr (Abs.aN Tryz.prog kU (Abs.aj kK kT kB) Abs.ah).todo [] .run none (Abs.aN Tryz.prog kU (Abs.aj kK kT kB) Abs.ah).S).bind (Abs.bC (Abs.mkCtx Tryz.prog (fun _=>false) aH [] [Abs.jg Tryz.prog kU "parts" (Abs.dD kK kT kB) (Abs.jR kK kT) (Abs.uz kK kT) (Abs.kM kK kT)]) (Abs.aN Tryz.prog kU (Abs.aj kK kT kB) Abs.ah)))=some (a95.map fun r=>r.map (a7m)):=by kernel_rfl
theorem dw:Abs.bM Tryz.prog (Abs.aN Tryz.prog kU (Abs.aj kK kT kB) Abs.ah):=Abs.bV (Abs.aX (fun c h=>by cases h with|head=>exact a9X _ (of_decide_eq_true (by kernel_rfl))|tail _ h=>cases h) (fun _ h=>by cases h) aB aK (Abs.bG aS)) aC _ 1000000 (a4c)
 (Abs.gW (F:=a7m) (pats:=[[0,1],[3,1,2],[4,1],[5,1,6]]) (fun p hp γ h=>by
   simp only [List.mem_cons,List.not_mem_nil,or_false] at hp
   rcases hp with rfl|rfl|rfl|rfl
   ·exact Abs.MC jO (h 1 (by simp)) (h 0 (by simp))
   ·exact Abs.a8B jO (h 1 (by simp)) (h 2 (by simp)) (h 3 (by simp))
   ·exact Abs.a8A jO kHB (h 1 (by simp)) (h 4 (by simp))
   ·exact Abs.a3B jO ad2 (h 1 (by simp)) (h 6 (by simp)) (h 5 (by simp))) (by kernel_rfl))
noncomputable def a7f (N M:Nat):Nat→Abs.Fact:=fun i=>([
 .rel "out" false Abs.CJ [(.var 13),(.a1 .len (.var 10))],
 .tr (.a2 (.bin .lss) (.var 12) (.var 11)),
 .tr (.a2 (.bin .lss) (.var 13) (.a1 .len (.var 10))),
 .rel "sl" false (Abs.sN kK kT N (M+1)) [(.var 10),(.var 13),(.var 12),(.var 11)],
 .rel "terms" true (Abs.aj kK kT N) [(.a1 (.ld 0) (.a2 .el (.var 10) (.var 13))),(.a1 (.ld 1) (.a2 .el (.var 10) (.var 13))),(.a1 (.ld 2) (.a2 .el (.var 10) (.var 13))),(.a1 (.ld 3) (.a2 .el (.var 10) (.var 13)))],
 .rel "most" true Abs.oI [(.a2 (.bin .sub) (.var 11) (.var 12))],
 .rel "sl" true (Abs.sN kK kT N M) [(.var 10),(.a2 (.bin .add) (.var 13) (.int .i64 (.ofNat 1))),(.a2 (.bin .add) (.var 12) (.var 15)),(.var 11)],
 .rel "sz" false (Abs.zT kT) [(.a2 (.bin .sub) (.var 11) (.var 12)),(.var 15),(.a1 (.ld 3) (.a2 .el (.var 10) (.var 13)))],
 .rel "sz" true (Abs.zT kT) [(.var 11),(.var 16),(.var 10)],
 .rel "sz" false (Abs.zT kT) [(.var 11),(.var 16),(.var 10)],
 .rel "sz" true (Abs.zT kT) [(.var 11),(.var 12),(.var 10)],
 .fl (.a2 (.bin .lss) (.var 12) (.var 11)),
 .fl (.a2 (.bin .lss) (.var 13) (.a1 .len (.var 10)))]:List Abs.Fact).getD i (.tr (.bool true))
noncomputable def a9V:List (List Nat):=[[0,1,2,3],[4,1,2,3],[5,1,2,3],[6,7,1,2,3],[8,9,7,1,2,3],[10,11,2,3],[10,12,3]]
set_option maxRecDepth 100000 in
theorem a3W (N M:Nat) (tl:List Deferred):Abs.R.res (fun _=>true) ((Abs.dS (Abs.mkCtx Tryz.prog (fun _=>false) aH [] [Abs.kE Tryz.prog kU kA "sl" (Abs.sN kK kT N M) (Abs.zT kT),Abs.nR Tryz.prog kU kA "terms" (Abs.aj kK kT N) Abs.oI (Abs.zT kT)]) 1000000 ((Abs.kE Tryz.prog kU kA "sl" (Abs.sN kK kT N (M+1)) (Abs.zT kT)).fi tl) (Abs.kE Tryz.prog kU kA "sl" (Abs.sN kK kT N (M+1)) (Abs.zT kT)).tr (Abs.kE Tryz.prog kU kA "sl" (Abs.sN kK kT N (M+1)) (Abs.zT kT)).todo [] .run none (Abs.kE Tryz.prog kU kA "sl" (Abs.sN kK kT N (M+1)) (Abs.zT kT)).S).bind (Abs.bC (Abs.mkCtx Tryz.prog (fun _=>false) aH [] [Abs.kE Tryz.prog kU kA "sl" (Abs.sN kK kT N M) (Abs.zT kT),Abs.nR Tryz.prog kU kA "terms" (Abs.aj kK kT N) Abs.oI (Abs.zT kT)]) (Abs.kE Tryz.prog kU kA "sl" (Abs.sN kK kT N (M+1)) (Abs.zT kT))))=some (a9V.map fun r=>r.map (a7f N M)):=by kernel_rfl
noncomputable def a7g (N:Nat):Nat→Abs.Fact:=fun i=>([
 .rel "sz" true (Abs.zT kT) [(.var 11),(.var 11),(.var 10)],
 .tr (.a2 (.bin .gtr) (.a1 .len (.var 9)) (.int .i64 (.ofNat 100))),
 .rel "terms" false (Abs.aj kK kT (N+1)) [(.var 7),(.var 8),(.var 9),(.var 10)],
 .rel "most" false Abs.oI [(.var 11)],
 .tr (.a2 (.bin .gtr) (.a1 .len (.var 10)) (.var 11)),
 .fl (.a2 (.bin .gtr) (.a1 .len (.var 9)) (.int .i64 (.ofNat 100))),
 .rel "sl" true (Abs.sN kK kT N (N+1)) [(.var 10),(.int .i64 (.ofNat 0)),(.int .i64 (.ofNat 1)),(.var 11)],
 .fl (.a2 (.bin .gtr) (.a1 .len (.var 10)) (.var 11)),
 .rel "sz" true (Abs.zT kT) [(.var 11),(.var 13),(.var 10)],
 .rel "sz" false (Abs.zT kT) [(.var 11),(.var 13),(.var 10)]]:List Abs.Fact).getD i (.tr (.bool true))
noncomputable def a9W:List (List Nat):=[[0,1,2,3],[0,4,5,2,3],[6,7,5,2,3],[8,9,7,5,2,3]]
set_option maxRecDepth 100000 in
theorem a3X (N:Nat) (tl:List Deferred):Abs.R.res (fun _=>true) ((Abs.dS (Abs.mkCtx Tryz.prog (fun _=>false) aH [] [Abs.kE Tryz.prog kU kA "sl" (Abs.sN kK kT N (N+1)) (Abs.zT kT)]) 1000000 ((Abs.nR Tryz.prog kU kA "terms" (Abs.aj kK kT (N+1)) Abs.oI (Abs.zT kT)).fi tl) (Abs.nR Tryz.prog kU kA "terms" (Abs.aj kK kT (N+1)) Abs.oI (Abs.zT kT)).tr (Abs.nR Tryz.prog kU kA "terms" (Abs.aj kK kT (N+1)) Abs.oI (Abs.zT kT)).todo [] .run none (Abs.nR Tryz.prog kU kA "terms" (Abs.aj kK kT (N+1)) Abs.oI (Abs.zT kT)).S).bind (Abs.bC (Abs.mkCtx Tryz.prog (fun _=>false) aH [] [Abs.kE Tryz.prog kU kA "sl" (Abs.sN kK kT N (N+1)) (Abs.zT kT)]) (Abs.nR Tryz.prog kU kA "terms" (Abs.aj kK kT (N+1)) Abs.oI (Abs.zT kT))))=some (a9W.map fun r=>r.map (a7g N)):=by kernel_rfl
theorem a1D (N M:Nat) (hS:Abs.bM Tryz.prog (Abs.nR Tryz.prog kU kA "terms" (Abs.aj kK kT N) Abs.oI (Abs.zT kT))) (hL:Abs.bM Tryz.prog (Abs.kE Tryz.prog kU kA "sl" (Abs.sN kK kT N M) (Abs.zT kT))):Abs.bM Tryz.prog (Abs.kE Tryz.prog kU kA "sl" (Abs.sN kK kT N (M+1)) (Abs.zT kT)):=Abs.bV (Abs.aX (fun c h=>by cases h with|head=>exact hL|tail _ h=>cases h with|head=>exact hS|tail _ h=>cases h) (fun _ h=>by cases h) aB aK (Abs.bG aS)) aC _ 1000000 (a3W N M)
 (Abs.gW (F:=a7f N M) (pats:=[[0,2,3],[4,2,3],[5,1,3],[6,7,2,1,3],[8,9],[10,11,3],[10,12,3]]) (fun p hp γ h=>by
   simp only [List.mem_cons,List.not_mem_nil,or_false] at hp
   rcases hp with rfl|rfl|rfl|rfl|rfl|rfl|rfl
   ·exact Abs.aa8 (h 3 (by simp)) (h 2 (by simp)) (h 0 (by simp))
   ·exact Abs.a7V jO (h 3 (by simp)) (h 2 (by simp)) (h 4 (by simp))
   ·exact Abs.a7X (h 3 (by simp)) (h 1 (by simp)) (h 5 (by simp))
   ·exact Abs.a7W jO (h 3 (by simp)) (h 2 (by simp)) (h 1 (by simp)) (h 7 (by simp)) (h 6 (by simp))
   ·exact (h 8 (by simp)) (h 9 (by simp))
   ·exact Abs.a7Z (h 3 (by simp)) (h 11 (by simp)) (h 10 (by simp))
   ·exact Abs.a8a jO (h 3 (by simp)) (h 12 (by simp)) (h 10 (by simp))) (by kernel_rfl))
theorem a1E (N:Nat) (hL:Abs.bM Tryz.prog (Abs.kE Tryz.prog kU kA "sl" (Abs.sN kK kT N (N+1)) (Abs.zT kT))):Abs.bM Tryz.prog (Abs.nR Tryz.prog kU kA "terms" (Abs.aj kK kT (N+1)) Abs.oI (Abs.zT kT)):=Abs.bV (Abs.aX (fun c h=>by cases h with|head=>exact hL|tail _ h=>cases h) (fun _ h=>by cases h) aB aK (Abs.bG aS)) aC _ 1000000 (a3X N)
 (Abs.gW (F:=a7g N) (pats:=[[0,2,3],[6,7,2,3],[8,9]]) (fun p hp γ h=>by
   simp only [List.mem_cons,List.not_mem_nil,or_false] at hp
   rcases hp with rfl|rfl|rfl
   ·exact Abs.aa9 jO (h 2 (by simp)) (h 3 (by simp)) (h 0 (by simp))
   ·exact Abs.a4H jO (h 2 (by simp)) (h 3 (by simp)) (h 7 (by simp)) (h 6 (by simp))
   ·exact (h 8 (by simp)) (h 9 (by simp))) (by kernel_rfl))
set_option maxRecDepth 100000 in
theorem a9U (B:Nat):Abs.bM Tryz.prog (Abs.nR Tryz.prog kU kA "terms" (Abs.aj kK kT B) Abs.oI (Abs.zT kT)):=Abs.U9 (cS:=fun N=>Abs.nR Tryz.prog kU kA "terms" (Abs.aj kK kT N) Abs.oI (Abs.zT kT)) (cL:=fun N M=>Abs.kE Tryz.prog kU kA "sl" (Abs.sN kK kT N M) (Abs.zT kT)) (B:=B) (Abs.oQ fun _ hf=>Abs.TW (hf _ List.mem_cons_self)) (fun _=>Abs.oQ fun _ hf=>Abs.a4W (hf _ List.mem_cons_self))
 (fun N M _ hS hL=>a1D N M hS hL)
 (fun N _ hL=>a1E N hL) B (Nat.le_refl _)
noncomputable def a7k (N M:Nat):Nat→Abs.Fact:=fun i=>([
 .rel "out" false Abs.CJ [(.var 16),(.a1 .len (.var 10))],
 .tr (.a2 (.bin .lss) (.var 16) (.a1 .len (.var 10))),
 .rel "copy" false (Abs.jI kK kT N (M+1)) [(.var 10),(.var 17),(.var 15),(.var 16)],
 .rel "term" true (Abs.aj kK kT N) [(.a1 (.ld 0) (.a2 .el (.var 10) (.var 16))),(.a1 (.ld 1) (.a2 .el (.var 10) (.var 16))),(.a1 (.ld 2) (.a2 .el (.var 10) (.var 16))),(.a1 (.ld 3) (.a2 .el (.var 10) (.var 16)))],
 .rel "out" false Abs.CJ [(.var 16),(.var 15)],
 .rel "cop" false (Abs.bU kK kT) [(.a1 (.ld 3) (.a2 .el (.var 10) (.var 16))),(.var 23)],
 .rel "hole" false (Abs.Pj 4) [(.var 17),(.var 16)],
 .rel "copy" true (Abs.jI kK kT N M) [(.var 10),(.a3 (.up 4 3) (.a3 (.up 4 2) (.a3 (.up 4 1) (.a3 (.up 4 0) (.var 17) (.var 16) (.a1 (.ld 0) (.a2 .el (.var 10) (.var 16)))) (.var 16) (.a1 (.ld 1) (.a2 .el (.var 10) (.var 16)))) (.var 16) (.a1 (.ld 2) (.a2 .el (.var 10) (.var 16)))) (.var 16) (.var 23)),(.var 15),(.a2 (.bin .add) (.var 16) (.int .i64 (.ofNat 1)))],
 .rel "cop" true (Abs.bU kK kT) [(.var 10),(.var 24)],
 .rel "cop" false (Abs.bU kK kT) [(.var 10),(.var 24)],
 .rel "short" false (Abs.VL 4) [(.var 17),(.var 15)],
 .fl (.a2 (.bin .lss) (.var 16) (.a1 .len (.var 10))),
 .rel "cop" true (Abs.bU kK kT) [(.var 10),(.var 22)],
 .rel "frz" false (Abs.a3y kT 4) [(.var 22),(.var 17),(.var 15)]]:List Abs.Fact).getD i (.tr (.bool true))
noncomputable def a90:List (List Nat):=[[0,1,2],[3,1,2],[4,5,1,2],[6,5,1,2],[7,5,1,2],[8,9,5,1,2],[10,11,2],[12,13,11,2]]
set_option maxRecDepth 100000 in
theorem a4a (N M:Nat) (tl:List Deferred):Abs.R.res (fun _=>true) ((Abs.dS (Abs.mkCtx Tryz.prog (fun _=>false) aH [] [Abs.kF Tryz.prog kU kA "copy" (Abs.jI kK kT N M) (Abs.bU kK kT),Abs.aV Tryz.prog kU kA "term" (Abs.aj kK kT N) (Abs.bU kK kT)]) 1000000 ((Abs.kF Tryz.prog kU kA "copy" (Abs.jI kK kT N (M+1)) (Abs.bU kK kT)).fi tl) (Abs.kF Tryz.prog kU kA "copy" (Abs.jI kK kT N (M+1)) (Abs.bU kK kT)).tr (Abs.kF Tryz.prog kU kA "copy" (Abs.jI kK kT N (M+1)) (Abs.bU kK kT)).todo [] .run none (Abs.kF Tryz.prog kU kA "copy" (Abs.jI kK kT N (M+1)) (Abs.bU kK kT)).S).bind (Abs.bC (Abs.mkCtx Tryz.prog (fun _=>false) aH [] [Abs.kF Tryz.prog kU kA "copy" (Abs.jI kK kT N M) (Abs.bU kK kT),Abs.aV Tryz.prog kU kA "term" (Abs.aj kK kT N) (Abs.bU kK kT)]) (Abs.kF Tryz.prog kU kA "copy" (Abs.jI kK kT N (M+1)) (Abs.bU kK kT))))=some (a90.map fun r=>r.map (a7k N M)):=by kernel_rfl
noncomputable def a7l (N:Nat):Nat→Abs.Fact:=fun i=>([
 .rel "cop" true (Abs.bU kK kT) [(.var 10),(.a1 (.ns 24 4) (.bool true))],
 .tr (.a2 (.bin .eql) (.a1 .len (.var 10)) (.int .i64 (.ofNat 0))),
 .rel "term" false (Abs.aj kK kT (N+1)) [(.var 7),(.var 8),(.var 9),(.var 10)],
 .rel "make" false (Abs.a5l 56) [(.a1 .len (.var 10))],
 .fl (.a2 (.bin .eql) (.a1 .len (.var 10)) (.int .i64 (.ofNat 0))),
 .rel "copy" true (Abs.jI kK kT N (N+1)) [(.var 10),(.a1 (.zs [(.int .i64),(.int .i64),.str,(.sl 24)] [0,0,0,4]) (.a1 .len (.var 10))),(.a1 .len (.var 10)),(.int .i64 (.ofNat 0))],
 .rel "cop" true (Abs.bU kK kT) [(.var 10),(.var 15)],
 .rel "cop" false (Abs.bU kK kT) [(.var 10),(.var 15)]]:List Abs.Fact).getD i (.tr (.bool true))
noncomputable def a94:List (List Nat):=[[0,1,2],[3,4,2],[5,4,2],[6,7,4,2]]
set_option maxRecDepth 100000 in
theorem a4b (N:Nat) (tl:List Deferred):Abs.R.res (fun _=>true) ((Abs.dS (Abs.mkCtx Tryz.prog (fun _=>false) aH [] [Abs.kF Tryz.prog kU kA "copy" (Abs.jI kK kT N (N+1)) (Abs.bU kK kT)]) 1000000 ((Abs.aV Tryz.prog kU kA "term" (Abs.aj kK kT (N+1)) (Abs.bU kK kT)).fi tl) (Abs.aV Tryz.prog kU kA "term" (Abs.aj kK kT (N+1)) (Abs.bU kK kT)).tr (Abs.aV Tryz.prog kU kA "term" (Abs.aj kK kT (N+1)) (Abs.bU kK kT)).todo [] .run none (Abs.aV Tryz.prog kU kA "term" (Abs.aj kK kT (N+1)) (Abs.bU kK kT)).S).bind (Abs.bC (Abs.mkCtx Tryz.prog (fun _=>false) aH [] [Abs.kF Tryz.prog kU kA "copy" (Abs.jI kK kT N (N+1)) (Abs.bU kK kT)]) (Abs.aV Tryz.prog kU kA "term" (Abs.aj kK kT (N+1)) (Abs.bU kK kT))))=some (a94.map fun r=>r.map (a7l N)):=by kernel_rfl
theorem a1F {N:Nat} (hN:N≤1073741824) (M:Nat) (hS:Abs.bM Tryz.prog (Abs.aV Tryz.prog kU kA "term" (Abs.aj kK kT N) (Abs.bU kK kT))) (hL:Abs.bM Tryz.prog (Abs.kF Tryz.prog kU kA "copy" (Abs.jI kK kT N M) (Abs.bU kK kT))):Abs.bM Tryz.prog (Abs.kF Tryz.prog kU kA "copy" (Abs.jI kK kT N (M+1)) (Abs.bU kK kT)):=Abs.bV (Abs.aX (fun c h=>by cases h with|head=>exact hL|tail _ h=>cases h with|head=>exact hS|tail _ h=>cases h) (fun _ h=>by cases h) aB aK (Abs.bG aS)) aC _ 1000000 (a4a N M)
 (Abs.gW (F:=a7k N M) (pats:=[[0,1,2],[3,1,2],[4,1,2],[6,1,2],[7,5,1,2],[8,9],[10,2],[12,13,11,2]]) (fun p hp γ h=>by
   simp only [List.mem_cons,List.not_mem_nil,or_false] at hp
   rcases hp with rfl|rfl|rfl|rfl|rfl|rfl|rfl|rfl
   ·exact Abs.a7t (h 2 (by simp)) (h 1 (by simp)) (h 0 (by simp))
   ·exact Abs.a4g jO (h 2 (by simp)) (h 1 (by simp)) (h 3 (by simp))
   ·exact Abs.a4i (h 2 (by simp)) (h 1 (by simp)) (h 4 (by simp))
   ·exact Abs.a4l (h 2 (by simp)) (h 1 (by simp)) (h 6 (by simp))
   ·exact Abs.a4k jO hN (h 2 (by simp)) (h 1 (by simp)) (h 5 (by simp)) (h 7 (by simp))
   ·exact (h 8 (by simp)) (h 9 (by simp))
   ·exact Abs.a1N (h 2 (by simp)) (h 10 (by simp))
   ·exact Abs.a7u jO (h 2 (by simp)) (h 11 (by simp)) (h 13 (by simp)) (h 12 (by simp))) (by kernel_rfl))
theorem a1G {N:Nat} (hN:N+1≤1073741824) (hL:Abs.bM Tryz.prog (Abs.kF Tryz.prog kU kA "copy" (Abs.jI kK kT N (N+1)) (Abs.bU kK kT))):Abs.bM Tryz.prog (Abs.aV Tryz.prog kU kA "term" (Abs.aj kK kT (N+1)) (Abs.bU kK kT)):=Abs.bV (Abs.aX (fun c h=>by cases h with|head=>exact hL|tail _ h=>cases h) (fun _ h=>by cases h) aB aK (Abs.bG aS)) aC _ 1000000 (a4b N)
 (Abs.gW (F:=a7l N) (pats:=[[0,1,2],[3,2],[5,2],[6,7]]) (fun p hp γ h=>by
   simp only [List.mem_cons,List.not_mem_nil,or_false] at hp
   rcases hp with rfl|rfl|rfl|rfl
   ·exact Abs.a4j jO (h 2 (by simp)) (h 1 (by simp)) (h 0 (by simp))
   ·exact Abs.a3g jO hN (by omega) (h 2 (by simp)) (h 3 (by simp))
   ·exact Abs.a3h jO (h 2 (by simp)) (h 5 (by simp))
   ·exact (h 6 (by simp)) (h 7 (by simp))) (by kernel_rfl))
set_option maxRecDepth 100000 in
theorem dK:∀B,B≤1073741824→Abs.bM Tryz.prog (Abs.aV Tryz.prog kU kA "term" (Abs.aj kK kT B) (Abs.bU kK kT)):=Abs.U9 (cS:=fun N=>Abs.aV Tryz.prog kU kA "term" (Abs.aj kK kT N) (Abs.bU kK kT)) (cL:=fun N M=>Abs.kF Tryz.prog kU kA "copy" (Abs.jI kK kT N M) (Abs.bU kK kT)) (B:=1073741824) (Abs.oQ fun _ hf=>Abs.TW (hf _ List.mem_cons_self)) (fun _=>Abs.oQ fun _ hf=>Abs.a4f (hf _ List.mem_cons_self))
 (fun _ M hN hS hL=>a1F hN M hS hL)
 (fun _ hN hL=>a1G hN hL)
noncomputable def adF (v:Abs.AV):Abs.nK:=
 { fn:=241,nt:=117,round:=none,t:=[(0,.agg [.int .i64 1,.opq (.int .i64) (.var 7),.str [],.aW]),(1,.agg [.int .i64 1,v,.str [],.aW])],todo:=Abs.Ee Tryz.prog 241,n:=9,pre:=[],
   facts:=[],outs:=[{ res:=.opq (.int .i64) (.var 9),post:=[],facts:=[],m:=1 }] }
noncomputable def gK:Abs.nK:=adF (.opq (.int .i64) (.var 8))
noncomputable def bZ:Abs.nK:=adF (.int .i64 1)
set_option maxRecDepth 100000 in
theorem a9w (tl:List Deferred):Abs.R.res (fun _=>true) ((Abs.dS (Abs.mkCtx Tryz.prog (fun _=>false) aH [] []) 1000000 ((gK).fi tl) (gK).tr (gK).todo [] .run none (gK).S).bind (Abs.bC (Abs.mkCtx Tryz.prog (fun _=>false) aH [] []) (gK)))=some []:=by kernel_rfl
theorem gB:Abs.bM Tryz.prog gK:=Abs.bV (Abs.aX (fun c h=>by cases h) (fun _ h=>by cases h) aB aK (Abs.bG aS)) aC _ 1000000 a9w (fun _ h=>by cases h)
set_option maxRecDepth 100000 in
theorem a9v (tl:List Deferred):Abs.R.res (fun _=>true) ((Abs.dS (Abs.mkCtx Tryz.prog (fun _=>false) aH [] []) 1000000 ((bZ).fi tl) (bZ).tr (bZ).todo [] .run none (bZ).S).bind (Abs.bC (Abs.mkCtx Tryz.prog (fun _=>false) aH [] []) (bZ)))=some []:=by kernel_rfl
theorem bQ:Abs.bM Tryz.prog bZ:=Abs.bV (Abs.aX (fun c h=>by cases h) (fun _ h=>by cases h) aB aK (Abs.bG aS)) aC _ 1000000 a9v (fun _ h=>by cases h)
noncomputable def kL (g:Nat):Nat→Abs.SE
 | 0=>.var g
 |i+1=>.a2 (.bin .sub) (.var g) (.int .i64 (.ofNat (i+1)))
noncomputable def kPt (b i:Nat):Nat→List Abs.AV
 | 0=>[]
 |m+1=>.ptr (b+2 * i) 0::kPt b (i+1) m
noncomputable def kFr (g b nl i:Nat):Nat→List (Nat×Abs.CB)
 | 0=>[]
 |m+1=>(b+2 * i,.cells 84 [(.fn (.func 69) [] []),.qV,(.int .i64 (.ofNat 10)),(.int .i64 (.ofNat 0)),(.int .i64 (.ofNat 42)),(.str (Abs.sb [43])),(.gQ nl 0 0 2 5),.junk,(.int .i64 (.ofNat 1)),(.int .i64 (.ofNat 0)),(.gQ (b+2 * i+1) 0 0 1 4),.aW,.aW,.aW] 0 false false)::(b+2 * i+1,.cells 24 [.int .i64 1,.opq (.int .i64) (kL g i),.str [],.aW] 0 false false)::kFr g b nl (i+1) m
noncomputable def eC (P:Program) (pT pS:Abs.PD) (c:Nat):Abs.nK:=
 { fn:=3,nt:=114,round:=none,t:=[(0,.opq (.int .i64) (.var 7)),(3,.ptr 13 0),(5,.bool true),(10,.ptr 12 0),(12,.int .i64 (.ofNat c))],todo:=Abs.y5 P 3 0,n:=32+2 * c,
   pre:=[(12,(.cells 74 [(.ptr 17 0),(.int .i64 (.ofNat 1)),(.gQ 15 0 0 (c+1) 1),(.int .i64 (.ofNat 1)),(.int .i64 (.ofNat 0)),(.str (Abs.sb [])),(.gQ 14 0 0 1 4),(.int .i64 (.ofNat 0)),(.int .i64 (.ofNat 0)),(.str (Abs.sb [])),.aW,(.int .i64 (.ofNat 1)),.junk,.junk,.junk,.junk,.junk,.junk,.junk,.junk,.junk,.junk,(.str (Abs.sb []))] 0 false false)),
    (13,(.cells 24 [(.opq (.int .i64) (.var 8)),(.opq (.int .i64) (.var 9)),(.opq .str (.var 10)),(.opq (.sl 24) (.var 11))] 0 false false)),
    (14,(.cells 24 [(.int .i64 (.ofNat 1)),(.opq (.int .i64) (kL 7 c)),(.str (Abs.sb [])),.aW] 0 false false)),
    (15,.cells 78 (kPt 32 0 c++[.ptr 16 0]) 0 false false),
    (16,(.cells 84 [.qV,(.fn (.func 57) [] []),(.int .i64 (.ofNat 0)),(.int .i64 (.ofNat 0)),(.int .i64 (.ofNat 0)),(.str (Abs.sb [])),.aW,.uN,(.int .i64 (.ofNat 0)),(.int .i64 (.ofNat 0)),(.gQ 14 0 0 1 4),.aW,.aW,.aW] 0 false false)),
    (17,(.cells 60 [(.str (Abs.sb [109])),(.gQ 18 0 0 1 6),(.int .i64 (.ofNat 1)),(.bool true)] 0 false false)),
    (18,(.cells 65 [(.str (Abs.sb [115])),(.int .i64 (.ofNat 1)),(.int .i64 (.ofNat 12)),(.int .i64 (.ofNat 1)),.aW,(.gQ 19 0 0 2 5)] 0 false false)),
    (19,(.cells 71 [(.int .i64 (.ofNat 21)),(.int .i64 (.ofNat 0)),(.int .i64 (.ofNat 12)),(.str (Abs.sb [])),(.sl 29 0 3 3),(.int .i64 (.ofNat 21)),(.int .i64 (.ofNat 0)),(.int .i64 (.ofNat 23)),(.str (Abs.sb [])),(.sl 20 0 3 3)] 0 false false)),
    (20,(.cells 71 [(.int .i64 (.ofNat 22)),(.int .i64 (.ofNat 0)),(.int .i64 (.ofNat 25)),(.str (Abs.sb [])),(.gQ 28 0 0 1 5),(.int .i64 (.ofNat 23)),(.int .i64 (.ofNat 0)),(.int .i64 (.ofNat 33)),(.str (Abs.sb [])),(.gQ 25 0 0 1 5),(.int .i64 (.ofNat 20)),(.int .i64 (.ofNat 0)),(.int .i64 (.ofNat 42)),(.str (Abs.sb [])),(.gQ 21 0 0 1 5)] 0 false false)),
    (21,(.cells 71 [(.int .i64 (.ofNat 10)),(.int .i64 (.ofNat 0)),(.int .i64 (.ofNat 42)),(.str (Abs.sb [43])),(.gQ 22 0 0 2 5)] 0 false false)),
    (22,(.cells 71 [(.int .i64 (.ofNat 3)),(.int .i64 (.ofNat 0)),(.int .i64 (.ofNat 42)),(.str (Abs.sb [78])),.aW,(.int .i64 (.ofNat 7)),(.int .i64 (.ofNat 0)),(.int .i64 (.ofNat 46)),(.str (Abs.sb [115])),(.gQ 23 0 0 1 5)] 0 false false)),
    (23,(.cells 71 [(.int .i64 (.ofNat 10)),(.int .i64 (.ofNat 0)),(.int .i64 (.ofNat 48)),(.str (Abs.sb [45])),(.gQ 24 0 0 2 5)] 0 false false)),
    (24,(.cells 71 [(.int .i64 (.ofNat 3)),(.int .i64 (.ofNat 0)),(.int .i64 (.ofNat 48)),(.str (Abs.sb [78])),.aW,(.int .i64 (.ofNat 1)),(.int .i64 (.ofNat 1)),(.int .i64 (.ofNat 52)),(.str (Abs.sb [])),.aW] 0 false false)),
    (25,(.cells 71 [(.int .i64 (.ofNat 22)),(.int .i64 (.ofNat 0)),(.int .i64 (.ofNat 33)),(.str (Abs.sb [])),(.gQ 26 0 0 1 5)] 0 false false)),
    (26,(.cells 71 [(.int .i64 (.ofNat 10)),(.int .i64 (.ofNat 0)),(.int .i64 (.ofNat 33)),(.str (Abs.sb [62])),(.gQ 27 0 0 2 5)] 0 false false)),
    (27,(.cells 71 [(.int .i64 (.ofNat 3)),(.int .i64 (.ofNat 0)),(.int .i64 (.ofNat 33)),(.str (Abs.sb [78])),.aW,(.int .i64 (.ofNat 1)),(.int .i64 (.ofNat 0)),(.int .i64 (.ofNat 37)),(.str (Abs.sb [])),.aW] 0 false false)),
    (28,(.cells 71 [(.int .i64 (.ofNat 3)),(.int .i64 (.ofNat 0)),(.int .i64 (.ofNat 25)),(.str (Abs.sb [78])),.aW] 0 false false)),
    (29,(.cells 71 [(.int .i64 (.ofNat 22)),(.int .i64 (.ofNat 0)),(.int .i64 (.ofNat 14)),(.str (Abs.sb [])),(.gQ 31 0 0 1 5),(.int .i64 (.ofNat 23)),(.int .i64 (.ofNat 0)),(.int .i64 (.ofNat 0)),(.str (Abs.sb [])),.aW,(.int .i64 (.ofNat 20)),(.int .i64 (.ofNat 0)),(.int .i64 (.ofNat 20)),(.str (Abs.sb [])),(.gQ 30 0 0 1 5)] 0 false false)),
    (30,(.cells 71 [(.int .i64 (.ofNat 1)),(.int .i64 (.ofNat 0)),(.int .i64 (.ofNat 20)),(.str (Abs.sb [])),.aW] 0 false false)),
    (31,(.cells 71 [(.int .i64 (.ofNat 1)),(.int .i64 (.ofNat 0)),(.int .i64 (.ofNat 14)),(.str (Abs.sb [])),.aW] 0 false false))]++kFr 7 32 22 0 c,
   facts:=[.rel "term" false pT [(.var 8),(.var 9),(.var 10),(.var 11)],.rel "sound" false pS [(.var 8),(.var 9),(.var 10),(.var 11)],.tr (.a2 (.bin .gtr) (.var 7) (.int .i64 (.ofNat (c - 1)))),.fl (.a2 (.bin .gtr) (.var 7) (.int .i64 (.ofNat 200))),.fl (.a2 (.bin .lss) (.var 7) (.int .i64 (.ofNat 0)))],
   outs:=[{ res:=.bool true,post:=[],facts:=[],m:=0 }] }
noncomputable def eU (P:Program) (pU pO:Abs.PD) (k:Nat):Abs.nK:=
 { fn:=30,nt:=64,round:=none,t:=[(0,.ptr 9 0)],todo:=Abs.y5 P 30 0,n:=13+2 * k,
   pre:=[(9,.cells 74 [(.ptr 12 0),(.int .i64 (.ofNat 1)),(.gQ 10 0 0 k 1),(.int .i64 (.ofNat 0)),(.int .i64 (.ofNat 0)),(.str (Abs.sb [])),.aW,(.int .i64 (.ofNat 0)),(.int .i64 (.ofNat 0)),(.str (Abs.sb [])),.aW,(.int .i64 (.ofNat 1)),.junk,.junk,.junk,.junk,.junk,.junk,(.int .i64 (.ofNat 1)),(.opq (.int .i64) (.var 8)),(.str (Abs.sb [])),.aW,(.str (Abs.sb []))] 0 false false),(10,.cells 78 (kPt 13 0 k) 0 false false),(11,.cells 71 [] 0 false false),(12,.cells 60 [] 0 false false)]++kFr 7 13 11 0 k,
   facts:=[.rel "us" false pU [(.var 7),(.var 8)],.fl (.a2 (.bin .gtr) (.var 7) (.int .i64 (.ofNat 200))),.fl (.a2 (.bin .lss) (.var 7) (.int .i64 (.ofNat 0))),.tr (.a2 (.bin .leq) (.var 8) (.int .i64 (.ofNat 40200))),.tr (.a2 (.bin .geq) (.var 8) (.int .i64 (.ofNat 0)))],
   outs:=[{ res:=.ou [],post:=[(9,.cells 74 [(.ptr 12 0),(.int .i64 (.ofNat 1)),(.gQ 10 0 0 0 1),(.int .i64 (.ofNat 6)),(.int .i64 (.ofNat 0)),(.str []),.aW,(.int .i64 (.ofNat 1)),(.opq (.int .i64) (.var (13+2 * k))),(.str []),.aW,(.int .i64 (.ofNat 1)),(.int .i64 (.ofNat 0)),(.int .i64 (.ofNat 0)),(.int .i64 (.ofNat 0)),(.str []),.aW,.uN,(.int .i64 (.ofNat 0)),(.int .i64 (.ofNat 0)),(.str []),.aW,(.str (Abs.sb []))] 0 false false)],facts:=[.rel "uo" false pO [(.var 7),(.var 8),(.var (13+2 * k))],.tr (.a2 (.bin .leq) (.var (13+2 * k)) (.int .i64 (.ofNat 80400))),.tr (.a2 (.bin .geq) (.var (13+2 * k)) (.int .i64 (.ofNat 0)))],m:=1 }] }
noncomputable def dQ (g:Nat):Nat→Nat→Abs.SE→Abs.SE
 | 0,_,t=>t
 |m+1,a,t=>.a2 (.bin .add) (kL g a) (dQ g m (a+1) t)
def eT (n:Int):Nat→Nat→Int
 | 0,_=>0
 |m+1,a=>(n - a)+eT n m (a+1)
theorem XM (n:Int):∀i j a,eT n (i+j) a=eT n i a+eT n j (a+i)
 | 0,j,a=>by rw [Nat.zero_add];simp [eT]
 |i+1,j,a=>by
  rw [show i+1+j=(i+j)+1 by omega]
  simp only [eT]
  rw [XM n i j (a+1),show a+1+i=a+(i+1) by omega]
  omega
theorem ZH {n:Int} (hn:n≤200):∀(m a:Nat),(a:Int)+m≤n+1→0≤eT n m a∧eT n m a≤200 * m
 | 0,a,_=>by simp [eT]
 |m+1,a,h=>by
  have:=ZH hn m (a+1) (by omega)
  simp only [eT]
  omega
theorem ZG (n:Int):∀(m a:Nat),eT (n+1) m (a+1)=eT n m a
 | 0,a=>rfl
 |m+1,a=>by
  simp only [eT]
  rw [ZG n m (a+1)]
  omega
theorem a2I:∀c:Nat,2 * eT c c 0=(c:Int) * (c+1)
 | 0=>rfl
 |c+1=>by
  have h:=a2I c
  have e:eT ((c+1:Nat):Int) (c+1) 0=(c+1)+eT c c 0:=by
   show ((c+1:Nat):Int) - ((0:Nat):Int)+eT ((c:Int)+1) c (0+1)=_
   rw [ZG]
   omega
  rw [e]
  have h2:((c+1:Nat):Int) * ((c+1:Nat)+1)=(c:Int) * (c+1)+2 * (c+1):=by
   have:((c+1:Nat):Int)=(c:Int)+1:=by omega
   rw [this,Int.add_mul,Int.one_mul,Int.mul_add (c:Int) ((c:Int)+1) 1,Int.mul_one]
   omega
  rw [h2]
  omega
def cO (k:Nat):Abs.PD:=fun l=>∃n s:Int,l=[.val (.int .i64 n),.val (.int .i64 s)]∧(k:Int)≤n∧n≤200∧0≤s∧s≤200 * (200 - k)
def dh (k:Nat):Abs.PD:=fun l=>∃n s r:Int,l=[.val (.int .i64 n),.val (.int .i64 s),.val (.int .i64 r)]∧r=s+eT n k 0
section
variable {γ:Abs.G} {nm nm':String} {n s:Int} {x y z t:Abs.SE} {g q r m a:Nat}
theorem aaL (hv:Abs.aO γ (.var g)=some (.val (.int .i64 n))) (h0:0≤n) (h2:n≤200):∀i:Nat,i≤1000→Abs.aO γ (kL g i)=some (.val (.int .i64 (n - i)))
 | 0,_=>by
   show Abs.aO γ (.var g)=_
   rw [hv];simp
 |i+1,hi=>by
  have:IntKind.i64.wrap (n - ((i+1:Nat):Int))=n - ((i+1:Nat):Int):=Abs.wrap64 (by omega) (by omega)
  show Abs.aO γ (.a2 (.bin .sub) (.var g) (.int .i64 ((i+1:Nat):Int)))=_
  have e:Abs.aO γ (.int .i64 ((i+1:Nat):Int))=some (.val (.int .i64 ((i+1:Nat):Int))):=rfl
  unfold Abs.aO
  rw [hv,e]
  simp only [Option.bind_some,Abs.e2,Abs.kG,Abs.dB,if_true,Abs.intOp,Abs.okV,this]
theorem a7b {u v:Int} (hx:Abs.aO γ x=some (.val (.int .i64 u))) (hy:Abs.aO γ y=some (.val (.int .i64 v))) (h1: -4611686018427387904≤u+v) (h2:u+v≤4611686018427387904):Abs.aO γ (.a2 (.bin .add) x y)=some (.val (.int .i64 (u+v))):=by
 have:IntKind.i64.wrap (u+v)=u+v:=Abs.wrap64 (by omega) (by omega)
 simp only [Abs.aO,hx,hy,Option.bind_some,Abs.e2,Abs.kG,Abs.dB,if_true,Abs.intOp,Abs.okV,this]
theorem a1A (hv:Abs.aO γ (.var g)=some (.val (.int .i64 n))) (h0:0≤n) (h2:n≤200):∀(m a:Nat) (t:Abs.SE) (s:Int),Abs.aO γ t=some (.val (.int .i64 s))→ -1000000≤s→s≤1000000→m≤300→(a:Int)+m≤n+1→
  Abs.aO γ (dQ g m a t)=some (.val (.int .i64 (eT n m a+s)))
 | 0,a,t,s,ht,_,_,_,_=>by
   show Abs.aO γ t=_
   rw [ht];simp [eT]
 |m+1,a,t,s,ht,l1,l2,hm,ha=>by
  have ih:=a1A hv h0 h2 m (a+1) t s ht l1 l2 (by omega) (by omega)
  have hb:=ZH h2 m (a+1) (by omega)
  have e:=a7b (aaL hv h0 h2 a (by omega)) ih (by omega) (by omega)
  show Abs.aO γ (.a2 (.bin .add) (kL g a) (dQ g m (a+1) t))=_
  rw [e]
  simp only [eT]
  congr 3
  omega
theorem F5 {e x:Abs.SE} {op:BinOp} {k:IntKind} {c:Int} {b:Bool} (h:Abs.Rf e=some (op,x,k,c)) (hd:Abs.aO γ e=some (.val (.bool b))):∃a,Abs.aO γ x=some (.val (.int k a))∧Abs.Dq op a c=b:=by
 obtain ⟨a,h1,h2⟩:=Abs.zn h hd
 injection h2 with h2;injection h2 with h2
 exact ⟨a,h1,h2.symm⟩
theorem abW (h:∃ds,Abs.pG γ [x,y]=some ds∧cO a ds):∃n s:Int,Abs.aO γ x=some (.val (.int .i64 n))∧Abs.aO γ y=some (.val (.int .i64 s))∧(a:Int)≤n∧n≤200∧0≤s∧s≤200 * (200 - a):=by
 obtain ⟨ds,h1,n,s,rfl,h2⟩:=h
 obtain ⟨d1,d2,e1,g1,g2⟩:=Abs.su h1
 injection e1 with q1 e1;injection e1 with q2 _
 subst q1;subst q2
 exact ⟨n,s,g1,g2,h2⟩
theorem ZC (h:∃ds,Abs.pG γ [x,y,z]=some ds∧dh a ds):∃n s r:Int,Abs.aO γ x=some (.val (.int .i64 n))∧Abs.aO γ y=some (.val (.int .i64 s))∧Abs.aO γ z=some (.val (.int .i64 r))∧r=s+eT n a 0:=by
 obtain ⟨ds,h1,n,s,r,rfl,h2⟩:=h
 obtain ⟨d1,d2,d3,e1,g1,g2,g3⟩:=Abs.JB h1
 injection e1 with q1 e1;injection e1 with q2 e1;injection e1 with q3 _
 subst q1;subst q2;subst q3
 exact ⟨n,s,r,g1,g2,g3,h2⟩
theorem aeu {op:BinOp} {u c:Int} (hx:Abs.aO γ x=some (.val (.int .i64 u))) (h:Abs.aO γ (.a2 (.bin op) x (.int .i64 c))=some (.val (.bool true))) (ho:Abs.lT op=true):Abs.Dq op u c=true:=by
 have hc:Abs.Rf (.a2 (.bin op) x (.int .i64 c))=some (op,x,.i64,c):=by
  unfold Abs.Rf;simp only [ho]
 obtain ⟨a,h1,h2⟩:=F5 hc h
 rw [hx] at h1
 injection h1 with h1;injection h1 with h1;injection h1 with _ h1
 subst h1
 exact h2
theorem a6Y {u c:Int} (hx:Abs.aO γ x=some (.val (.int .i64 u))) (h:u≤c):Abs.aO γ (.a2 (.bin .leq) x (.int .i64 c))=some (.val (.bool true)):=by
 simp only [Abs.aO,hx,Option.bind_some,Abs.e2,Abs.kG,Abs.dB,if_true,Abs.intOp,Abs.okV,decide_eq_true h]
theorem a7a {u c:Int} (hx:Abs.aO γ x=some (.val (.int .i64 u))) (h:c≤u):Abs.aO γ (.a2 (.bin .geq) x (.int .i64 c))=some (.val (.bool true)):=by
 simp only [Abs.aO,hx,Option.bind_some,Abs.e2,Abs.kG,Abs.dB,if_true,Abs.intOp,Abs.okV,decide_eq_true h]
theorem a6Z {u c:Int} (hx:Abs.aO γ x=some (.val (.int .i64 u))) (h:c < u):Abs.aO γ (.a2 (.bin .gtr) x (.int .i64 c))=some (.val (.bool true)):=by
 simp only [Abs.aO,hx,Option.bind_some,Abs.e2,Abs.kG,Abs.dB,if_true,Abs.intOp,Abs.okV,decide_eq_true h]
theorem Kv (h0:(Abs.Fact.rel nm true Abs.uw [x]).holds γ) (h:Abs.aO γ x=some (.val (.bool true))):False:=h0 ⟨_,Abs.RY h,rfl⟩
theorem Oi (hq:q≤19) (h1:(Abs.Fact.rel nm false (cO (10 * (q+1))) [.var 7,.var 8]).holds γ):∃n s:Int,Abs.aO γ (.var 7)=some (.val (.int .i64 n))∧Abs.aO γ (.var 8)=some (.val (.int .i64 s))∧
  Abs.aO γ (dQ 7 10 (10 * q) (.var 8))=some (.val (.int .i64 (eT n 10 (10 * q)+s)))∧((10 * (q+1):Nat):Int)≤n∧n≤200∧0≤s∧s≤200 * (200 - (10 * (q+1):Nat))∧0≤eT n 10 (10 * q)∧eT n 10 (10 * q)≤2000:=by
 obtain ⟨n,s,g1,g2,g3,g4,g5,g6⟩:=abW h1
 have hb:=ZH g4 10 (10 * q) (by omega)
 exact ⟨n,s,g1,g2,a1A g1 (by omega) g4 10 (10 * q) _ s g2 (by omega) (by omega) (by omega) (by omega),g3,g4,g5,g6,hb.1,by omega⟩
theorem acU (hq:q≤19) (h1:(Abs.Fact.rel nm false (cO (10 * (q+1))) [.var 7,.var 8]).holds γ) (h0:(Abs.Fact.rel nm' true (cO (10 * q)) [.var 7,dQ 7 10 (10 * q) (.var 8)]).holds γ):False:=by
 obtain ⟨n,s,g1,g2,g3,h4,h5,h6,h7,h8,h9⟩:=Oi hq h1
 exact h0 ⟨_,Abs.sJ g1 g3,n,_,rfl,by omega,h5,by omega,by omega⟩
theorem aar (hq:q≤19) (h1:(Abs.Fact.rel nm false (cO (10 * (q+1))) [.var 7,.var 8]).holds γ) (h0:(Abs.Fact.rel nm' true Abs.uw [.a2 (.bin .leq) (dQ 7 10 (10 * q) (.var 8)) (.int .i64 (.ofNat r))]).holds γ) (hr:40200≤r):False:=by
 obtain ⟨n,s,g1,g2,g3,h4,h5,h6,h7,h8,h9⟩:=Oi hq h1
 exact Kv h0 (a6Y g3 (show _≤(r:Int) by omega))
theorem aas (hq:q≤19) (h1:(Abs.Fact.rel nm false (cO (10 * (q+1))) [.var 7,.var 8]).holds γ) (h0:(Abs.Fact.rel nm' true Abs.uw [.a2 (.bin .geq) (dQ 7 10 (10 * q) (.var 8)) (.int .i64 (.ofNat 0))]).holds γ):False:=by
 obtain ⟨n,s,g1,g2,g3,h4,h5,h6,h7,h8,h9⟩:=Oi hq h1
 exact Kv h0 (a7a g3 (show ((0:Nat):Int)≤_ by omega))
theorem acV (hq:q≤19) (h1:(Abs.Fact.rel nm false (cO (10 * (q+1))) [.var 7,.var 8]).holds γ) (h2:(Abs.Fact.rel nm false (dh (10 * q)) [.var 7,dQ 7 10 (10 * q) (.var 8),z]).holds γ) (h0:(Abs.Fact.rel nm' true (dh (10 * (q+1))) [.var 7,.var 8,z]).holds γ):False:=by
 obtain ⟨n,s,g1,g2,g3,h4,h5,h6,h7,h8,h9⟩:=Oi hq h1
 obtain ⟨n',s',r',k1,k2,k3,k4⟩:=ZC h2
 rw [g1] at k1;rw [g3] at k2
 injection k1 with k1;injection k1 with k1;injection k1 with _ k1
 injection k2 with k2;injection k2 with k2;injection k2 with _ k2
 subst k1
 refine h0 ⟨_,Abs.JC g1 g2 k3,n,s,r',rfl, ?_⟩
 rw [show 10 * (q+1)=10 * q+10 by omega,XM n (10 * q) 10 0,Nat.zero_add,k4,←k2]
 omega
theorem aa7 (h1:(Abs.Fact.rel nm false (cO (10 * (0+1))) [.var 7,.var 8]).holds γ) (h0:(Abs.Fact.rel nm' true (dh (10 * (0+1))) [.var 7,.var 8,dQ 7 10 (10 * 0) (.var 8)]).holds γ):False:=by
 obtain ⟨n,s,g1,g2,g3,h4,h5,h6,h7,h8,h9⟩:=Oi (q:=0) (by omega) h1
 refine h0 ⟨_,Abs.JC g1 g2 g3,n,s,_,rfl, ?_⟩
 show eT n 10 0+s=s+eT n 10 0
 omega
theorem a2G (hv:Abs.aO γ (.var 7)=some (.val (.int .i64 n))) (h0:0≤n) (h2:n≤200) (hm:m≤20) (ha:(a:Int)+m≤n):Abs.aO γ (dQ 7 m a (kL 7 (a+m)))=some (.val (.int .i64 (eT n (m+1) a))):=by
 have e:=a1A hv h0 h2 m a _ _ (aaL hv h0 h2 (a+m) (by omega)) (by omega) (by omega) (by omega) (by omega)
 rw [e,XM n m 1 a]
 simp only [eT]
 congr 3
 omega
theorem a7D {c:Nat} (h1:(Abs.Fact.tr (.a2 (.bin .eql) (.var 7) (.int .i64 (.ofNat c)))).holds γ):Abs.aO γ (.var 7)=some (.val (.int .i64 c)):=by
 obtain ⟨a,g1,g2⟩:=F5 (op:=.eql) (x:=.var 7) (k:=.i64) (c:=(c:Int)) rfl h1
 have g2:=of_decide_eq_true g2
 rw [g1,g2]
theorem a2Q {c:Nat} (hq:q≤19) (hm:m≤9) (hc:c=10 * q+m+1) (h1:(Abs.Fact.tr (.a2 (.bin .eql) (.var 7) (.int .i64 (.ofNat c)))).holds γ):Abs.aO γ (.var 7)=some (.val (.int .i64 c))∧Abs.aO γ (dQ 7 m (10 * q) (kL 7 (10 * q+m)))=some (.val (.int .i64 (eT c (m+1) (10 * q))))∧
  0≤eT c (m+1) (10 * q)∧eT c (m+1) (10 * q)≤200 * (m+1):=by
 have g1:=a7D h1
 have hb:=ZH (n:=c) (by omega) (m+1) (10 * q) (by omega)
 exact ⟨g1,a2G g1 (by omega) (by omega) (by omega) (by omega),hb.1,by omega⟩
theorem Gg {c:Nat} (hq:q≤19) (hm:m≤9) (hc:c=10 * q+m+1) (h1:(Abs.Fact.tr (.a2 (.bin .eql) (.var 7) (.int .i64 (.ofNat c)))).holds γ) (h0:(Abs.Fact.rel nm true (cO (10 * q)) [.var 7,dQ 7 m (10 * q) (kL 7 (10 * q+m))]).holds γ):False:=by
 obtain ⟨g1,g2,g3,g4⟩:=a2Q hq hm hc h1
 exact h0 ⟨_,Abs.sJ g1 g2,_,_,rfl,by omega,by omega,by omega,by omega⟩
theorem Gh {c:Nat} (hq:q≤19) (hm:m≤9) (hc:c=10 * q+m+1) (h1:(Abs.Fact.tr (.a2 (.bin .eql) (.var 7) (.int .i64 (.ofNat c)))).holds γ) (h0:(Abs.Fact.rel nm true Abs.uw [.a2 (.bin .leq) (dQ 7 m (10 * q) (kL 7 (10 * q+m))) (.int .i64 (.ofNat 40200))]).holds γ):False:=by
 obtain ⟨g1,g2,g3,g4⟩:=a2Q hq hm hc h1
 exact Kv h0 (a6Y g2 (show _≤((40200:Nat):Int) by omega))
theorem Gi {c:Nat} (hq:q≤19) (hm:m≤9) (hc:c=10 * q+m+1) (h1:(Abs.Fact.tr (.a2 (.bin .eql) (.var 7) (.int .i64 (.ofNat c)))).holds γ) (h0:(Abs.Fact.rel nm true Abs.uw [.a2 (.bin .geq) (dQ 7 m (10 * q) (kL 7 (10 * q+m))) (.int .i64 (.ofNat 0))]).holds γ):False:=by
 obtain ⟨g1,g2,g3,g4⟩:=a2Q hq hm hc h1
 exact Kv h0 (a7a g2 (show ((0:Nat):Int)≤_ by omega))
theorem XL {c:Nat} (hc:c≤200) (g1:Abs.aO γ (.var 7)=some (.val (.int .i64 c))):Abs.aO γ (.a2 (.bin .quo) (.a2 (.bin .mul) (.var 7) (.a2 (.bin .add) (.var 7) (.int .i64 (.ofNat 1)))) (.int .i64 (.ofNat 2)))=some (.val (.int .i64 (eT c c 0))):=by
 have e1:Abs.aO γ (.a2 (.bin .add) (.var 7) (.int .i64 (.ofNat 1)))=some (.val (.int .i64 ((c:Int)+1))):=a7b g1 (show Abs.aO γ (.int .i64 (.ofNat 1))=some (.val (.int .i64 1)) from rfl) (by omega) (by omega)
 have hb:=ZH (n:=c) (by omega) c 0 (by omega)
 have hf:=a2I c
 have e2:Abs.aO γ (.a2 (.bin .mul) (.var 7) (.a2 (.bin .add) (.var 7) (.int .i64 (.ofNat 1))))=some (.val (.int .i64 (2 * eT c c 0))):=by
  unfold Abs.aO
  rw [g1,e1]
  have:IntKind.i64.wrap ((c:Int) * (c+1))=2 * eT c c 0:=by rw [←hf];exact Abs.wrap64 (by omega) (by omega)
  simp only [Option.bind_some,Abs.e2,Abs.kG,Abs.dB,if_true,Abs.intOp,Abs.okV,this]
 have e3:Abs.aO γ (.int .i64 (.ofNat 2))=some (.val (.int .i64 2)):=rfl
 have hd:(2 * eT c c 0).tdiv 2=eT c c 0:=Int.mul_tdiv_cancel_left _ (by decide)
 have hw:IntKind.i64.wrap (eT c c 0)=eT c c 0:=Abs.wrap64 (by omega) (by omega)
 unfold Abs.aO
 rw [e2,e3]
 simp only [Option.bind_some,Abs.e2,Abs.kG,Abs.dB,if_true,Abs.intOp,Abs.okV,hd,hw,decide_eq_false (show ¬ (2:Int)=0 by decide)]
theorem a1B {u v:Int} (hx:Abs.aO γ x=some (.val (.int .i64 u))) (hy:Abs.aO γ y=some (.val (.int .i64 v))) (h:u=v) (h0:(Abs.Fact.fl (.a2 (.bin .eql) x y)).holds γ):False:=by
 have h0:Abs.aO γ (.a2 (.bin .eql) x y)=some (.val (.bool false)):=h0
 simp only [Abs.aO,hx,hy,Option.bind_some,Abs.e2,Abs.kG,Abs.dB,if_true,Abs.intOp,Abs.okV,decide_eq_true h] at h0
 cases h0
theorem wL {c:Nat} (hq:q≤19) (hm:m≤9) (hc:c=10 * q+m+1) (h1:(Abs.Fact.tr (.a2 (.bin .eql) (.var 7) (.int .i64 (.ofNat c)))).holds γ) (h2:(Abs.Fact.rel nm false (dh (10 * q)) [.var 7,dQ 7 m (10 * q) (kL 7 (10 * q+m)),z]).holds γ)
  (h0:(Abs.Fact.fl (.a2 (.bin .eql) z (.a2 (.bin .quo) (.a2 (.bin .mul) (.var 7) (.a2 (.bin .add) (.var 7) (.int .i64 (.ofNat 1)))) (.int .i64 (.ofNat 2))))).holds γ):False:=by
 obtain ⟨g1,g2,g3,g4⟩:=a2Q hq hm hc h1
 obtain ⟨n',s',r',k1,k2,k3,k4⟩:=ZC h2
 rw [g1] at k1;rw [g2] at k2
 injection k1 with k1;injection k1 with k1;injection k1 with _ k1
 injection k2 with k2;injection k2 with k2;injection k2 with _ k2
 refine a1B k3 (XL (c:=c) (by omega) g1) ?_ h0
 have e:=XM (c:Int) (10 * q) (m+1) 0
 rw [Nat.zero_add,show 10 * q+(m+1)=c by omega] at e
 rw [k4,←k2,←k1,e]
 omega
theorem yN {c:Nat} (hm:m≤9) (hc:c=m+1) (h1:(Abs.Fact.tr (.a2 (.bin .eql) (.var 7) (.int .i64 (.ofNat c)))).holds γ)
  (h0:(Abs.Fact.fl (.a2 (.bin .eql) (dQ 7 m 0 (kL 7 (0+m))) (.a2 (.bin .quo) (.a2 (.bin .mul) (.var 7) (.a2 (.bin .add) (.var 7) (.int .i64 (.ofNat 1)))) (.int .i64 (.ofNat 2))))).holds γ):False:=by
 have g1:=a7D h1
 refine a1B (a2G g1 (by omega) (by omega) (by omega) (by omega)) (XL (c:=c) (by omega) g1) ?_ h0
 rw [hc]
theorem TG {a:Int} {d:Nat} (g1:Abs.aO γ (.var 7)=some (.val (.int .i64 a))) (h:(Abs.Fact.fl (.a2 (.bin .eql) (.var 7) (.int .i64 (.ofNat d)))).holds γ):a≠d:=by
 obtain ⟨b,k1,k2⟩:=F5 (op:=.eql) (x:=.var 7) (k:=.i64) (c:=(d:Int)) rfl h
 rw [g1] at k1
 injection k1 with k1;injection k1 with k1;injection k1 with _ k1
 subst k1
 exact of_decide_eq_false k2
theorem aai {c:Nat} (h1:(Abs.Fact.tr (.a2 (.bin .gtr) (.var 7) (.int .i64 (.ofNat c)))).holds γ) (e1:(Abs.Fact.fl (.a2 (.bin .eql) (.var 7) (.int .i64 (.ofNat (c+1))))).holds γ) (e2:(Abs.Fact.fl (.a2 (.bin .eql) (.var 7) (.int .i64 (.ofNat (c+2))))).holds γ)
  (e3:(Abs.Fact.fl (.a2 (.bin .eql) (.var 7) (.int .i64 (.ofNat (c+3))))).holds γ) (e4:(Abs.Fact.fl (.a2 (.bin .eql) (.var 7) (.int .i64 (.ofNat (c+4))))).holds γ) (e5:(Abs.Fact.fl (.a2 (.bin .eql) (.var 7) (.int .i64 (.ofNat (c+5))))).holds γ)
  (h0:(Abs.Fact.rel nm true Abs.uw [.a2 (.bin .gtr) (.var 7) (.int .i64 (.ofNat (c+5)))]).holds γ):False:=by
 obtain ⟨a,g1,g2⟩:=F5 (op:=.gtr) (x:=.var 7) (k:=.i64) (c:=(c:Int)) rfl h1
 have g2:(c:Int) < a:=of_decide_eq_true g2
 have f1:=TG g1 e1;have f2:=TG g1 e2;have f3:=TG g1 e3;have f4:=TG g1 e4;have f5:=TG g1 e5
 exact Kv h0 (a6Z g1 (show ((c+5:Nat):Int) < a by omega))
theorem a2R (h1:(Abs.Fact.tr (.a2 (.bin .gtr) (.var 7) (.int .i64 (.ofNat 195)))).holds γ) (e1:(Abs.Fact.fl (.a2 (.bin .eql) (.var 7) (.int .i64 (.ofNat 196)))).holds γ) (e2:(Abs.Fact.fl (.a2 (.bin .eql) (.var 7) (.int .i64 (.ofNat 197)))).holds γ)
  (e3:(Abs.Fact.fl (.a2 (.bin .eql) (.var 7) (.int .i64 (.ofNat 198)))).holds γ) (e4:(Abs.Fact.fl (.a2 (.bin .eql) (.var 7) (.int .i64 (.ofNat 199)))).holds γ) (h2:(Abs.Fact.fl (.a2 (.bin .gtr) (.var 7) (.int .i64 (.ofNat 200)))).holds γ):
  (Abs.Fact.tr (.a2 (.bin .eql) (.var 7) (.int .i64 (.ofNat 200)))).holds γ:=by
 obtain ⟨a,g1,g2⟩:=F5 (op:=.gtr) (x:=.var 7) (k:=.i64) (c:=195) rfl h1
 have g2:(195:Int) < a:=of_decide_eq_true g2
 obtain ⟨b,k1,k2⟩:=F5 (op:=.gtr) (x:=.var 7) (k:=.i64) (c:=200) rfl h2
 rw [g1] at k1
 injection k1 with k1;injection k1 with k1;injection k1 with _ k1
 subst k1
 have k2:¬ (200:Int) < a:=of_decide_eq_false k2
 have f1:=TG g1 e1;have f2:=TG g1 e2;have f3:=TG g1 e3;have f4:=TG g1 e4
 have e:a=200:=by omega
 subst e
 show Abs.aO γ _=_
 have e:Abs.aO γ (.int .i64 (.ofNat 200))=some (.val (.int .i64 200)):=rfl
 unfold Abs.aO
 rw [g1,e]
 rfl
theorem a2U {K:TypeId→List Abs.Kd} {T U:TypeId} {N:Nat} (hK:K T=[.int .i64,.int .i64,.str,.sl T]) (hU:K U=[.int .i64]) {c x y z t:Abs.SE} (h1:(Abs.Fact.rel nm false (Abs.aaw K [U,T] N) [c,x,y,z,t]).holds γ):(Abs.Fact.rel nm' false (Abs.aj K T (N+1)) [x,y,z,t]).holds γ:=by
 obtain ⟨l,hl,h2,h3⟩:=h1
 obtain ⟨a,r1,rfl,la,wa,h2⟩:=Abs.L9 h2
 obtain ⟨b,r2,rfl,lb,wb,h2⟩:=Abs.L9 h2
 obtain rfl:r2=[]:=h2
 have la:a.length=1:=by rw [la,hU];rfl
 have lb:b.length=4:=by rw [lb,hK];rfl
 obtain ⟨p1,q1,e1,s1,hl⟩:=Abs.OH (xs:=[c]) (ys:=[x,y,z,t]) hl
 have n1:p1.length=1:=Abs.OG s1
 obtain ⟨ea,eb⟩:=List.append_inj e1 (by omega)
 rw [List.append_nil] at eb
 subst eb
 rw [Abs.iJ,Abs.iJ] at h3
 exact ⟨b,hl,lb,wb,by omega⟩
theorem ade (h1:(Abs.Fact.fl (.a2 (.bin .eql) (.var 7) (.int .i64 (.ofNat 0)))).holds γ) (h2:(Abs.Fact.fl (.a2 (.bin .lss) (.var 7) (.int .i64 (.ofNat 0)))).holds γ) (h0:(Abs.Fact.rel nm true Abs.uw [.a2 (.bin .gtr) (.var 7) (.int .i64 (.ofNat 0))]).holds γ):False:=by
 obtain ⟨a,g1,g2⟩:=F5 (op:=.lss) (x:=.var 7) (k:=.i64) (c:=0) rfl h2
 have g2:¬ a < 0:=of_decide_eq_false g2
 have f1:=TG g1 h1
 exact Kv h0 (a6Z g1 (show ((0:Nat):Int) < a by omega))
theorem a8P (h1:(Abs.Fact.tr (.a2 (.bin .eql) (.var 7) (.int .i64 (.ofNat 0)))).holds γ) (h0:(Abs.Fact.fl (.a2 (.bin .eql) (.int .i64 (.ofNat 0)) (.a2 (.bin .quo) (.a2 (.bin .mul) (.var 7) (.a2 (.bin .add) (.var 7) (.int .i64 (.ofNat 1)))) (.int .i64 (.ofNat 2))))).holds γ):False:=
 a1B (u:=0) (v:=0) rfl (XL (c:=0) (by omega) (a7D h1)) rfl h0
theorem adH (h1:(Abs.Fact.tr (.a2 (.bin .gtr) (.var 7) (.int .i64 (.ofNat 200)))).holds γ) (h2:(Abs.Fact.fl (.a2 (.bin .gtr) (.var 7) (.int .i64 (.ofNat 200)))).holds γ):False:=by
 have h1:Abs.aO γ _=_:=h1
 have h2:Abs.aO γ _=_:=h2
 rw [h1] at h2;cases h2
end
noncomputable def zk (q:Nat):Nat→Abs.Fact:=fun i=>([
 .rel "us" true (cO (10 * q)) [(.var 7),(dQ 7 10 (10 * q) (.var 8))],
 .rel "us" false (cO (10 * (q+1))) [(.var 7),(.var 8)],
 .fl (.a2 (.bin .gtr) (.var 7) (.int .i64 (.ofNat 200))),
 .fl (.a2 (.bin .lss) (.var 7) (.int .i64 (.ofNat 0))),
 .tr (.a2 (.bin .leq) (.var 8) (.int .i64 (.ofNat 40200))),
 .tr (.a2 (.bin .geq) (.var 8) (.int .i64 (.ofNat 0))),
 .rel "tr" true Abs.uw [(.a2 (.bin .leq) (dQ 7 10 (10 * q) (.var 8)) (.int .i64 (.ofNat 40200)))],
 .rel "tr" true Abs.uw [(.a2 (.bin .geq) (dQ 7 10 (10 * q) (.var 8)) (.int .i64 (.ofNat 0)))],
 .rel "uo" true (dh (10 * (q+1))) [(.var 7),(.var 8),(.var (20 * q+193))],
 .rel "uo" false (dh (10 * q)) [(.var 7),(dQ 7 10 (10 * q) (.var 8)),(.var (20 * q+193))],
 .tr (.a2 (.bin .leq) (.var (20 * q+193)) (.int .i64 (.ofNat 80400))),
 .tr (.a2 (.bin .geq) (.var (20 * q+193)) (.int .i64 (.ofNat 0)))]:List Abs.Fact).getD i (.tr (.bool true))
noncomputable def qK:List (List Nat):=[[0,1,2,3,4,5],[6,1,2,3,4,5],[7,1,2,3,4,5],[8,9,10,11,1,2,3,4,5]]
theorem qY {q:Nat} (hq:q≤19):Abs.lY (qK.map fun r=>r.map (zk q)):=
 Abs.gW (F:=zk q) (pats:=[[0,1],[6,1],[7,1],[8,1,9]]) (fun p hp γ h=>by
  simp only [List.mem_cons,List.not_mem_nil,or_false] at hp
  rcases hp with rfl|rfl|rfl|rfl
  ·exact acU (q:=q) hq (h 1 (by simp)) (h 0 (by simp))
  ·exact aar (q:=q) hq (h 1 (by simp)) (h 6 (by simp)) (by decide)
  ·exact aas (q:=q) hq (h 1 (by simp)) (h 7 (by simp))
  ·exact acV (q:=q) hq (h 1 (by simp)) (h 9 (by simp)) (h 8 (by simp))) (by kernel_rfl)
noncomputable def abV:Nat→Abs.Fact:=fun i=>([
 .rel "uo" true (dh (10 * (0+1))) [(.var 7),(.var 8),(dQ 7 10 0 (.var 8))],
 .rel "us" false (cO (10 * (0+1))) [(.var 7),(.var 8)],
 .fl (.a2 (.bin .gtr) (.var 7) (.int .i64 (.ofNat 200))),
 .fl (.a2 (.bin .lss) (.var 7) (.int .i64 (.ofNat 0))),
 .tr (.a2 (.bin .leq) (.var 8) (.int .i64 (.ofNat 40200))),
 .tr (.a2 (.bin .geq) (.var 8) (.int .i64 (.ofNat 0))),
 .rel "tr" true Abs.uw [(.a2 (.bin .leq) (dQ 7 10 0 (.var 8)) (.int .i64 (.ofNat 80400)))],
 .rel "tr" true Abs.uw [(.a2 (.bin .geq) (dQ 7 10 0 (.var 8)) (.int .i64 (.ofNat 0)))]]:List Abs.Fact).getD i (.tr (.bool true))
noncomputable def aaK:List (List Nat):=[[0,1,2,3,4,5],[6,1,2,3,4,5],[7,1,2,3,4,5]]
theorem adz:Abs.lY (aaK.map fun r=>r.map (abV)):=
 Abs.gW (F:=abV) (pats:=[[0,1],[6,1],[7,1]]) (fun p hp γ h=>by
  simp only [List.mem_cons,List.not_mem_nil,or_false] at hp
  rcases hp with rfl|rfl|rfl
  ·exact aa7 (h 1 (by simp)) (h 0 (by simp))
  ·exact aar (q:=0) (by omega) (h 1 (by simp)) (h 6 (by simp)) (by decide)
  ·exact aas (q:=0) (by omega) (h 1 (by simp)) (h 7 (by simp))) (by kernel_rfl)
noncomputable def yK (q:Nat):Nat→Abs.Fact:=fun i=>([
 .rel "term" true (Abs.aj kK kT kB) [(.var 8),(.var 9),(.var 10),(.var 11)],
 .rel "term" false (Abs.aj kK kT kB) [(.var 8),(.var 9),(.var 10),(.var 11)],
 .rel "sound" false Abs.ah [(.var 8),(.var 9),(.var 10),(.var 11)],
 .tr (.a2 (.bin .gtr) (.var 7) (.int .i64 (.ofNat (10 * q)))),
 .fl (.a2 (.bin .gtr) (.var 7) (.int .i64 (.ofNat 200))),
 .fl (.a2 (.bin .lss) (.var 7) (.int .i64 (.ofNat 0))),
 .rel "sound" true Abs.ah [(.var 8),(.var 9),(.var 10),(.var 11)],
 .rel "us" true (cO (10 * q)) [(.var 7),(dQ 7 0 (10 * q) (kL 7 (10 * q+0)))],
 .tr (.a2 (.bin .eql) (.var 7) (.int .i64 (.ofNat (10 * q+1)))),
 .rel "cop" false (Abs.bU kK kT) [(.var 11),(.var (20 * q+59))],
 .rel "tr" true Abs.uw [(.a2 (.bin .leq) (dQ 7 0 (10 * q) (kL 7 (10 * q+0))) (.int .i64 (.ofNat 40200)))],
 .rel "tr" true Abs.uw [(.a2 (.bin .geq) (dQ 7 0 (10 * q) (kL 7 (10 * q+0))) (.int .i64 (.ofNat 0)))],
 .fl (.a2 (.bin .eql) (.var (20 * q+95)) (.a2 (.bin .quo) (.a2 (.bin .mul) (.var 7) (.a2 (.bin .add) (.var 7) (.int .i64 (.ofNat 1)))) (.int .i64 (.ofNat 2)))),
 .rel "uo" false (dh (10 * q)) [(.var 7),(dQ 7 0 (10 * q) (kL 7 (10 * q+0))),(.var (20 * q+95))],
 .tr (.a2 (.bin .leq) (.var (20 * q+95)) (.int .i64 (.ofNat 80400))),
 .tr (.a2 (.bin .geq) (.var (20 * q+95)) (.int .i64 (.ofNat 0))),
 .fl (.a2 (.bin .eql) (.var 7) (.int .i64 (.ofNat (10 * q+1)))),
 .rel "us" true (cO (10 * q)) [(.var 7),(dQ 7 1 (10 * q) (kL 7 (10 * q+1)))],
 .tr (.a2 (.bin .eql) (.var 7) (.int .i64 (.ofNat (10 * q+2)))),
 .rel "cop" false (Abs.bU kK kT) [(.var 11),(.var (20 * q+218))],
 .rel "tr" true Abs.uw [(.a2 (.bin .leq) (dQ 7 1 (10 * q) (kL 7 (10 * q+1))) (.int .i64 (.ofNat 40200)))],
 .rel "tr" true Abs.uw [(.a2 (.bin .geq) (dQ 7 1 (10 * q) (kL 7 (10 * q+1))) (.int .i64 (.ofNat 0)))],
 .fl (.a2 (.bin .eql) (.var (20 * q+271)) (.a2 (.bin .quo) (.a2 (.bin .mul) (.var 7) (.a2 (.bin .add) (.var 7) (.int .i64 (.ofNat 1)))) (.int .i64 (.ofNat 2)))),
 .rel "uo" false (dh (10 * q)) [(.var 7),(dQ 7 1 (10 * q) (kL 7 (10 * q+1))),(.var (20 * q+271))],
 .tr (.a2 (.bin .leq) (.var (20 * q+271)) (.int .i64 (.ofNat 80400))),
 .tr (.a2 (.bin .geq) (.var (20 * q+271)) (.int .i64 (.ofNat 0))),
 .fl (.a2 (.bin .eql) (.var 7) (.int .i64 (.ofNat (10 * q+2)))),
 .rel "us" true (cO (10 * q)) [(.var 7),(dQ 7 2 (10 * q) (kL 7 (10 * q+2)))],
 .tr (.a2 (.bin .eql) (.var 7) (.int .i64 (.ofNat (10 * q+3)))),
 .rel "cop" false (Abs.bU kK kT) [(.var 11),(.var (20 * q+376))],
 .rel "tr" true Abs.uw [(.a2 (.bin .leq) (dQ 7 2 (10 * q) (kL 7 (10 * q+2))) (.int .i64 (.ofNat 40200)))],
 .rel "tr" true Abs.uw [(.a2 (.bin .geq) (dQ 7 2 (10 * q) (kL 7 (10 * q+2))) (.int .i64 (.ofNat 0)))],
 .fl (.a2 (.bin .eql) (.var (20 * q+446)) (.a2 (.bin .quo) (.a2 (.bin .mul) (.var 7) (.a2 (.bin .add) (.var 7) (.int .i64 (.ofNat 1)))) (.int .i64 (.ofNat 2)))),
 .rel "uo" false (dh (10 * q)) [(.var 7),(dQ 7 2 (10 * q) (kL 7 (10 * q+2))),(.var (20 * q+446))],
 .tr (.a2 (.bin .leq) (.var (20 * q+446)) (.int .i64 (.ofNat 80400))),
 .tr (.a2 (.bin .geq) (.var (20 * q+446)) (.int .i64 (.ofNat 0))),
 .fl (.a2 (.bin .eql) (.var 7) (.int .i64 (.ofNat (10 * q+3)))),
 .rel "us" true (cO (10 * q)) [(.var 7),(dQ 7 3 (10 * q) (kL 7 (10 * q+3)))],
 .tr (.a2 (.bin .eql) (.var 7) (.int .i64 (.ofNat (10 * q+4)))),
 .rel "cop" false (Abs.bU kK kT) [(.var 11),(.var (20 * q+534))],
 .rel "tr" true Abs.uw [(.a2 (.bin .leq) (dQ 7 3 (10 * q) (kL 7 (10 * q+3))) (.int .i64 (.ofNat 40200)))],
 .rel "tr" true Abs.uw [(.a2 (.bin .geq) (dQ 7 3 (10 * q) (kL 7 (10 * q+3))) (.int .i64 (.ofNat 0)))],
 .fl (.a2 (.bin .eql) (.var (20 * q+621)) (.a2 (.bin .quo) (.a2 (.bin .mul) (.var 7) (.a2 (.bin .add) (.var 7) (.int .i64 (.ofNat 1)))) (.int .i64 (.ofNat 2)))),
 .rel "uo" false (dh (10 * q)) [(.var 7),(dQ 7 3 (10 * q) (kL 7 (10 * q+3))),(.var (20 * q+621))],
 .tr (.a2 (.bin .leq) (.var (20 * q+621)) (.int .i64 (.ofNat 80400))),
 .tr (.a2 (.bin .geq) (.var (20 * q+621)) (.int .i64 (.ofNat 0))),
 .fl (.a2 (.bin .eql) (.var 7) (.int .i64 (.ofNat (10 * q+4)))),
 .rel "us" true (cO (10 * q)) [(.var 7),(dQ 7 4 (10 * q) (kL 7 (10 * q+4)))],
 .tr (.a2 (.bin .eql) (.var 7) (.int .i64 (.ofNat (10 * q+5)))),
 .rel "cop" false (Abs.bU kK kT) [(.var 11),(.var (20 * q+692))],
 .rel "tr" true Abs.uw [(.a2 (.bin .leq) (dQ 7 4 (10 * q) (kL 7 (10 * q+4))) (.int .i64 (.ofNat 40200)))],
 .rel "tr" true Abs.uw [(.a2 (.bin .geq) (dQ 7 4 (10 * q) (kL 7 (10 * q+4))) (.int .i64 (.ofNat 0)))],
 .fl (.a2 (.bin .eql) (.var (20 * q+796)) (.a2 (.bin .quo) (.a2 (.bin .mul) (.var 7) (.a2 (.bin .add) (.var 7) (.int .i64 (.ofNat 1)))) (.int .i64 (.ofNat 2)))),
 .rel "uo" false (dh (10 * q)) [(.var 7),(dQ 7 4 (10 * q) (kL 7 (10 * q+4))),(.var (20 * q+796))],
 .tr (.a2 (.bin .leq) (.var (20 * q+796)) (.int .i64 (.ofNat 80400))),
 .tr (.a2 (.bin .geq) (.var (20 * q+796)) (.int .i64 (.ofNat 0))),
 .fl (.a2 (.bin .eql) (.var 7) (.int .i64 (.ofNat (10 * q+5)))),
 .rel "tr" true Abs.uw [(.a2 (.bin .gtr) (.var 7) (.int .i64 (.ofNat (10 * q+5))))]]:List Abs.Fact).getD i (.tr (.bool true))
noncomputable def oN:List (List Nat):=[[0,1,2,3,4,5],[6,1,2,3,4,5],[0,1,2,3,4,5],[7,8,9,1,2,3,4,5],[10,8,9,1,2,3,4,5],[11,8,9,1,2,3,4,5],[12,13,14,15,8,9,1,2,3,4,5],[0,16,9,1,2,3,4,5],[6,16,9,1,2,3,4,5],[0,16,9,1,2,3,4,5],[17,18,19,16,9,1,2,3,4,5],[20,18,19,16,9,1,2,3,4,5],[21,18,19,16,9,1,2,3,4,5],[22,23,24,25,18,19,16,9,1,2,3,4,5],[0,26,19,16,9,1,2,3,4,5],[6,26,19,16,9,1,2,3,4,5],[0,26,19,16,9,1,2,3,4,5],[27,28,29,26,19,16,9,1,2,3,4,5],[30,28,29,26,19,16,9,1,2,3,4,5],[31,28,29,26,19,16,9,1,2,3,4,5],[32,33,34,35,28,29,26,19,16,9,1,2,3,4,5],[0,36,29,26,19,16,9,1,2,3,4,5],[6,36,29,26,19,16,9,1,2,3,4,5],[0,36,29,26,19,16,9,1,2,3,4,5],[37,38,39,36,29,26,19,16,9,1,2,3,4,5],[40,38,39,36,29,26,19,16,9,1,2,3,4,5],[41,38,39,36,29,26,19,16,9,1,2,3,4,5],[42,43,44,45,38,39,36,29,26,19,16,9,1,2,3,4,5],[0,46,39,36,29,26,19,16,9,1,2,3,4,5],[6,46,39,36,29,26,19,16,9,1,2,3,4,5],[0,46,39,36,29,26,19,16,9,1,2,3,4,5],[47,48,49,46,39,36,29,26,19,16,9,1,2,3,4,5],[50,48,49,46,39,36,29,26,19,16,9,1,2,3,4,5],[51,48,49,46,39,36,29,26,19,16,9,1,2,3,4,5],[52,53,54,55,48,49,46,39,36,29,26,19,16,9,1,2,3,4,5],[0,56,49,46,39,36,29,26,19,16,9,1,2,3,4,5],[6,56,49,46,39,36,29,26,19,16,9,1,2,3,4,5],[57,56,49,46,39,36,29,26,19,16,9,1,2,3,4,5]]
theorem qM {q:Nat} (hq:q≤19):Abs.lY (oN.map fun r=>r.map (yK q)):=
 Abs.gW (F:=yK q) (pats:=[[0,1],[6,2],[7,8],[10,8],[11,8],[12,8,13],[17,18],[20,18],[21,18],[22,18,23],[27,28],[30,28],[31,28],[32,28,33],[37,38],[40,38],[41,38],[42,38,43],[47,48],[50,48],[51,48],[52,48,53],[57,3,16,26,36,46,56]]) (fun p hp γ h=>by
  simp only [List.mem_cons,List.not_mem_nil,or_false] at hp
  rcases hp with rfl|rfl|rfl|rfl|rfl|rfl|rfl|rfl|rfl|rfl|rfl|rfl|rfl|rfl|rfl|rfl|rfl|rfl|rfl|rfl|rfl|rfl|rfl
  ·exact (h 0 (by simp)) (h 1 (by simp))
  ·exact (h 6 (by simp)) (h 2 (by simp))
  ·exact Gg (q:=q) (m:=0) hq (by omega) (by omega) (h 8 (by simp)) (h 7 (by simp))
  ·exact Gh (q:=q) (m:=0) hq (by omega) (by omega) (h 8 (by simp)) (h 10 (by simp))
  ·exact Gi (q:=q) (m:=0) hq (by omega) (by omega) (h 8 (by simp)) (h 11 (by simp))
  ·exact wL (q:=q) (m:=0) hq (by omega) (by omega) (h 8 (by simp)) (h 13 (by simp)) (h 12 (by simp))
  ·exact Gg (q:=q) (m:=1) hq (by omega) (by omega) (h 18 (by simp)) (h 17 (by simp))
  ·exact Gh (q:=q) (m:=1) hq (by omega) (by omega) (h 18 (by simp)) (h 20 (by simp))
  ·exact Gi (q:=q) (m:=1) hq (by omega) (by omega) (h 18 (by simp)) (h 21 (by simp))
  ·exact wL (q:=q) (m:=1) hq (by omega) (by omega) (h 18 (by simp)) (h 23 (by simp)) (h 22 (by simp))
  ·exact Gg (q:=q) (m:=2) hq (by omega) (by omega) (h 28 (by simp)) (h 27 (by simp))
  ·exact Gh (q:=q) (m:=2) hq (by omega) (by omega) (h 28 (by simp)) (h 30 (by simp))
  ·exact Gi (q:=q) (m:=2) hq (by omega) (by omega) (h 28 (by simp)) (h 31 (by simp))
  ·exact wL (q:=q) (m:=2) hq (by omega) (by omega) (h 28 (by simp)) (h 33 (by simp)) (h 32 (by simp))
  ·exact Gg (q:=q) (m:=3) hq (by omega) (by omega) (h 38 (by simp)) (h 37 (by simp))
  ·exact Gh (q:=q) (m:=3) hq (by omega) (by omega) (h 38 (by simp)) (h 40 (by simp))
  ·exact Gi (q:=q) (m:=3) hq (by omega) (by omega) (h 38 (by simp)) (h 41 (by simp))
  ·exact wL (q:=q) (m:=3) hq (by omega) (by omega) (h 38 (by simp)) (h 43 (by simp)) (h 42 (by simp))
  ·exact Gg (q:=q) (m:=4) hq (by omega) (by omega) (h 48 (by simp)) (h 47 (by simp))
  ·exact Gh (q:=q) (m:=4) hq (by omega) (by omega) (h 48 (by simp)) (h 50 (by simp))
  ·exact Gi (q:=q) (m:=4) hq (by omega) (by omega) (h 48 (by simp)) (h 51 (by simp))
  ·exact wL (q:=q) (m:=4) hq (by omega) (by omega) (h 48 (by simp)) (h 53 (by simp)) (h 52 (by simp))
  ·exact aai (h 3 (by simp)) (h 16 (by simp)) (h 26 (by simp)) (h 36 (by simp)) (h 46 (by simp)) (h 56 (by simp)) (h 57 (by simp))) (by kernel_rfl)
noncomputable def zl (q:Nat):Nat→Abs.Fact:=fun i=>([
 .rel "term" true (Abs.aj kK kT kB) [(.var 8),(.var 9),(.var 10),(.var 11)],
 .rel "term" false (Abs.aj kK kT kB) [(.var 8),(.var 9),(.var 10),(.var 11)],
 .rel "sound" false Abs.ah [(.var 8),(.var 9),(.var 10),(.var 11)],
 .tr (.a2 (.bin .gtr) (.var 7) (.int .i64 (.ofNat (10 * q+5)))),
 .fl (.a2 (.bin .gtr) (.var 7) (.int .i64 (.ofNat 200))),
 .fl (.a2 (.bin .lss) (.var 7) (.int .i64 (.ofNat 0))),
 .rel "sound" true Abs.ah [(.var 8),(.var 9),(.var 10),(.var 11)],
 .rel "us" true (cO (10 * q)) [(.var 7),(dQ 7 5 (10 * q) (kL 7 (10 * q+5)))],
 .tr (.a2 (.bin .eql) (.var 7) (.int .i64 (.ofNat (10 * q+6)))),
 .rel "cop" false (Abs.bU kK kT) [(.var 11),(.var (20 * q+69))],
 .rel "tr" true Abs.uw [(.a2 (.bin .leq) (dQ 7 5 (10 * q) (kL 7 (10 * q+5))) (.int .i64 (.ofNat 40200)))],
 .rel "tr" true Abs.uw [(.a2 (.bin .geq) (dQ 7 5 (10 * q) (kL 7 (10 * q+5))) (.int .i64 (.ofNat 0)))],
 .fl (.a2 (.bin .eql) (.var (20 * q+190)) (.a2 (.bin .quo) (.a2 (.bin .mul) (.var 7) (.a2 (.bin .add) (.var 7) (.int .i64 (.ofNat 1)))) (.int .i64 (.ofNat 2)))),
 .rel "uo" false (dh (10 * q)) [(.var 7),(dQ 7 5 (10 * q) (kL 7 (10 * q+5))),(.var (20 * q+190))],
 .tr (.a2 (.bin .leq) (.var (20 * q+190)) (.int .i64 (.ofNat 80400))),
 .tr (.a2 (.bin .geq) (.var (20 * q+190)) (.int .i64 (.ofNat 0))),
 .fl (.a2 (.bin .eql) (.var 7) (.int .i64 (.ofNat (10 * q+6)))),
 .rel "us" true (cO (10 * q)) [(.var 7),(dQ 7 6 (10 * q) (kL 7 (10 * q+6)))],
 .tr (.a2 (.bin .eql) (.var 7) (.int .i64 (.ofNat (10 * q+7)))),
 .rel "cop" false (Abs.bU kK kT) [(.var 11),(.var (20 * q+228))],
 .rel "tr" true Abs.uw [(.a2 (.bin .leq) (dQ 7 6 (10 * q) (kL 7 (10 * q+6))) (.int .i64 (.ofNat 40200)))],
 .rel "tr" true Abs.uw [(.a2 (.bin .geq) (dQ 7 6 (10 * q) (kL 7 (10 * q+6))) (.int .i64 (.ofNat 0)))],
 .fl (.a2 (.bin .eql) (.var (20 * q+366)) (.a2 (.bin .quo) (.a2 (.bin .mul) (.var 7) (.a2 (.bin .add) (.var 7) (.int .i64 (.ofNat 1)))) (.int .i64 (.ofNat 2)))),
 .rel "uo" false (dh (10 * q)) [(.var 7),(dQ 7 6 (10 * q) (kL 7 (10 * q+6))),(.var (20 * q+366))],
 .tr (.a2 (.bin .leq) (.var (20 * q+366)) (.int .i64 (.ofNat 80400))),
 .tr (.a2 (.bin .geq) (.var (20 * q+366)) (.int .i64 (.ofNat 0))),
 .fl (.a2 (.bin .eql) (.var 7) (.int .i64 (.ofNat (10 * q+7)))),
 .rel "us" true (cO (10 * q)) [(.var 7),(dQ 7 7 (10 * q) (kL 7 (10 * q+7)))],
 .tr (.a2 (.bin .eql) (.var 7) (.int .i64 (.ofNat (10 * q+8)))),
 .rel "cop" false (Abs.bU kK kT) [(.var 11),(.var (20 * q+386))],
 .rel "tr" true Abs.uw [(.a2 (.bin .leq) (dQ 7 7 (10 * q) (kL 7 (10 * q+7))) (.int .i64 (.ofNat 40200)))],
 .rel "tr" true Abs.uw [(.a2 (.bin .geq) (dQ 7 7 (10 * q) (kL 7 (10 * q+7))) (.int .i64 (.ofNat 0)))],
 .fl (.a2 (.bin .eql) (.var (20 * q+541)) (.a2 (.bin .quo) (.a2 (.bin .mul) (.var 7) (.a2 (.bin .add) (.var 7) (.int .i64 (.ofNat 1)))) (.int .i64 (.ofNat 2)))),
 .rel "uo" false (dh (10 * q)) [(.var 7),(dQ 7 7 (10 * q) (kL 7 (10 * q+7))),(.var (20 * q+541))],
 .tr (.a2 (.bin .leq) (.var (20 * q+541)) (.int .i64 (.ofNat 80400))),
 .tr (.a2 (.bin .geq) (.var (20 * q+541)) (.int .i64 (.ofNat 0))),
 .fl (.a2 (.bin .eql) (.var 7) (.int .i64 (.ofNat (10 * q+8)))),
 .rel "us" true (cO (10 * q)) [(.var 7),(dQ 7 8 (10 * q) (kL 7 (10 * q+8)))],
 .tr (.a2 (.bin .eql) (.var 7) (.int .i64 (.ofNat (10 * q+9)))),
 .rel "cop" false (Abs.bU kK kT) [(.var 11),(.var (20 * q+544))],
 .rel "tr" true Abs.uw [(.a2 (.bin .leq) (dQ 7 8 (10 * q) (kL 7 (10 * q+8))) (.int .i64 (.ofNat 40200)))],
 .rel "tr" true Abs.uw [(.a2 (.bin .geq) (dQ 7 8 (10 * q) (kL 7 (10 * q+8))) (.int .i64 (.ofNat 0)))],
 .fl (.a2 (.bin .eql) (.var (20 * q+716)) (.a2 (.bin .quo) (.a2 (.bin .mul) (.var 7) (.a2 (.bin .add) (.var 7) (.int .i64 (.ofNat 1)))) (.int .i64 (.ofNat 2)))),
 .rel "uo" false (dh (10 * q)) [(.var 7),(dQ 7 8 (10 * q) (kL 7 (10 * q+8))),(.var (20 * q+716))],
 .tr (.a2 (.bin .leq) (.var (20 * q+716)) (.int .i64 (.ofNat 80400))),
 .tr (.a2 (.bin .geq) (.var (20 * q+716)) (.int .i64 (.ofNat 0))),
 .fl (.a2 (.bin .eql) (.var 7) (.int .i64 (.ofNat (10 * q+9)))),
 .rel "us" true (cO (10 * q)) [(.var 7),(dQ 7 9 (10 * q) (kL 7 (10 * q+9)))],
 .tr (.a2 (.bin .eql) (.var 7) (.int .i64 (.ofNat (10 * q+10)))),
 .rel "cop" false (Abs.bU kK kT) [(.var 11),(.var (20 * q+702))],
 .rel "tr" true Abs.uw [(.a2 (.bin .leq) (dQ 7 9 (10 * q) (kL 7 (10 * q+9))) (.int .i64 (.ofNat 40200)))],
 .rel "tr" true Abs.uw [(.a2 (.bin .geq) (dQ 7 9 (10 * q) (kL 7 (10 * q+9))) (.int .i64 (.ofNat 0)))],
 .fl (.a2 (.bin .eql) (.var (20 * q+891)) (.a2 (.bin .quo) (.a2 (.bin .mul) (.var 7) (.a2 (.bin .add) (.var 7) (.int .i64 (.ofNat 1)))) (.int .i64 (.ofNat 2)))),
 .rel "uo" false (dh (10 * q)) [(.var 7),(dQ 7 9 (10 * q) (kL 7 (10 * q+9))),(.var (20 * q+891))],
 .tr (.a2 (.bin .leq) (.var (20 * q+891)) (.int .i64 (.ofNat 80400))),
 .tr (.a2 (.bin .geq) (.var (20 * q+891)) (.int .i64 (.ofNat 0))),
 .fl (.a2 (.bin .eql) (.var 7) (.int .i64 (.ofNat (10 * q+10)))),
 .rel "tr" true Abs.uw [(.a2 (.bin .gtr) (.var 7) (.int .i64 (.ofNat (10 * q+10))))]]:List Abs.Fact).getD i (.tr (.bool true))
noncomputable def qL:List (List Nat):=[[0,1,2,3,4,5],[6,1,2,3,4,5],[0,1,2,3,4,5],[7,8,9,1,2,3,4,5],[10,8,9,1,2,3,4,5],[11,8,9,1,2,3,4,5],[12,13,14,15,8,9,1,2,3,4,5],[0,16,9,1,2,3,4,5],[6,16,9,1,2,3,4,5],[0,16,9,1,2,3,4,5],[17,18,19,16,9,1,2,3,4,5],[20,18,19,16,9,1,2,3,4,5],[21,18,19,16,9,1,2,3,4,5],[22,23,24,25,18,19,16,9,1,2,3,4,5],[0,26,19,16,9,1,2,3,4,5],[6,26,19,16,9,1,2,3,4,5],[0,26,19,16,9,1,2,3,4,5],[27,28,29,26,19,16,9,1,2,3,4,5],[30,28,29,26,19,16,9,1,2,3,4,5],[31,28,29,26,19,16,9,1,2,3,4,5],[32,33,34,35,28,29,26,19,16,9,1,2,3,4,5],[0,36,29,26,19,16,9,1,2,3,4,5],[6,36,29,26,19,16,9,1,2,3,4,5],[0,36,29,26,19,16,9,1,2,3,4,5],[37,38,39,36,29,26,19,16,9,1,2,3,4,5],[40,38,39,36,29,26,19,16,9,1,2,3,4,5],[41,38,39,36,29,26,19,16,9,1,2,3,4,5],[42,43,44,45,38,39,36,29,26,19,16,9,1,2,3,4,5],[0,46,39,36,29,26,19,16,9,1,2,3,4,5],[6,46,39,36,29,26,19,16,9,1,2,3,4,5],[0,46,39,36,29,26,19,16,9,1,2,3,4,5],[47,48,49,46,39,36,29,26,19,16,9,1,2,3,4,5],[50,48,49,46,39,36,29,26,19,16,9,1,2,3,4,5],[51,48,49,46,39,36,29,26,19,16,9,1,2,3,4,5],[52,53,54,55,48,49,46,39,36,29,26,19,16,9,1,2,3,4,5],[0,56,49,46,39,36,29,26,19,16,9,1,2,3,4,5],[6,56,49,46,39,36,29,26,19,16,9,1,2,3,4,5],[57,56,49,46,39,36,29,26,19,16,9,1,2,3,4,5]]
theorem qZ {q:Nat} (hq:q≤19):Abs.lY (qL.map fun r=>r.map (zl q)):=
 Abs.gW (F:=zl q) (pats:=[[0,1],[6,2],[7,8],[10,8],[11,8],[12,8,13],[17,18],[20,18],[21,18],[22,18,23],[27,28],[30,28],[31,28],[32,28,33],[37,38],[40,38],[41,38],[42,38,43],[47,48],[50,48],[51,48],[52,48,53],[57,3,16,26,36,46,56]]) (fun p hp γ h=>by
  simp only [List.mem_cons,List.not_mem_nil,or_false] at hp
  rcases hp with rfl|rfl|rfl|rfl|rfl|rfl|rfl|rfl|rfl|rfl|rfl|rfl|rfl|rfl|rfl|rfl|rfl|rfl|rfl|rfl|rfl|rfl|rfl
  ·exact (h 0 (by simp)) (h 1 (by simp))
  ·exact (h 6 (by simp)) (h 2 (by simp))
  ·exact Gg (q:=q) (m:=5) hq (by omega) (by omega) (h 8 (by simp)) (h 7 (by simp))
  ·exact Gh (q:=q) (m:=5) hq (by omega) (by omega) (h 8 (by simp)) (h 10 (by simp))
  ·exact Gi (q:=q) (m:=5) hq (by omega) (by omega) (h 8 (by simp)) (h 11 (by simp))
  ·exact wL (q:=q) (m:=5) hq (by omega) (by omega) (h 8 (by simp)) (h 13 (by simp)) (h 12 (by simp))
  ·exact Gg (q:=q) (m:=6) hq (by omega) (by omega) (h 18 (by simp)) (h 17 (by simp))
  ·exact Gh (q:=q) (m:=6) hq (by omega) (by omega) (h 18 (by simp)) (h 20 (by simp))
  ·exact Gi (q:=q) (m:=6) hq (by omega) (by omega) (h 18 (by simp)) (h 21 (by simp))
  ·exact wL (q:=q) (m:=6) hq (by omega) (by omega) (h 18 (by simp)) (h 23 (by simp)) (h 22 (by simp))
  ·exact Gg (q:=q) (m:=7) hq (by omega) (by omega) (h 28 (by simp)) (h 27 (by simp))
  ·exact Gh (q:=q) (m:=7) hq (by omega) (by omega) (h 28 (by simp)) (h 30 (by simp))
  ·exact Gi (q:=q) (m:=7) hq (by omega) (by omega) (h 28 (by simp)) (h 31 (by simp))
  ·exact wL (q:=q) (m:=7) hq (by omega) (by omega) (h 28 (by simp)) (h 33 (by simp)) (h 32 (by simp))
  ·exact Gg (q:=q) (m:=8) hq (by omega) (by omega) (h 38 (by simp)) (h 37 (by simp))
  ·exact Gh (q:=q) (m:=8) hq (by omega) (by omega) (h 38 (by simp)) (h 40 (by simp))
  ·exact Gi (q:=q) (m:=8) hq (by omega) (by omega) (h 38 (by simp)) (h 41 (by simp))
  ·exact wL (q:=q) (m:=8) hq (by omega) (by omega) (h 38 (by simp)) (h 43 (by simp)) (h 42 (by simp))
  ·exact Gg (q:=q) (m:=9) hq (by omega) (by omega) (h 48 (by simp)) (h 47 (by simp))
  ·exact Gh (q:=q) (m:=9) hq (by omega) (by omega) (h 48 (by simp)) (h 50 (by simp))
  ·exact Gi (q:=q) (m:=9) hq (by omega) (by omega) (h 48 (by simp)) (h 51 (by simp))
  ·exact wL (q:=q) (m:=9) hq (by omega) (by omega) (h 48 (by simp)) (h 53 (by simp)) (h 52 (by simp))
  ·exact aai (h 3 (by simp)) (h 16 (by simp)) (h 26 (by simp)) (h 36 (by simp)) (h 46 (by simp)) (h 56 (by simp)) (h 57 (by simp))) (by kernel_rfl)
noncomputable def acr:Nat→Abs.Fact:=fun i=>([
 .rel "term" true (Abs.aj kK kT kB) [(.var 8),(.var 9),(.var 10),(.var 11)],
 .rel "term" false (Abs.aj kK kT kB) [(.var 8),(.var 9),(.var 10),(.var 11)],
 .rel "sound" false Abs.ah [(.var 8),(.var 9),(.var 10),(.var 11)],
 .tr (.a2 (.bin .gtr) (.var 7) (.int .i64 (.ofNat 0))),
 .fl (.a2 (.bin .gtr) (.var 7) (.int .i64 (.ofNat 200))),
 .fl (.a2 (.bin .lss) (.var 7) (.int .i64 (.ofNat 0))),
 .rel "sound" true Abs.ah [(.var 8),(.var 9),(.var 10),(.var 11)],
 .fl (.a2 (.bin .eql) (dQ 7 0 0 (kL 7 (0+0))) (.a2 (.bin .quo) (.a2 (.bin .mul) (.var 7) (.a2 (.bin .add) (.var 7) (.int .i64 (.ofNat 1)))) (.int .i64 (.ofNat 2)))),
 .tr (.a2 (.bin .eql) (.var 7) (.int .i64 (.ofNat 1))),
 .rel "cop" false (Abs.bU kK kT) [(.var 11),(.var 59)],
 .fl (.a2 (.bin .eql) (.var 7) (.int .i64 (.ofNat 1))),
 .fl (.a2 (.bin .eql) (dQ 7 1 0 (kL 7 (0+1))) (.a2 (.bin .quo) (.a2 (.bin .mul) (.var 7) (.a2 (.bin .add) (.var 7) (.int .i64 (.ofNat 1)))) (.int .i64 (.ofNat 2)))),
 .tr (.a2 (.bin .eql) (.var 7) (.int .i64 (.ofNat 2))),
 .rel "cop" false (Abs.bU kK kT) [(.var 11),(.var 218)],
 .fl (.a2 (.bin .eql) (.var 7) (.int .i64 (.ofNat 2))),
 .fl (.a2 (.bin .eql) (dQ 7 2 0 (kL 7 (0+2))) (.a2 (.bin .quo) (.a2 (.bin .mul) (.var 7) (.a2 (.bin .add) (.var 7) (.int .i64 (.ofNat 1)))) (.int .i64 (.ofNat 2)))),
 .tr (.a2 (.bin .eql) (.var 7) (.int .i64 (.ofNat 3))),
 .rel "cop" false (Abs.bU kK kT) [(.var 11),(.var 376)],
 .fl (.a2 (.bin .eql) (.var 7) (.int .i64 (.ofNat 3))),
 .fl (.a2 (.bin .eql) (dQ 7 3 0 (kL 7 (0+3))) (.a2 (.bin .quo) (.a2 (.bin .mul) (.var 7) (.a2 (.bin .add) (.var 7) (.int .i64 (.ofNat 1)))) (.int .i64 (.ofNat 2)))),
 .tr (.a2 (.bin .eql) (.var 7) (.int .i64 (.ofNat 4))),
 .rel "cop" false (Abs.bU kK kT) [(.var 11),(.var 534)],
 .fl (.a2 (.bin .eql) (.var 7) (.int .i64 (.ofNat 4))),
 .fl (.a2 (.bin .eql) (dQ 7 4 0 (kL 7 (0+4))) (.a2 (.bin .quo) (.a2 (.bin .mul) (.var 7) (.a2 (.bin .add) (.var 7) (.int .i64 (.ofNat 1)))) (.int .i64 (.ofNat 2)))),
 .tr (.a2 (.bin .eql) (.var 7) (.int .i64 (.ofNat 5))),
 .rel "cop" false (Abs.bU kK kT) [(.var 11),(.var 692)],
 .fl (.a2 (.bin .eql) (.var 7) (.int .i64 (.ofNat 5))),
 .rel "tr" true Abs.uw [(.a2 (.bin .gtr) (.var 7) (.int .i64 (.ofNat 5)))]]:List Abs.Fact).getD i (.tr (.bool true))
noncomputable def aaO:List (List Nat):=[[0,1,2,3,4,5],[6,1,2,3,4,5],[0,1,2,3,4,5],[7,8,9,1,2,3,4,5],[0,10,9,1,2,3,4,5],[6,10,9,1,2,3,4,5],[0,10,9,1,2,3,4,5],[11,12,13,10,9,1,2,3,4,5],[0,14,13,10,9,1,2,3,4,5],[6,14,13,10,9,1,2,3,4,5],[0,14,13,10,9,1,2,3,4,5],[15,16,17,14,13,10,9,1,2,3,4,5],[0,18,17,14,13,10,9,1,2,3,4,5],[6,18,17,14,13,10,9,1,2,3,4,5],[0,18,17,14,13,10,9,1,2,3,4,5],[19,20,21,18,17,14,13,10,9,1,2,3,4,5],[0,22,21,18,17,14,13,10,9,1,2,3,4,5],[6,22,21,18,17,14,13,10,9,1,2,3,4,5],[0,22,21,18,17,14,13,10,9,1,2,3,4,5],[23,24,25,22,21,18,17,14,13,10,9,1,2,3,4,5],[0,26,25,22,21,18,17,14,13,10,9,1,2,3,4,5],[6,26,25,22,21,18,17,14,13,10,9,1,2,3,4,5],[27,26,25,22,21,18,17,14,13,10,9,1,2,3,4,5]]
theorem adC:Abs.lY (aaO.map fun r=>r.map (acr)):=
 Abs.gW (F:=acr) (pats:=[[0,1],[6,2],[7,8],[11,12],[15,16],[19,20],[23,24],[27,3,10,14,18,22,26]]) (fun p hp γ h=>by
  simp only [List.mem_cons,List.not_mem_nil,or_false] at hp
  rcases hp with rfl|rfl|rfl|rfl|rfl|rfl|rfl|rfl
  ·exact (h 0 (by simp)) (h 1 (by simp))
  ·exact (h 6 (by simp)) (h 2 (by simp))
  ·exact yN (m:=0) (by omega) (by omega) (h 8 (by simp)) (h 7 (by simp))
  ·exact yN (m:=1) (by omega) (by omega) (h 12 (by simp)) (h 11 (by simp))
  ·exact yN (m:=2) (by omega) (by omega) (h 16 (by simp)) (h 15 (by simp))
  ·exact yN (m:=3) (by omega) (by omega) (h 20 (by simp)) (h 19 (by simp))
  ·exact yN (m:=4) (by omega) (by omega) (h 24 (by simp)) (h 23 (by simp))
  ·exact aai (h 3 (by simp)) (h 10 (by simp)) (h 14 (by simp)) (h 18 (by simp)) (h 22 (by simp)) (h 26 (by simp)) (h 27 (by simp))) (by kernel_rfl)
noncomputable def ab1:Nat→Abs.Fact:=fun i=>([
 .rel "term" true (Abs.aj kK kT kB) [(.var 8),(.var 9),(.var 10),(.var 11)],
 .rel "term" false (Abs.aj kK kT kB) [(.var 8),(.var 9),(.var 10),(.var 11)],
 .rel "sound" false Abs.ah [(.var 8),(.var 9),(.var 10),(.var 11)],
 .tr (.a2 (.bin .gtr) (.var 7) (.int .i64 (.ofNat 5))),
 .fl (.a2 (.bin .gtr) (.var 7) (.int .i64 (.ofNat 200))),
 .fl (.a2 (.bin .lss) (.var 7) (.int .i64 (.ofNat 0))),
 .rel "sound" true Abs.ah [(.var 8),(.var 9),(.var 10),(.var 11)],
 .fl (.a2 (.bin .eql) (dQ 7 5 0 (kL 7 (0+5))) (.a2 (.bin .quo) (.a2 (.bin .mul) (.var 7) (.a2 (.bin .add) (.var 7) (.int .i64 (.ofNat 1)))) (.int .i64 (.ofNat 2)))),
 .tr (.a2 (.bin .eql) (.var 7) (.int .i64 (.ofNat 6))),
 .rel "cop" false (Abs.bU kK kT) [(.var 11),(.var 69)],
 .fl (.a2 (.bin .eql) (.var 7) (.int .i64 (.ofNat 6))),
 .fl (.a2 (.bin .eql) (dQ 7 6 0 (kL 7 (0+6))) (.a2 (.bin .quo) (.a2 (.bin .mul) (.var 7) (.a2 (.bin .add) (.var 7) (.int .i64 (.ofNat 1)))) (.int .i64 (.ofNat 2)))),
 .tr (.a2 (.bin .eql) (.var 7) (.int .i64 (.ofNat 7))),
 .rel "cop" false (Abs.bU kK kT) [(.var 11),(.var 228)],
 .fl (.a2 (.bin .eql) (.var 7) (.int .i64 (.ofNat 7))),
 .fl (.a2 (.bin .eql) (dQ 7 7 0 (kL 7 (0+7))) (.a2 (.bin .quo) (.a2 (.bin .mul) (.var 7) (.a2 (.bin .add) (.var 7) (.int .i64 (.ofNat 1)))) (.int .i64 (.ofNat 2)))),
 .tr (.a2 (.bin .eql) (.var 7) (.int .i64 (.ofNat 8))),
 .rel "cop" false (Abs.bU kK kT) [(.var 11),(.var 386)],
 .fl (.a2 (.bin .eql) (.var 7) (.int .i64 (.ofNat 8))),
 .fl (.a2 (.bin .eql) (dQ 7 8 0 (kL 7 (0+8))) (.a2 (.bin .quo) (.a2 (.bin .mul) (.var 7) (.a2 (.bin .add) (.var 7) (.int .i64 (.ofNat 1)))) (.int .i64 (.ofNat 2)))),
 .tr (.a2 (.bin .eql) (.var 7) (.int .i64 (.ofNat 9))),
 .rel "cop" false (Abs.bU kK kT) [(.var 11),(.var 544)],
 .fl (.a2 (.bin .eql) (.var 7) (.int .i64 (.ofNat 9))),
 .fl (.a2 (.bin .eql) (dQ 7 9 0 (kL 7 (0+9))) (.a2 (.bin .quo) (.a2 (.bin .mul) (.var 7) (.a2 (.bin .add) (.var 7) (.int .i64 (.ofNat 1)))) (.int .i64 (.ofNat 2)))),
 .tr (.a2 (.bin .eql) (.var 7) (.int .i64 (.ofNat 10))),
 .rel "cop" false (Abs.bU kK kT) [(.var 11),(.var 702)],
 .fl (.a2 (.bin .eql) (.var 7) (.int .i64 (.ofNat 10))),
 .rel "tr" true Abs.uw [(.a2 (.bin .gtr) (.var 7) (.int .i64 (.ofNat 10)))]]:List Abs.Fact).getD i (.tr (.bool true))
noncomputable def aaN:List (List Nat):=[[0,1,2,3,4,5],[6,1,2,3,4,5],[0,1,2,3,4,5],[7,8,9,1,2,3,4,5],[0,10,9,1,2,3,4,5],[6,10,9,1,2,3,4,5],[0,10,9,1,2,3,4,5],[11,12,13,10,9,1,2,3,4,5],[0,14,13,10,9,1,2,3,4,5],[6,14,13,10,9,1,2,3,4,5],[0,14,13,10,9,1,2,3,4,5],[15,16,17,14,13,10,9,1,2,3,4,5],[0,18,17,14,13,10,9,1,2,3,4,5],[6,18,17,14,13,10,9,1,2,3,4,5],[0,18,17,14,13,10,9,1,2,3,4,5],[19,20,21,18,17,14,13,10,9,1,2,3,4,5],[0,22,21,18,17,14,13,10,9,1,2,3,4,5],[6,22,21,18,17,14,13,10,9,1,2,3,4,5],[0,22,21,18,17,14,13,10,9,1,2,3,4,5],[23,24,25,22,21,18,17,14,13,10,9,1,2,3,4,5],[0,26,25,22,21,18,17,14,13,10,9,1,2,3,4,5],[6,26,25,22,21,18,17,14,13,10,9,1,2,3,4,5],[27,26,25,22,21,18,17,14,13,10,9,1,2,3,4,5]]
theorem adB:Abs.lY (aaN.map fun r=>r.map (ab1)):=
 Abs.gW (F:=ab1) (pats:=[[0,1],[6,2],[7,8],[11,12],[15,16],[19,20],[23,24],[27,3,10,14,18,22,26]]) (fun p hp γ h=>by
  simp only [List.mem_cons,List.not_mem_nil,or_false] at hp
  rcases hp with rfl|rfl|rfl|rfl|rfl|rfl|rfl|rfl
  ·exact (h 0 (by simp)) (h 1 (by simp))
  ·exact (h 6 (by simp)) (h 2 (by simp))
  ·exact yN (m:=5) (by omega) (by omega) (h 8 (by simp)) (h 7 (by simp))
  ·exact yN (m:=6) (by omega) (by omega) (h 12 (by simp)) (h 11 (by simp))
  ·exact yN (m:=7) (by omega) (by omega) (h 16 (by simp)) (h 15 (by simp))
  ·exact yN (m:=8) (by omega) (by omega) (h 20 (by simp)) (h 19 (by simp))
  ·exact yN (m:=9) (by omega) (by omega) (h 24 (by simp)) (h 23 (by simp))
  ·exact aai (h 3 (by simp)) (h 10 (by simp)) (h 14 (by simp)) (h 18 (by simp)) (h 22 (by simp)) (h 26 (by simp)) (h 27 (by simp))) (by kernel_rfl)
noncomputable def abZ:Nat→Abs.Fact:=fun i=>([
 .rel "term" true (Abs.aj kK kT kB) [(.var 8),(.var 9),(.var 10),(.var 11)],
 .rel "term" false (Abs.aj kK kT kB) [(.var 8),(.var 9),(.var 10),(.var 11)],
 .rel "sound" false Abs.ah [(.var 8),(.var 9),(.var 10),(.var 11)],
 .tr (.a2 (.bin .gtr) (.var 7) (.int .i64 (.ofNat 195))),
 .fl (.a2 (.bin .gtr) (.var 7) (.int .i64 (.ofNat 200))),
 .fl (.a2 (.bin .lss) (.var 7) (.int .i64 (.ofNat 0))),
 .rel "sound" true Abs.ah [(.var 8),(.var 9),(.var 10),(.var 11)],
 .rel "us" true (cO (10 * 19)) [(.var 7),(dQ 7 5 190 (kL 7 (190+5)))],
 .tr (.a2 (.bin .eql) (.var 7) (.int .i64 (.ofNat 196))),
 .rel "cop" false (Abs.bU kK kT) [(.var 11),(.var 449)],
 .rel "tr" true Abs.uw [(.a2 (.bin .leq) (dQ 7 5 190 (kL 7 (190+5))) (.int .i64 (.ofNat 40200)))],
 .rel "tr" true Abs.uw [(.a2 (.bin .geq) (dQ 7 5 190 (kL 7 (190+5))) (.int .i64 (.ofNat 0)))],
 .fl (.a2 (.bin .eql) (.var 570) (.a2 (.bin .quo) (.a2 (.bin .mul) (.var 7) (.a2 (.bin .add) (.var 7) (.int .i64 (.ofNat 1)))) (.int .i64 (.ofNat 2)))),
 .rel "uo" false (dh (10 * 19)) [(.var 7),(dQ 7 5 190 (kL 7 (190+5))),(.var 570)],
 .tr (.a2 (.bin .leq) (.var 570) (.int .i64 (.ofNat 80400))),
 .tr (.a2 (.bin .geq) (.var 570) (.int .i64 (.ofNat 0))),
 .fl (.a2 (.bin .eql) (.var 7) (.int .i64 (.ofNat 196))),
 .rel "us" true (cO (10 * 19)) [(.var 7),(dQ 7 6 190 (kL 7 (190+6)))],
 .tr (.a2 (.bin .eql) (.var 7) (.int .i64 (.ofNat 197))),
 .rel "cop" false (Abs.bU kK kT) [(.var 11),(.var 608)],
 .rel "tr" true Abs.uw [(.a2 (.bin .leq) (dQ 7 6 190 (kL 7 (190+6))) (.int .i64 (.ofNat 40200)))],
 .rel "tr" true Abs.uw [(.a2 (.bin .geq) (dQ 7 6 190 (kL 7 (190+6))) (.int .i64 (.ofNat 0)))],
 .fl (.a2 (.bin .eql) (.var 746) (.a2 (.bin .quo) (.a2 (.bin .mul) (.var 7) (.a2 (.bin .add) (.var 7) (.int .i64 (.ofNat 1)))) (.int .i64 (.ofNat 2)))),
 .rel "uo" false (dh (10 * 19)) [(.var 7),(dQ 7 6 190 (kL 7 (190+6))),(.var 746)],
 .tr (.a2 (.bin .leq) (.var 746) (.int .i64 (.ofNat 80400))),
 .tr (.a2 (.bin .geq) (.var 746) (.int .i64 (.ofNat 0))),
 .fl (.a2 (.bin .eql) (.var 7) (.int .i64 (.ofNat 197))),
 .rel "us" true (cO (10 * 19)) [(.var 7),(dQ 7 7 190 (kL 7 (190+7)))],
 .tr (.a2 (.bin .eql) (.var 7) (.int .i64 (.ofNat 198))),
 .rel "cop" false (Abs.bU kK kT) [(.var 11),(.var 766)],
 .rel "tr" true Abs.uw [(.a2 (.bin .leq) (dQ 7 7 190 (kL 7 (190+7))) (.int .i64 (.ofNat 40200)))],
 .rel "tr" true Abs.uw [(.a2 (.bin .geq) (dQ 7 7 190 (kL 7 (190+7))) (.int .i64 (.ofNat 0)))],
 .fl (.a2 (.bin .eql) (.var 921) (.a2 (.bin .quo) (.a2 (.bin .mul) (.var 7) (.a2 (.bin .add) (.var 7) (.int .i64 (.ofNat 1)))) (.int .i64 (.ofNat 2)))),
 .rel "uo" false (dh (10 * 19)) [(.var 7),(dQ 7 7 190 (kL 7 (190+7))),(.var 921)],
 .tr (.a2 (.bin .leq) (.var 921) (.int .i64 (.ofNat 80400))),
 .tr (.a2 (.bin .geq) (.var 921) (.int .i64 (.ofNat 0))),
 .fl (.a2 (.bin .eql) (.var 7) (.int .i64 (.ofNat 198))),
 .rel "us" true (cO (10 * 19)) [(.var 7),(dQ 7 8 190 (kL 7 (190+8)))],
 .tr (.a2 (.bin .eql) (.var 7) (.int .i64 (.ofNat 199))),
 .rel "cop" false (Abs.bU kK kT) [(.var 11),(.var 924)],
 .rel "tr" true Abs.uw [(.a2 (.bin .leq) (dQ 7 8 190 (kL 7 (190+8))) (.int .i64 (.ofNat 40200)))],
 .rel "tr" true Abs.uw [(.a2 (.bin .geq) (dQ 7 8 190 (kL 7 (190+8))) (.int .i64 (.ofNat 0)))],
 .fl (.a2 (.bin .eql) (.var 1096) (.a2 (.bin .quo) (.a2 (.bin .mul) (.var 7) (.a2 (.bin .add) (.var 7) (.int .i64 (.ofNat 1)))) (.int .i64 (.ofNat 2)))),
 .rel "uo" false (dh (10 * 19)) [(.var 7),(dQ 7 8 190 (kL 7 (190+8))),(.var 1096)],
 .tr (.a2 (.bin .leq) (.var 1096) (.int .i64 (.ofNat 80400))),
 .tr (.a2 (.bin .geq) (.var 1096) (.int .i64 (.ofNat 0))),
 .fl (.a2 (.bin .eql) (.var 7) (.int .i64 (.ofNat 199))),
 .rel "us" true (cO (10 * 19)) [(.var 7),(dQ 7 9 190 (kL 7 (190+9)))],
 .rel "cop" false (Abs.bU kK kT) [(.var 11),(.var 1082)],
 .rel "tr" true Abs.uw [(.a2 (.bin .leq) (dQ 7 9 190 (kL 7 (190+9))) (.int .i64 (.ofNat 40200)))],
 .rel "tr" true Abs.uw [(.a2 (.bin .geq) (dQ 7 9 190 (kL 7 (190+9))) (.int .i64 (.ofNat 0)))],
 .fl (.a2 (.bin .eql) (.var 1271) (.a2 (.bin .quo) (.a2 (.bin .mul) (.var 7) (.a2 (.bin .add) (.var 7) (.int .i64 (.ofNat 1)))) (.int .i64 (.ofNat 2)))),
 .rel "uo" false (dh (10 * 19)) [(.var 7),(dQ 7 9 190 (kL 7 (190+9))),(.var 1271)],
 .tr (.a2 (.bin .leq) (.var 1271) (.int .i64 (.ofNat 80400))),
 .tr (.a2 (.bin .geq) (.var 1271) (.int .i64 (.ofNat 0)))]:List Abs.Fact).getD i (.tr (.bool true))
noncomputable def aaM:List (List Nat):=[[0,1,2,3,4,5],[6,1,2,3,4,5],[0,1,2,3,4,5],[7,8,9,1,2,3,4,5],[10,8,9,1,2,3,4,5],[11,8,9,1,2,3,4,5],[12,13,14,15,8,9,1,2,3,4,5],[0,16,9,1,2,3,4,5],[6,16,9,1,2,3,4,5],[0,16,9,1,2,3,4,5],[17,18,19,16,9,1,2,3,4,5],[20,18,19,16,9,1,2,3,4,5],[21,18,19,16,9,1,2,3,4,5],[22,23,24,25,18,19,16,9,1,2,3,4,5],[0,26,19,16,9,1,2,3,4,5],[6,26,19,16,9,1,2,3,4,5],[0,26,19,16,9,1,2,3,4,5],[27,28,29,26,19,16,9,1,2,3,4,5],[30,28,29,26,19,16,9,1,2,3,4,5],[31,28,29,26,19,16,9,1,2,3,4,5],[32,33,34,35,28,29,26,19,16,9,1,2,3,4,5],[0,36,29,26,19,16,9,1,2,3,4,5],[6,36,29,26,19,16,9,1,2,3,4,5],[0,36,29,26,19,16,9,1,2,3,4,5],[37,38,39,36,29,26,19,16,9,1,2,3,4,5],[40,38,39,36,29,26,19,16,9,1,2,3,4,5],[41,38,39,36,29,26,19,16,9,1,2,3,4,5],[42,43,44,45,38,39,36,29,26,19,16,9,1,2,3,4,5],[0,46,39,36,29,26,19,16,9,1,2,3,4,5],[6,46,39,36,29,26,19,16,9,1,2,3,4,5],[0,46,39,36,29,26,19,16,9,1,2,3,4,5],[47,48,46,39,36,29,26,19,16,9,1,2,3,4,5],[49,48,46,39,36,29,26,19,16,9,1,2,3,4,5],[50,48,46,39,36,29,26,19,16,9,1,2,3,4,5],[51,52,53,54,48,46,39,36,29,26,19,16,9,1,2,3,4,5]]
theorem adA:Abs.lY (aaM.map fun r=>r.map (abZ)):=
 Abs.gW (F:=abZ) (pats:=[[0,1],[6,2],[7,8],[10,8],[11,8],[12,8,13],[17,18],[20,18],[21,18],[22,18,23],[27,28],[30,28],[31,28],[32,28,33],[37,38],[40,38],[41,38],[42,38,43],[47,3,16,26,36,46,4],[49,3,16,26,36,46,4],[50,3,16,26,36,46,4],[51,52,3,16,26,36,46,4]]) (fun p hp γ h=>by
  simp only [List.mem_cons,List.not_mem_nil,or_false] at hp
  rcases hp with rfl|rfl|rfl|rfl|rfl|rfl|rfl|rfl|rfl|rfl|rfl|rfl|rfl|rfl|rfl|rfl|rfl|rfl|rfl|rfl|rfl|rfl
  ·exact (h 0 (by simp)) (h 1 (by simp))
  ·exact (h 6 (by simp)) (h 2 (by simp))
  ·exact Gg (q:=19) (m:=5) (by omega) (by omega) (by omega) (h 8 (by simp)) (h 7 (by simp))
  ·exact Gh (q:=19) (m:=5) (by omega) (by omega) (by omega) (h 8 (by simp)) (h 10 (by simp))
  ·exact Gi (q:=19) (m:=5) (by omega) (by omega) (by omega) (h 8 (by simp)) (h 11 (by simp))
  ·exact wL (q:=19) (m:=5) (by omega) (by omega) (by omega) (h 8 (by simp)) (h 13 (by simp)) (h 12 (by simp))
  ·exact Gg (q:=19) (m:=6) (by omega) (by omega) (by omega) (h 18 (by simp)) (h 17 (by simp))
  ·exact Gh (q:=19) (m:=6) (by omega) (by omega) (by omega) (h 18 (by simp)) (h 20 (by simp))
  ·exact Gi (q:=19) (m:=6) (by omega) (by omega) (by omega) (h 18 (by simp)) (h 21 (by simp))
  ·exact wL (q:=19) (m:=6) (by omega) (by omega) (by omega) (h 18 (by simp)) (h 23 (by simp)) (h 22 (by simp))
  ·exact Gg (q:=19) (m:=7) (by omega) (by omega) (by omega) (h 28 (by simp)) (h 27 (by simp))
  ·exact Gh (q:=19) (m:=7) (by omega) (by omega) (by omega) (h 28 (by simp)) (h 30 (by simp))
  ·exact Gi (q:=19) (m:=7) (by omega) (by omega) (by omega) (h 28 (by simp)) (h 31 (by simp))
  ·exact wL (q:=19) (m:=7) (by omega) (by omega) (by omega) (h 28 (by simp)) (h 33 (by simp)) (h 32 (by simp))
  ·exact Gg (q:=19) (m:=8) (by omega) (by omega) (by omega) (h 38 (by simp)) (h 37 (by simp))
  ·exact Gh (q:=19) (m:=8) (by omega) (by omega) (by omega) (h 38 (by simp)) (h 40 (by simp))
  ·exact Gi (q:=19) (m:=8) (by omega) (by omega) (by omega) (h 38 (by simp)) (h 41 (by simp))
  ·exact wL (q:=19) (m:=8) (by omega) (by omega) (by omega) (h 38 (by simp)) (h 43 (by simp)) (h 42 (by simp))
  ·exact Gg (q:=19) (m:=9) (by omega) (by omega) (by omega) (a2R (h 3 (by simp)) (h 16 (by simp)) (h 26 (by simp)) (h 36 (by simp)) (h 46 (by simp)) (h 4 (by simp))) (h 47 (by simp))
  ·exact Gh (q:=19) (m:=9) (by omega) (by omega) (by omega) (a2R (h 3 (by simp)) (h 16 (by simp)) (h 26 (by simp)) (h 36 (by simp)) (h 46 (by simp)) (h 4 (by simp))) (h 49 (by simp))
  ·exact Gi (q:=19) (m:=9) (by omega) (by omega) (by omega) (a2R (h 3 (by simp)) (h 16 (by simp)) (h 26 (by simp)) (h 36 (by simp)) (h 46 (by simp)) (h 4 (by simp))) (h 50 (by simp))
  ·exact wL (q:=19) (m:=9) (by omega) (by omega) (by omega) (a2R (h 3 (by simp)) (h 16 (by simp)) (h 26 (by simp)) (h 36 (by simp)) (h 46 (by simp)) (h 4 (by simp))) (h 52 (by simp)) (h 51 (by simp))) (by kernel_rfl)
end Go.Proofs.YtjioppomopfifaaGreatDoor
