/- A part of the proof of ScriptParses: Chk. Conditions: those of each theorem. -/
import Derived.Test.YtokipodjggomfaaGreatDoorScrBase
noncomputable section
set_option linter.unusedVariables false
set_option linter.unusedSimpArgs false
set_option linter.unusedVariables false
set_option linter.unusedSimpArgs false
namespace Go.Proofs.YtokipodjggomfaaGreatDoor
open Go
theorem kHB:kB<=1000000:=bq (by kernel_rfl)
theorem a7M:kB<=60000:=bq (by kernel_rfl)
def a1z(N M:Nat):Nat->Abs.Fact:=λi=>([
 .rel "out" false Abs.jg [(.var 17),(.a1 .len (.var 16))],
 .tr (.a2 (.bin .geq) (.var 17) (.int .i64 (.ofNat 0))),
 .rel "ty" false (Abs.bM (.int .i64)) [(.var 17)],
 .rel "ty" false (Abs.bM (.sl ah)) [(.var 16)],
 .rel "back" false (Abs.e8 kK ah (N+1) M) [(.var 13),(.var 15),(.var 16),(.var 17)],
 .rel "grow" false (Abs.eL 4 56 1) [(.var 15),(.var 13)],
 .rel "back" true (Abs.e8 kK ah N M) [(.a2 (.bin .add) (.var 13) (.int .i64 (.ofNat 1))),(.a2 .sn (.a2 .sn (.a2 .sn (.a2 .sn (.a2 (.tk 4) (.var 15) (.var 13)) (.a1 (.ld 0) (.a2 .el (.var 16) (.var 17)))) (.a1 (.ld 1) (.a2 .el (.var 16) (.var 17)))) (.a1 (.ld 2) (.a2 .el (.var 16) (.var 17)))) (.a1 (.ld 3) (.a2 .el (.var 16) (.var 17)))),(.var 16),(.a2 (.bin .sub) (.var 17) (.int .i64 (.ofNat 1)))],
 .inr (.var 13) (.a2 (.bin .add) (.var 13) (.int .i64 (.ofNat 1))),
 .rel "left" true (Abs.b9 kK ah M) [(.var 23),(.var 25)],
 .rel "left" false (Abs.b9 kK ah M) [(.var 23),(.var 25)],
 .rel "app" false (Abs.jz kK ah) [(.var 23),(.var 25),(.a2 (.bin .add) (.var 13) (.int .i64 (.ofNat 1))),(.a2 .sn (.a2 .sn (.a2 .sn (.a2 .sn (.a2 (.tk 4) (.var 15) (.var 13)) (.a1 (.ld 0) (.a2 .el (.var 16) (.var 17)))) (.a1 (.ld 1) (.a2 .el (.var 16) (.var 17)))) (.a1 (.ld 2) (.a2 .el (.var 16) (.var 17)))) (.a1 (.ld 3) (.a2 .el (.var 16) (.var 17)))),(.var 16),(.a2 (.bin .sub) (.var 17) (.int .i64 (.ofNat 1)))],
 .rel "app" true (Abs.jz kK ah) [(.var 23),(.var 25),(.var 13),(.var 15),(.var 16),(.var 17)],
 .rel "left" true (Abs.b9 kK ah M) [(.var 22),(.var 24)],
 .rel "left" false (Abs.b9 kK ah M) [(.var 22),(.var 24)],
 .rel "app" false (Abs.jz kK ah) [(.var 22),(.var 24),(.a2 (.bin .add) (.var 13) (.int .i64 (.ofNat 1))),(.a2 .sn (.a2 .sn (.a2 .sn (.a2 .sn (.a2 (.tk 4) (.var 15) (.var 13)) (.a1 (.ld 0) (.a2 .el (.var 16) (.var 17)))) (.a1 (.ld 1) (.a2 .el (.var 16) (.var 17)))) (.a1 (.ld 2) (.a2 .el (.var 16) (.var 17)))) (.a1 (.ld 3) (.a2 .el (.var 16) (.var 17)))),(.var 16),(.a2 (.bin .sub) (.var 17) (.int .i64 (.ofNat 1)))],
 .rel "app" true (Abs.jz kK ah) [(.var 22),(.var 24),(.var 13),(.var 15),(.var 16),(.var 17)],
 .rel "left" true (Abs.b9 kK ah M) [(.var 13),(.var 15)],
 .fl (.a2 (.bin .geq) (.var 17) (.int .i64 (.ofNat 0))),
 .rel "app" true (Abs.jz kK ah) [(.var 13),(.var 15),(.var 13),(.var 15),(.var 16),(.var 17)]]:List Abs.Fact).getD i (.tr (.bool true))
def a3y:List (List Nat):=[[0,1,2,3,4],[5,1,2,3,4],[6,7,1,2,3,4],[8,9,10,7,1,2,3,4],[11,9,10,7,1,2,3,4],[12,13,14,7,1,2,3,4],[15,13,14,7,1,2,3,4],[16,17,2,3,4],[18,17,2,3,4]]
set_option maxRecDepth 100000 in
theorem Wq(N M:Nat)(tl:List Deferred):Abs.R.res (λ_=>true) ((Abs.zu (wY [Abs.fc Tryz.prog kC "back" (Abs.e8 kK ah N M) (Abs.b9 kK ah M) (Abs.jz kK ah)] []) 1000000 ((Abs.fc Tryz.prog kC "back" (Abs.e8 kK ah (N+1) M) (Abs.b9 kK ah M) (Abs.jz kK ah)).fi tl) (Abs.fc Tryz.prog kC "back" (Abs.e8 kK ah (N+1) M) (Abs.b9 kK ah M) (Abs.jz kK ah)).tr (Abs.fc Tryz.prog kC "back" (Abs.e8 kK ah (N+1) M) (Abs.b9 kK ah M) (Abs.jz kK ah)).todo [] .run none (Abs.fc Tryz.prog kC "back" (Abs.e8 kK ah (N+1) M) (Abs.b9 kK ah M) (Abs.jz kK ah)).S2).bind (Abs.pG (wY [Abs.fc Tryz.prog kC "back" (Abs.e8 kK ah N M) (Abs.b9 kK ah M) (Abs.jz kK ah)] []) (Abs.fc Tryz.prog kC "back" (Abs.e8 kK ah (N+1) M) (Abs.b9 kK ah M) (Abs.jz kK ah))))=some (a3y.map λr=>r.map (a1z N M)):=by kernel_rfl
theorem Su{M:Nat}(a:M<=1073741824)(N:Nat)(d:Abs.eb Tryz.prog (Abs.fc Tryz.prog kC "back" (Abs.e8 kK ah N M) (Abs.b9 kK ah M) (Abs.jz kK ah))):Abs.eb Tryz.prog (Abs.fc Tryz.prog kC "back" (Abs.e8 kK ah (N+1) M) (Abs.b9 kK ah M) (Abs.jz kK ah)):=Abs.yu (Cp (λ_ h=>by cases h) (λc h=>by cases h with|head=>exact d|tail _ h=>cases h)) uD _ 1000000 (Wq N M)
 (Abs.nJ (F:=a1z N M) (L7:=[[0,1,4],[5,4],[6,1,4],[8,9],[11,10,1,4],[12,13],[15,14,1,4],[16,4],[18,17,4]]) (λp b E h=>by
   simp only[bQ,eE,er]at b;rcases b with rfl|rfl|rfl|rfl|rfl|rfl|rfl|rfl|rfl
   .exact Abs.W5 (h 4 (by simp)) (h 1 (by simp)) (h 0 (by simp))
   .exact Abs.SM a (by omega) (h 4 (by simp)) (h 5 (by simp))
   .exact Abs.SL iN a (h 4 (by simp)) (h 1 (by simp)) (h 6 (by simp))
   .exact(h 8 (by simp)) (h 9 (by simp))
   .exact Abs.K0 iN a (h 4 (by simp)) (h 1 (by simp)) (h 10 (by simp)) (h 11 (by simp))
   .exact(h 12 (by simp)) (h 13 (by simp))
   .exact Abs.K0 iN a (h 4 (by simp)) (h 1 (by simp)) (h 14 (by simp)) (h 15 (by simp))
   .exact Abs.W6 (h 4 (by simp)) (h 16 (by simp))
   .exact Abs.a0w (h 4 (by simp)) (h 17 (by simp)) (h 18 (by simp))) (by kernel_rfl))
set_option maxRecDepth 100000 in
theorem ZS{M:Nat}(a:M<=1073741824)(N:Nat):Abs.eb Tryz.prog (Abs.fc Tryz.prog kC "back" (Abs.e8 kK ah N M) (Abs.b9 kK ah M) (Abs.jz kK ah)):=Abs.GL (c:=λN=>Abs.fc Tryz.prog kC "back" (Abs.e8 kK ah N M) (Abs.b9 kK ah M) (Abs.jz kK ah)) (B:=N) (Abs.oo λ_ b=>Abs.SJ (b _ aV)) (λn _ h=>Su a n h) N (aX _)
def a1y(N:Nat):Nat->Abs.Fact:=λi=>([
 .rel "out" false Abs.jg [(.a2 (.bin .sub) (.var 14) (.int .i64 (.ofNat 1))),(.var 14)],
 .tr (.a2 (.bin .gtr) (.var 14) (.int .i64 (.ofNat 0))),
 .rel "ty" false (Abs.bM (.int .i64)) [(.var 17)],
 .rel "parts" false (Abs.b9 kK ah (N+1)) [(.var 14),(.var 16)],
 .rel "snd" false (Abs.my kK ah) [(.var 14),(.var 16)],
 .rel "wrd" false (Abs.kG kK ah) [(.var 17),(.var 14),(.var 16)],
 .rel "hole" false (Abs.BX 4) [(.var 16),(.a2 (.bin .sub) (.var 14) (.int .i64 (.ofNat 1)))],
 .rel "cut" false Abs.Mg [(.int .i64 (.ofNat 0)),(.a2 (.bin .sub) (.var 14) (.int .i64 (.ofNat 1))),(.var 14)],
 .rel "back" true (Abs.e8 kK ah 1073741824 N) [(.a2 (.bin .sub) (.var 14) (.int .i64 (.ofNat 1))),(.var 16),(.a2 (.at 4 3) (.var 16) (.a2 (.bin .sub) (.var 14) (.int .i64 (.ofNat 1)))),(.a2 (.bin .sub) (.a1 .len (.a2 (.at 4 3) (.var 16) (.a2 (.bin .sub) (.var 14) (.int .i64 (.ofNat 1))))) (.int .i64 (.ofNat 1)))],
 .tr (.a2 (.bin .eql) (.a1 .len (.a2 (.at 4 3) (.var 16) (.a2 (.bin .sub) (.var 14) (.int .i64 (.ofNat 1))))) (.int .i64 (.ofNat 0))),
 .tr (.a2 (.bin .eql) (.a2 (.at 4 2) (.var 16) (.a2 (.bin .sub) (.var 14) (.int .i64 (.ofNat 1)))) (.str [])),
 .tr (.a2 (.bin .leq) (.a2 (.at 4 1) (.var 16) (.a2 (.bin .sub) (.var 14) (.int .i64 (.ofNat 1)))) (.int .i64 (.ofNat 576460752303423487))),
 .tr (.a2 (.bin .geq) (.a2 (.at 4 1) (.var 16) (.a2 (.bin .sub) (.var 14) (.int .i64 (.ofNat 1)))) (.int .i64 (.negSucc 576460752303423487))),
 .tr (.a2 (.bin .eql) (.a2 (.at 4 0) (.var 16) (.a2 (.bin .sub) (.var 14) (.int .i64 (.ofNat 1)))) (.int .i64 (.ofNat 1))),
 .rel "parts" true (Abs.b9 kK ah N) [(.var 26),(.var 28)],
 .rel "left" false (Abs.b9 kK ah N) [(.var 26),(.var 28)],
 .rel "app" false (Abs.jz kK ah) [(.var 26),(.var 28),(.a2 (.bin .sub) (.var 14) (.int .i64 (.ofNat 1))),(.var 16),(.a2 (.at 4 3) (.var 16) (.a2 (.bin .sub) (.var 14) (.int .i64 (.ofNat 1)))),(.a2 (.bin .sub) (.a1 .len (.a2 (.at 4 3) (.var 16) (.a2 (.bin .sub) (.var 14) (.int .i64 (.ofNat 1))))) (.int .i64 (.ofNat 1)))],
 .rel "snd" true (Abs.my kK ah) [(.var 26),(.var 28)],
 .rel "wrd" true (Abs.kG kK ah) [(.a2 (.bin .add) (.var 17) (.int .i64 (.ofNat 1))),(.var 26),(.var 28)],
 .rel "wrds" true (Abs.fk kK ah) [(.var 29),(.var 17),(.var 14),(.var 16)],
 .rel "wrds" false (Abs.fk kK ah) [(.var 29),(.a2 (.bin .add) (.var 17) (.int .i64 (.ofNat 1))),(.var 26),(.var 28)],
 .rel "parts" true (Abs.b9 kK ah N) [(.var 25),(.var 27)],
 .rel "left" false (Abs.b9 kK ah N) [(.var 25),(.var 27)],
 .rel "app" false (Abs.jz kK ah) [(.var 25),(.var 27),(.a2 (.bin .sub) (.var 14) (.int .i64 (.ofNat 1))),(.var 16),(.a2 (.at 4 3) (.var 16) (.a2 (.bin .sub) (.var 14) (.int .i64 (.ofNat 1)))),(.a2 (.bin .sub) (.a1 .len (.a2 (.at 4 3) (.var 16) (.a2 (.bin .sub) (.var 14) (.int .i64 (.ofNat 1))))) (.int .i64 (.ofNat 1)))],
 .rel "snd" true (Abs.my kK ah) [(.var 25),(.var 27)],
 .rel "wrd" true (Abs.kG kK ah) [(.a2 (.bin .add) (.var 17) (.int .i64 (.ofNat 1))),(.var 25),(.var 27)],
 .rel "wrds" true (Abs.fk kK ah) [(.var 28),(.var 17),(.var 14),(.var 16)],
 .rel "wrds" false (Abs.fk kK ah) [(.var 28),(.a2 (.bin .add) (.var 17) (.int .i64 (.ofNat 1))),(.var 25),(.var 27)],
 .fl (.a2 (.bin .eql) (.a1 .len (.a2 (.at 4 3) (.var 16) (.a2 (.bin .sub) (.var 14) (.int .i64 (.ofNat 1))))) (.int .i64 (.ofNat 0))),
 .fl (.a2 (.bin .eql) (.a2 (.at 4 2) (.var 16) (.a2 (.bin .sub) (.var 14) (.int .i64 (.ofNat 1)))) (.str [])),
 .fl (.a2 (.bin .leq) (.a2 (.at 4 1) (.var 16) (.a2 (.bin .sub) (.var 14) (.int .i64 (.ofNat 1)))) (.int .i64 (.ofNat 576460752303423487))),
 .fl (.a2 (.bin .geq) (.a2 (.at 4 1) (.var 16) (.a2 (.bin .sub) (.var 14) (.int .i64 (.ofNat 1)))) (.int .i64 (.negSucc 576460752303423487))),
 .tr (.a2 (.bin .leq) (.a1 .len (.a2 (.at 4 2) (.var 16) (.a2 (.bin .sub) (.var 14) (.int .i64 (.ofNat 1))))) (.int .i64 (.ofNat 64))),
 .tr (.a2 (.bin .eql) (.a2 (.at 4 1) (.var 16) (.a2 (.bin .sub) (.var 14) (.int .i64 (.ofNat 1)))) (.int .i64 (.ofNat 0))),
 .tr (.a2 (.bin .eql) (.a2 (.at 4 0) (.var 16) (.a2 (.bin .sub) (.var 14) (.int .i64 (.ofNat 1)))) (.int .i64 (.ofNat 2))),
 .fl (.a2 (.bin .eql) (.a2 (.at 4 0) (.var 16) (.a2 (.bin .sub) (.var 14) (.int .i64 (.ofNat 1)))) (.int .i64 (.ofNat 1))),
 .fl (.a2 (.bin .leq) (.a1 .len (.a2 (.at 4 2) (.var 16) (.a2 (.bin .sub) (.var 14) (.int .i64 (.ofNat 1))))) (.int .i64 (.ofNat 64))),
 .fl (.a2 (.bin .eql) (.a2 (.at 4 1) (.var 16) (.a2 (.bin .sub) (.var 14) (.int .i64 (.ofNat 1)))) (.int .i64 (.ofNat 0))),
 .tr (.a2 (.bin .leq) (.a2 (.at 4 1) (.var 16) (.a2 (.bin .sub) (.var 14) (.int .i64 (.ofNat 1)))) (.int .i64 (.ofNat 1073741824))),
 .tr (.a2 (.bin .geq) (.a2 (.at 4 1) (.var 16) (.a2 (.bin .sub) (.var 14) (.int .i64 (.ofNat 1)))) (.int .i64 (.ofNat 0))),
 .tr (.a2 (.bin .eql) (.a2 (.at 4 0) (.var 16) (.a2 (.bin .sub) (.var 14) (.int .i64 (.ofNat 1)))) (.int .i64 (.ofNat 3))),
 .fl (.a2 (.bin .eql) (.a2 (.at 4 0) (.var 16) (.a2 (.bin .sub) (.var 14) (.int .i64 (.ofNat 1)))) (.int .i64 (.ofNat 2))),
 .fl (.a2 (.bin .leq) (.a2 (.at 4 1) (.var 16) (.a2 (.bin .sub) (.var 14) (.int .i64 (.ofNat 1)))) (.int .i64 (.ofNat 1073741824))),
 .fl (.a2 (.bin .geq) (.a2 (.at 4 1) (.var 16) (.a2 (.bin .sub) (.var 14) (.int .i64 (.ofNat 1)))) (.int .i64 (.ofNat 0))),
 .tr (.a2 (.bin .eql) (.a2 (.at 4 0) (.var 16) (.a2 (.bin .sub) (.var 14) (.int .i64 (.ofNat 1)))) (.int .i64 (.ofNat 4))),
 .fl (.a2 (.bin .eql) (.a2 (.at 4 0) (.var 16) (.a2 (.bin .sub) (.var 14) (.int .i64 (.ofNat 1)))) (.int .i64 (.ofNat 3))),
 .tr (.a2 (.bin .eql) (.a2 (.at 4 0) (.var 16) (.a2 (.bin .sub) (.var 14) (.int .i64 (.ofNat 1)))) (.int .i64 (.ofNat 6))),
 .fl (.a2 (.bin .eql) (.a2 (.at 4 0) (.var 16) (.a2 (.bin .sub) (.var 14) (.int .i64 (.ofNat 1)))) (.int .i64 (.ofNat 4))),
 .tr (.a2 (.bin .eql) (.a2 (.at 4 0) (.var 16) (.a2 (.bin .sub) (.var 14) (.int .i64 (.ofNat 1)))) (.int .i64 (.ofNat 5))),
 .fl (.a2 (.bin .eql) (.a2 (.at 4 0) (.var 16) (.a2 (.bin .sub) (.var 14) (.int .i64 (.ofNat 1)))) (.int .i64 (.ofNat 6))),
 .rel "wrd" true (Abs.kG kK ah) [(.a2 (.bin .add) (.var 17) (.int .i64 (.ofNat 2))),(.var 26),(.var 28)],
 .rel "wrds" false (Abs.fk kK ah) [(.var 29),(.a2 (.bin .add) (.var 17) (.int .i64 (.ofNat 2))),(.var 26),(.var 28)],
 .rel "wrd" true (Abs.kG kK ah) [(.a2 (.bin .add) (.var 17) (.int .i64 (.ofNat 2))),(.var 25),(.var 27)],
 .rel "wrds" false (Abs.fk kK ah) [(.var 28),(.a2 (.bin .add) (.var 17) (.int .i64 (.ofNat 2))),(.var 25),(.var 27)],
 .tr (.a2 (.bin .leq) (.a1 .len (.a2 (.at 4 3) (.var 16) (.a2 (.bin .sub) (.var 14) (.int .i64 (.ofNat 1))))) (.int .i64 (.ofNat 64))),
 .fl (.a2 (.bin .leq) (.a1 .len (.a2 (.at 4 3) (.var 16) (.a2 (.bin .sub) (.var 14) (.int .i64 (.ofNat 1))))) (.int .i64 (.ofNat 64))),
 .tr (.a2 (.bin .eql) (.a2 (.at 4 0) (.var 16) (.a2 (.bin .sub) (.var 14) (.int .i64 (.ofNat 1)))) (.int .i64 (.ofNat 7))),
 .fl (.a2 (.bin .eql) (.a2 (.at 4 0) (.var 16) (.a2 (.bin .sub) (.var 14) (.int .i64 (.ofNat 1)))) (.int .i64 (.ofNat 5))),
 .tr (.a2 (.bin .eql) (.a2 (.at 4 0) (.var 16) (.a2 (.bin .sub) (.var 14) (.int .i64 (.ofNat 1)))) (.int .i64 (.ofNat 8))),
 .fl (.a2 (.bin .eql) (.a2 (.at 4 0) (.var 16) (.a2 (.bin .sub) (.var 14) (.int .i64 (.ofNat 1)))) (.int .i64 (.ofNat 7))),
 .tr (.a2 (.bin .eql) (.a1 .len (.a2 (.at 4 3) (.var 16) (.a2 (.bin .sub) (.var 14) (.int .i64 (.ofNat 1))))) (.int .i64 (.ofNat 2))),
 .tr (.a2 (.bin .eql) (.a2 (.at 4 0) (.var 16) (.a2 (.bin .sub) (.var 14) (.int .i64 (.ofNat 1)))) (.int .i64 (.ofNat 9))),
 .fl (.a2 (.bin .eql) (.a2 (.at 4 0) (.var 16) (.a2 (.bin .sub) (.var 14) (.int .i64 (.ofNat 1)))) (.int .i64 (.ofNat 8))),
 .fl (.a2 (.bin .eql) (.a1 .len (.a2 (.at 4 3) (.var 16) (.a2 (.bin .sub) (.var 14) (.int .i64 (.ofNat 1))))) (.int .i64 (.ofNat 2))),
 .fl (.a2 (.bin .eql) (.a2 (.at 4 0) (.var 16) (.a2 (.bin .sub) (.var 14) (.int .i64 (.ofNat 1)))) (.int .i64 (.ofNat 9))),
 .rel "wrds" true (Abs.fk kK ah) [(.var 17),(.var 17),(.var 14),(.var 16)],
 .fl (.a2 (.bin .gtr) (.var 14) (.int .i64 (.ofNat 0)))]:List Abs.Fact).getD i (.tr (.bool true))
def a3x:List (List Nat):=[[0,1,2,3,4,5],[6,1,2,3,4,5],[7,1,2,3,4,5],[8,9,10,11,12,13,1,2,3,4,5],[14,15,16,9,10,11,12,13,1,2,3,4,5],[17,15,16,9,10,11,12,13,1,2,3,4,5],[18,15,16,9,10,11,12,13,1,2,3,4,5],[19,20,15,16,9,10,11,12,13,1,2,3,4,5],[21,22,23,9,10,11,12,13,1,2,3,4,5],[24,22,23,9,10,11,12,13,1,2,3,4,5],[25,22,23,9,10,11,12,13,1,2,3,4,5],[26,27,22,23,9,10,11,12,13,1,2,3,4,5],[28,10,11,12,13,1,2,3,4,5],[29,11,12,13,1,2,3,4,5],[30,12,13,1,2,3,4,5],[31,13,1,2,3,4,5],[8,9,32,33,34,35,1,2,3,4,5],[14,15,16,9,32,33,34,35,1,2,3,4,5],[17,15,16,9,32,33,34,35,1,2,3,4,5],[18,15,16,9,32,33,34,35,1,2,3,4,5],[19,20,15,16,9,32,33,34,35,1,2,3,4,5],[21,22,23,9,32,33,34,35,1,2,3,4,5],[24,22,23,9,32,33,34,35,1,2,3,4,5],[25,22,23,9,32,33,34,35,1,2,3,4,5],[26,27,22,23,9,32,33,34,35,1,2,3,4,5],[28,32,33,34,35,1,2,3,4,5],[36,33,34,35,1,2,3,4,5],[37,34,35,1,2,3,4,5],[8,9,10,38,39,40,41,35,1,2,3,4,5],[14,15,16,9,10,38,39,40,41,35,1,2,3,4,5],[17,15,16,9,10,38,39,40,41,35,1,2,3,4,5],[18,15,16,9,10,38,39,40,41,35,1,2,3,4,5],[19,20,15,16,9,10,38,39,40,41,35,1,2,3,4,5],[21,22,23,9,10,38,39,40,41,35,1,2,3,4,5],[24,22,23,9,10,38,39,40,41,35,1,2,3,4,5],[25,22,23,9,10,38,39,40,41,35,1,2,3,4,5],[26,27,22,23,9,10,38,39,40,41,35,1,2,3,4,5],[28,10,38,39,40,41,35,1,2,3,4,5],[29,38,39,40,41,35,1,2,3,4,5],[42,39,40,41,35,1,2,3,4,5],[43,40,41,35,1,2,3,4,5],[8,9,10,38,39,44,45,41,35,1,2,3,4,5],[14,15,16,9,10,38,39,44,45,41,35,1,2,3,4,5],[17,15,16,9,10,38,39,44,45,41,35,1,2,3,4,5],[18,15,16,9,10,38,39,44,45,41,35,1,2,3,4,5],[19,20,15,16,9,10,38,39,44,45,41,35,1,2,3,4,5],[21,22,23,9,10,38,39,44,45,41,35,1,2,3,4,5],[24,22,23,9,10,38,39,44,45,41,35,1,2,3,4,5],[25,22,23,9,10,38,39,44,45,41,35,1,2,3,4,5],[26,27,22,23,9,10,38,39,44,45,41,35,1,2,3,4,5],[28,10,38,39,44,45,41,35,1,2,3,4,5],[29,38,39,44,45,41,35,1,2,3,4,5],[42,39,44,45,41,35,1,2,3,4,5],[43,44,45,41,35,1,2,3,4,5],[8,9,10,38,39,46,47,45,41,35,1,2,3,4,5],[14,15,16,9,10,38,39,46,47,45,41,35,1,2,3,4,5],[17,15,16,9,10,38,39,46,47,45,41,35,1,2,3,4,5],[18,15,16,9,10,38,39,46,47,45,41,35,1,2,3,4,5],[19,20,15,16,9,10,38,39,46,47,45,41,35,1,2,3,4,5],[21,22,23,9,10,38,39,46,47,45,41,35,1,2,3,4,5],[24,22,23,9,10,38,39,46,47,45,41,35,1,2,3,4,5],[25,22,23,9,10,38,39,46,47,45,41,35,1,2,3,4,5],[26,27,22,23,9,10,38,39,46,47,45,41,35,1,2,3,4,5],[28,10,38,39,46,47,45,41,35,1,2,3,4,5],[29,38,39,46,47,45,41,35,1,2,3,4,5],[42,39,46,47,45,41,35,1,2,3,4,5],[43,46,47,45,41,35,1,2,3,4,5],[8,9,10,38,39,48,49,47,45,41,35,1,2,3,4,5],[14,15,16,9,10,38,39,48,49,47,45,41,35,1,2,3,4,5],[17,15,16,9,10,38,39,48,49,47,45,41,35,1,2,3,4,5],[50,15,16,9,10,38,39,48,49,47,45,41,35,1,2,3,4,5],[19,51,15,16,9,10,38,39,48,49,47,45,41,35,1,2,3,4,5],[21,22,23,9,10,38,39,48,49,47,45,41,35,1,2,3,4,5],[24,22,23,9,10,38,39,48,49,47,45,41,35,1,2,3,4,5],[52,22,23,9,10,38,39,48,49,47,45,41,35,1,2,3,4,5],[26,53,22,23,9,10,38,39,48,49,47,45,41,35,1,2,3,4,5],[8,54,28,10,38,39,48,49,47,45,41,35,1,2,3,4,5],[14,15,16,54,28,10,38,39,48,49,47,45,41,35,1,2,3,4,5],[17,15,16,54,28,10,38,39,48,49,47,45,41,35,1,2,3,4,5],[50,15,16,54,28,10,38,39,48,49,47,45,41,35,1,2,3,4,5],[19,51,15,16,54,28,10,38,39,48,49,47,45,41,35,1,2,3,4,5],[21,22,23,54,28,10,38,39,48,49,47,45,41,35,1,2,3,4,5],[24,22,23,54,28,10,38,39,48,49,47,45,41,35,1,2,3,4,5],[52,22,23,54,28,10,38,39,48,49,47,45,41,35,1,2,3,4,5],[26,53,22,23,54,28,10,38,39,48,49,47,45,41,35,1,2,3,4,5],[55,28,10,38,39,48,49,47,45,41,35,1,2,3,4,5],[29,38,39,48,49,47,45,41,35,1,2,3,4,5],[42,39,48,49,47,45,41,35,1,2,3,4,5],[43,48,49,47,45,41,35,1,2,3,4,5],[8,54,10,33,56,57,49,47,45,41,35,1,2,3,4,5],[14,15,16,54,10,33,56,57,49,47,45,41,35,1,2,3,4,5],[17,15,16,54,10,33,56,57,49,47,45,41,35,1,2,3,4,5],[50,15,16,54,10,33,56,57,49,47,45,41,35,1,2,3,4,5],[19,51,15,16,54,10,33,56,57,49,47,45,41,35,1,2,3,4,5],[21,22,23,54,10,33,56,57,49,47,45,41,35,1,2,3,4,5],[24,22,23,54,10,33,56,57,49,47,45,41,35,1,2,3,4,5],[52,22,23,54,10,33,56,57,49,47,45,41,35,1,2,3,4,5],[26,53,22,23,54,10,33,56,57,49,47,45,41,35,1,2,3,4,5],[55,10,33,56,57,49,47,45,41,35,1,2,3,4,5],[29,33,56,57,49,47,45,41,35,1,2,3,4,5],[37,56,57,49,47,45,41,35,1,2,3,4,5],[8,9,10,33,58,59,57,49,47,45,41,35,1,2,3,4,5],[14,15,16,9,10,33,58,59,57,49,47,45,41,35,1,2,3,4,5],[17,15,16,9,10,33,58,59,57,49,47,45,41,35,1,2,3,4,5],[18,15,16,9,10,33,58,59,57,49,47,45,41,35,1,2,3,4,5],[19,20,15,16,9,10,33,58,59,57,49,47,45,41,35,1,2,3,4,5],[21,22,23,9,10,33,58,59,57,49,47,45,41,35,1,2,3,4,5],[24,22,23,9,10,33,58,59,57,49,47,45,41,35,1,2,3,4,5],[25,22,23,9,10,33,58,59,57,49,47,45,41,35,1,2,3,4,5],[26,27,22,23,9,10,33,58,59,57,49,47,45,41,35,1,2,3,4,5],[28,10,33,58,59,57,49,47,45,41,35,1,2,3,4,5],[29,33,58,59,57,49,47,45,41,35,1,2,3,4,5],[37,58,59,57,49,47,45,41,35,1,2,3,4,5],[8,60,10,33,61,62,59,57,49,47,45,41,35,1,2,3,4,5],[14,15,16,60,10,33,61,62,59,57,49,47,45,41,35,1,2,3,4,5],[17,15,16,60,10,33,61,62,59,57,49,47,45,41,35,1,2,3,4,5],[18,15,16,60,10,33,61,62,59,57,49,47,45,41,35,1,2,3,4,5],[19,20,15,16,60,10,33,61,62,59,57,49,47,45,41,35,1,2,3,4,5],[21,22,23,60,10,33,61,62,59,57,49,47,45,41,35,1,2,3,4,5],[24,22,23,60,10,33,61,62,59,57,49,47,45,41,35,1,2,3,4,5],[25,22,23,60,10,33,61,62,59,57,49,47,45,41,35,1,2,3,4,5],[26,27,22,23,60,10,33,61,62,59,57,49,47,45,41,35,1,2,3,4,5],[63,10,33,61,62,59,57,49,47,45,41,35,1,2,3,4,5],[29,33,61,62,59,57,49,47,45,41,35,1,2,3,4,5],[37,61,62,59,57,49,47,45,41,35,1,2,3,4,5],[64,62,59,57,49,47,45,41,35,1,2,3,4,5],[65,66,2,3,4,5]]
set_option maxRecDepth 100000 in
theorem Wo(N:Nat)(tl:List Deferred):Abs.R.res (λ_=>true) ((Abs.zu (wY [Abs.ed Tryz.prog kC "parts" (Abs.b9 kK ah N) (Abs.my kK ah) (Abs.kG kK ah) (Abs.fk kK ah),Abs.fc Tryz.prog kC "back" (Abs.e8 kK ah 1073741824 N) (Abs.b9 kK ah N) (Abs.jz kK ah)] []) 1000000 ((Abs.ed Tryz.prog kC "parts" (Abs.b9 kK ah (N+1)) (Abs.my kK ah) (Abs.kG kK ah) (Abs.fk kK ah)).fi tl) (Abs.ed Tryz.prog kC "parts" (Abs.b9 kK ah (N+1)) (Abs.my kK ah) (Abs.kG kK ah) (Abs.fk kK ah)).tr (Abs.ed Tryz.prog kC "parts" (Abs.b9 kK ah (N+1)) (Abs.my kK ah) (Abs.kG kK ah) (Abs.fk kK ah)).todo [] .run none (Abs.ed Tryz.prog kC "parts" (Abs.b9 kK ah (N+1)) (Abs.my kK ah) (Abs.kG kK ah) (Abs.fk kK ah)).S2).bind (Abs.pG (wY [Abs.ed Tryz.prog kC "parts" (Abs.b9 kK ah N) (Abs.my kK ah) (Abs.kG kK ah) (Abs.fk kK ah),Abs.fc Tryz.prog kC "back" (Abs.e8 kK ah 1073741824 N) (Abs.b9 kK ah N) (Abs.jz kK ah)] []) (Abs.ed Tryz.prog kC "parts" (Abs.b9 kK ah (N+1)) (Abs.my kK ah) (Abs.kG kK ah) (Abs.fk kK ah))))=some (a3x.map λr=>r.map (a1y N)):=by kernel_rfl
theorem Ss{N:Nat}(e:N+1<=1073741824)(Q:Abs.eb Tryz.prog (Abs.ed Tryz.prog kC "parts" (Abs.b9 kK ah N) (Abs.my kK ah) (Abs.kG kK ah) (Abs.fk kK ah))):Abs.eb Tryz.prog (Abs.ed Tryz.prog kC "parts" (Abs.b9 kK ah (N+1)) (Abs.my kK ah) (Abs.kG kK ah) (Abs.fk kK ah)):=Abs.yu (Cp (λ_ h=>by cases h) (λc h=>by cases h with|head=>exact Q|tail _ h=>cases h with|head=>exact ZS (by omega) _|tail _ h=>cases h)) uD _ 1000000 (Wo N)
 (Abs.nJ (F:=a1y N) (L7:=[[0,1,3],[6,1,3],[7,1,3],[8,1,3],[14,15],[17,16,1,3,4],[18,16,1,3,5],[19,20,16,1,3,5],[21,22],[24,23,1,3,4],[25,23,1,3,5],[26,27,23,1,3,5],[1,3,4,28,10,11,12,13],[1,3,4,29,11,12,13],[1,3,4,30,12,13],[1,3,4,31,13],[1,3,4,28,32,33,34,35],[1,3,4,36,33,34,35],[1,3,4,37,34,35],[1,3,4,28,10,38,39,40,41,35],[1,3,4,29,38,39,40,41,35],[1,3,4,42,39,40,41,35],[1,3,4,43,40,41,35],[1,3,4,28,10,38,39,44,45,41,35],[1,3,4,29,38,39,44,45,41,35],[1,3,4,42,39,44,45,41,35],[1,3,4,43,44,45,41,35],[1,3,4,28,10,38,39,46,47,45,41,35],[1,3,4,29,38,39,46,47,45,41,35],[1,3,4,42,39,46,47,45,41,35],[1,3,4,43,46,47,45,41,35],[50,16,1,3,5],[19,51,16,1,3,5],[52,23,1,3,5],[26,53,23,1,3,5],[1,3,4,55,28,10,38,39,48,49,47,45,41,35],[1,3,4,29,38,39,48,49,47,45,41,35],[1,3,4,42,39,48,49,47,45,41,35],[1,3,4,43,48,49,47,45,41,35],[1,3,4,55,10,33,56,57,49,47,45,41,35],[1,3,4,29,33,56,57,49,47,45,41,35],[1,3,4,37,56,57,49,47,45,41,35],[1,3,4,28,10,33,58,59,57,49,47,45,41,35],[1,3,4,29,33,58,59,57,49,47,45,41,35],[1,3,4,37,58,59,57,49,47,45,41,35],[1,3,4,63,10,33,61,62,59,57,49,47,45,41,35],[1,3,4,29,33,61,62,59,57,49,47,45,41,35],[1,3,4,37,61,62,59,57,49,47,45,41,35],[1,3,4,64,62,59,57,49,47,45,41,35],[65,5]]) (λp P E h=>by
   simp only[bQ,eE,er]at P;rcases P with rfl|rfl|rfl|rfl|rfl|rfl|rfl|rfl|rfl|rfl|rfl|rfl|rfl|rfl|rfl|rfl|rfl|rfl|rfl|rfl|rfl|rfl|rfl|rfl|rfl|rfl|rfl|rfl|rfl|rfl|rfl|rfl|rfl|rfl|rfl|rfl|rfl|rfl|rfl|rfl|rfl|rfl|rfl|rfl|rfl|rfl|rfl|rfl|rfl|rfl
   .exact Abs.RD e (h 3 (by simp)) (h 1 (by simp)) (h 0 (by simp))
   .exact Abs.Md e (h 3 (by simp)) (h 1 (by simp)) (h 6 (by simp))
   .exact Abs.RE e (h 3 (by simp)) (h 1 (by simp)) (h 7 (by simp))
   .exact Abs.Me iN e (aX _) (h 3 (by simp)) (h 1 (by simp)) (h 8 (by simp))
   .exact(h 14 (by simp)) (h 15 (by simp))
   .exact Abs.D9 iN e (h 3 (by simp)) (h 1 (by simp)) (h 16 (by simp)) (h 4 (by simp)) (h 17 (by simp))
   .exact Abs.vD iN e (by decide) (h 3 (by simp)) (h 1 (by simp)) (h 16 (by simp)) (h 5 (by simp)) (h 18 (by simp))
   .exact Abs.rV iN e (by decide) (h 3 (by simp)) (h 1 (by simp)) (h 16 (by simp)) (h 5 (by simp)) (h 20 (by simp)) (h 19 (by simp))
   .exact(h 21 (by simp)) (h 22 (by simp))
   .exact Abs.D9 iN e (h 3 (by simp)) (h 1 (by simp)) (h 23 (by simp)) (h 4 (by simp)) (h 24 (by simp))
   .exact Abs.vD iN e (by decide) (h 3 (by simp)) (h 1 (by simp)) (h 23 (by simp)) (h 5 (by simp)) (h 25 (by simp))
   .exact Abs.rV iN e (by decide) (h 3 (by simp)) (h 1 (by simp)) (h 23 (by simp)) (h 5 (by simp)) (h 27 (by simp)) (h 26 (by simp))
   .exact absurd (Abs.bT iN e (h 3 (by simp)) (h 1 (by simp)) (h 4 (by simp))) (by
    rintro⟨k,i,str,l,e0,e1,e2,e3,a⟩;have J:=Abs.bV e2;have t:=Abs.af (c:=0) (h 28 (by simp)) e3;have o:=Abs.kn (h 10 (by simp)) e2;have M:=Abs.gK (c:=576460752303423487) (h 11 (by simp)) e1;have G:=Abs.ej (c:=(-576460752303423488)) (h 12 (by simp)) e1;have v:=Abs.bc (c:=1) (h 13 (by simp)) e0;unfold Abs.b4 at a;omega)
   .exact absurd (Abs.bT iN e (h 3 (by simp)) (h 1 (by simp)) (h 4 (by simp))) (by
    rintro⟨k,i,str,l,e0,e1,e2,e3,a⟩;have J:=Abs.bV e2;have q:=Abs.ko (h 29 (by simp)) e2;have M:=Abs.gK (c:=576460752303423487) (h 11 (by simp)) e1;have G:=Abs.ej (c:=(-576460752303423488)) (h 12 (by simp)) e1;have v:=Abs.bc (c:=1) (h 13 (by simp)) e0;unfold Abs.b4 at a;omega)
   .exact absurd (Abs.bT iN e (h 3 (by simp)) (h 1 (by simp)) (h 4 (by simp))) (by
    rintro⟨k,i,str,l,e0,e1,e2,e3,a⟩;have J:=Abs.bV e2;have R:=Abs.kp (c:=576460752303423487) (h 30 (by simp)) e1;have G:=Abs.ej (c:=(-576460752303423488)) (h 12 (by simp)) e1;have v:=Abs.bc (c:=1) (h 13 (by simp)) e0;unfold Abs.b4 at a;omega)
   .exact absurd (Abs.bT iN e (h 3 (by simp)) (h 1 (by simp)) (h 4 (by simp))) (by
    rintro⟨k,i,str,l,e0,e1,e2,e3,a⟩;have J:=Abs.bV e2;have S:=Abs.ry (c:=(-576460752303423488)) (h 31 (by simp)) e1;have v:=Abs.bc (c:=1) (h 13 (by simp)) e0;unfold Abs.b4 at a;omega)
   .exact absurd (Abs.bT iN e (h 3 (by simp)) (h 1 (by simp)) (h 4 (by simp))) (by
    rintro⟨k,i,str,l,e0,e1,e2,e3,a⟩;have J:=Abs.bV e2;have t:=Abs.af (c:=0) (h 28 (by simp)) e3;have T:=Abs.gK (c:=64) (h 32 (by simp)) J;have r:=Abs.bc (c:=0) (h 33 (by simp)) e1;have H:=Abs.bc (c:=2) (h 34 (by simp)) e0;have b:=Abs.af (c:=1) (h 35 (by simp)) e0;unfold Abs.b4 at a;omega)
   .exact absurd (Abs.bT iN e (h 3 (by simp)) (h 1 (by simp)) (h 4 (by simp))) (by
    rintro⟨k,i,str,l,e0,e1,e2,e3,a⟩;have J:=Abs.bV e2;have U:=Abs.kp (c:=64) (h 36 (by simp)) J;have r:=Abs.bc (c:=0) (h 33 (by simp)) e1;have H:=Abs.bc (c:=2) (h 34 (by simp)) e0;have b:=Abs.af (c:=1) (h 35 (by simp)) e0;unfold Abs.b4 at a;omega)
   .exact absurd (Abs.bT iN e (h 3 (by simp)) (h 1 (by simp)) (h 4 (by simp))) (by
    rintro⟨k,i,str,l,e0,e1,e2,e3,a⟩;have J:=Abs.bV e2;have w:=Abs.af (c:=0) (h 37 (by simp)) e1;have H:=Abs.bc (c:=2) (h 34 (by simp)) e0;have b:=Abs.af (c:=1) (h 35 (by simp)) e0;unfold Abs.b4 at a;omega)
   .exact absurd (Abs.bT iN e (h 3 (by simp)) (h 1 (by simp)) (h 4 (by simp))) (by
    rintro⟨k,i,str,l,e0,e1,e2,e3,a⟩;have J:=Abs.bV e2;have t:=Abs.af (c:=0) (h 28 (by simp)) e3;have o:=Abs.kn (h 10 (by simp)) e2;have s:=Abs.gK (c:=1073741824) (h 38 (by simp)) e1;have m:=Abs.ej (c:=0) (h 39 (by simp)) e1;have x:=Abs.bc (c:=3) (h 40 (by simp)) e0;have d:=Abs.af (c:=2) (h 41 (by simp)) e0;have b:=Abs.af (c:=1) (h 35 (by simp)) e0;unfold Abs.b4 at a;omega)
   .exact absurd (Abs.bT iN e (h 3 (by simp)) (h 1 (by simp)) (h 4 (by simp))) (by
    rintro⟨k,i,str,l,e0,e1,e2,e3,a⟩;have J:=Abs.bV e2;have q:=Abs.ko (h 29 (by simp)) e2;have s:=Abs.gK (c:=1073741824) (h 38 (by simp)) e1;have m:=Abs.ej (c:=0) (h 39 (by simp)) e1;have x:=Abs.bc (c:=3) (h 40 (by simp)) e0;have d:=Abs.af (c:=2) (h 41 (by simp)) e0;have b:=Abs.af (c:=1) (h 35 (by simp)) e0;unfold Abs.b4 at a;omega)
   .exact absurd (Abs.bT iN e (h 3 (by simp)) (h 1 (by simp)) (h 4 (by simp))) (by
    rintro⟨k,i,str,l,e0,e1,e2,e3,a⟩;have J:=Abs.bV e2;have y:=Abs.kp (c:=1073741824) (h 42 (by simp)) e1;have m:=Abs.ej (c:=0) (h 39 (by simp)) e1;have x:=Abs.bc (c:=3) (h 40 (by simp)) e0;have d:=Abs.af (c:=2) (h 41 (by simp)) e0;have b:=Abs.af (c:=1) (h 35 (by simp)) e0;unfold Abs.b4 at a;omega)
   .exact absurd (Abs.bT iN e (h 3 (by simp)) (h 1 (by simp)) (h 4 (by simp))) (by
    rintro⟨k,i,str,l,e0,e1,e2,e3,a⟩;have J:=Abs.bV e2;have z:=Abs.ry (c:=0) (h 43 (by simp)) e1;have x:=Abs.bc (c:=3) (h 40 (by simp)) e0;have d:=Abs.af (c:=2) (h 41 (by simp)) e0;have b:=Abs.af (c:=1) (h 35 (by simp)) e0;unfold Abs.b4 at a;omega)
   .exact absurd (Abs.bT iN e (h 3 (by simp)) (h 1 (by simp)) (h 4 (by simp))) (by
    rintro⟨k,i,str,l,e0,e1,e2,e3,a⟩;have J:=Abs.bV e2;have t:=Abs.af (c:=0) (h 28 (by simp)) e3;have o:=Abs.kn (h 10 (by simp)) e2;have s:=Abs.gK (c:=1073741824) (h 38 (by simp)) e1;have m:=Abs.ej (c:=0) (h 39 (by simp)) e1;have A:=Abs.bc (c:=4) (h 44 (by simp)) e0;have f:=Abs.af (c:=3) (h 45 (by simp)) e0;have d:=Abs.af (c:=2) (h 41 (by simp)) e0;have b:=Abs.af (c:=1) (h 35 (by simp)) e0;unfold Abs.b4 at a;omega)
   .exact absurd (Abs.bT iN e (h 3 (by simp)) (h 1 (by simp)) (h 4 (by simp))) (by
    rintro⟨k,i,str,l,e0,e1,e2,e3,a⟩;have J:=Abs.bV e2;have q:=Abs.ko (h 29 (by simp)) e2;have s:=Abs.gK (c:=1073741824) (h 38 (by simp)) e1;have m:=Abs.ej (c:=0) (h 39 (by simp)) e1;have A:=Abs.bc (c:=4) (h 44 (by simp)) e0;have f:=Abs.af (c:=3) (h 45 (by simp)) e0;have d:=Abs.af (c:=2) (h 41 (by simp)) e0;have b:=Abs.af (c:=1) (h 35 (by simp)) e0;unfold Abs.b4 at a;omega)
   .exact absurd (Abs.bT iN e (h 3 (by simp)) (h 1 (by simp)) (h 4 (by simp))) (by
    rintro⟨k,i,str,l,e0,e1,e2,e3,a⟩;have J:=Abs.bV e2;have y:=Abs.kp (c:=1073741824) (h 42 (by simp)) e1;have m:=Abs.ej (c:=0) (h 39 (by simp)) e1;have A:=Abs.bc (c:=4) (h 44 (by simp)) e0;have f:=Abs.af (c:=3) (h 45 (by simp)) e0;have d:=Abs.af (c:=2) (h 41 (by simp)) e0;have b:=Abs.af (c:=1) (h 35 (by simp)) e0;unfold Abs.b4 at a;omega)
   .exact absurd (Abs.bT iN e (h 3 (by simp)) (h 1 (by simp)) (h 4 (by simp))) (by
    rintro⟨k,i,str,l,e0,e1,e2,e3,a⟩;have J:=Abs.bV e2;have z:=Abs.ry (c:=0) (h 43 (by simp)) e1;have A:=Abs.bc (c:=4) (h 44 (by simp)) e0;have f:=Abs.af (c:=3) (h 45 (by simp)) e0;have d:=Abs.af (c:=2) (h 41 (by simp)) e0;have b:=Abs.af (c:=1) (h 35 (by simp)) e0;unfold Abs.b4 at a;omega)
   .exact absurd (Abs.bT iN e (h 3 (by simp)) (h 1 (by simp)) (h 4 (by simp))) (by
    rintro⟨k,i,str,l,e0,e1,e2,e3,a⟩;have J:=Abs.bV e2;have t:=Abs.af (c:=0) (h 28 (by simp)) e3;have o:=Abs.kn (h 10 (by simp)) e2;have s:=Abs.gK (c:=1073741824) (h 38 (by simp)) e1;have m:=Abs.ej (c:=0) (h 39 (by simp)) e1;have B:=Abs.bc (c:=6) (h 46 (by simp)) e0;have g:=Abs.af (c:=4) (h 47 (by simp)) e0;have f:=Abs.af (c:=3) (h 45 (by simp)) e0;have d:=Abs.af (c:=2) (h 41 (by simp)) e0;have b:=Abs.af (c:=1) (h 35 (by simp)) e0;unfold Abs.b4 at a;omega)
   .exact absurd (Abs.bT iN e (h 3 (by simp)) (h 1 (by simp)) (h 4 (by simp))) (by
    rintro⟨k,i,str,l,e0,e1,e2,e3,a⟩;have J:=Abs.bV e2;have q:=Abs.ko (h 29 (by simp)) e2;have s:=Abs.gK (c:=1073741824) (h 38 (by simp)) e1;have m:=Abs.ej (c:=0) (h 39 (by simp)) e1;have B:=Abs.bc (c:=6) (h 46 (by simp)) e0;have g:=Abs.af (c:=4) (h 47 (by simp)) e0;have f:=Abs.af (c:=3) (h 45 (by simp)) e0;have d:=Abs.af (c:=2) (h 41 (by simp)) e0;have b:=Abs.af (c:=1) (h 35 (by simp)) e0;unfold Abs.b4 at a;omega)
   .exact absurd (Abs.bT iN e (h 3 (by simp)) (h 1 (by simp)) (h 4 (by simp))) (by
    rintro⟨k,i,str,l,e0,e1,e2,e3,a⟩;have J:=Abs.bV e2;have y:=Abs.kp (c:=1073741824) (h 42 (by simp)) e1;have m:=Abs.ej (c:=0) (h 39 (by simp)) e1;have B:=Abs.bc (c:=6) (h 46 (by simp)) e0;have g:=Abs.af (c:=4) (h 47 (by simp)) e0;have f:=Abs.af (c:=3) (h 45 (by simp)) e0;have d:=Abs.af (c:=2) (h 41 (by simp)) e0;have b:=Abs.af (c:=1) (h 35 (by simp)) e0;unfold Abs.b4 at a;omega)
   .exact absurd (Abs.bT iN e (h 3 (by simp)) (h 1 (by simp)) (h 4 (by simp))) (by
    rintro⟨k,i,str,l,e0,e1,e2,e3,a⟩;have J:=Abs.bV e2;have z:=Abs.ry (c:=0) (h 43 (by simp)) e1;have B:=Abs.bc (c:=6) (h 46 (by simp)) e0;have g:=Abs.af (c:=4) (h 47 (by simp)) e0;have f:=Abs.af (c:=3) (h 45 (by simp)) e0;have d:=Abs.af (c:=2) (h 41 (by simp)) e0;have b:=Abs.af (c:=1) (h 35 (by simp)) e0;unfold Abs.b4 at a;omega)
   .exact Abs.vD iN e (by decide) (h 3 (by simp)) (h 1 (by simp)) (h 16 (by simp)) (h 5 (by simp)) (h 50 (by simp))
   .exact Abs.rV iN e (by decide) (h 3 (by simp)) (h 1 (by simp)) (h 16 (by simp)) (h 5 (by simp)) (h 51 (by simp)) (h 19 (by simp))
   .exact Abs.vD iN e (by decide) (h 3 (by simp)) (h 1 (by simp)) (h 23 (by simp)) (h 5 (by simp)) (h 52 (by simp))
   .exact Abs.rV iN e (by decide) (h 3 (by simp)) (h 1 (by simp)) (h 23 (by simp)) (h 5 (by simp)) (h 53 (by simp)) (h 26 (by simp))
   .exact absurd (Abs.bT iN e (h 3 (by simp)) (h 1 (by simp)) (h 4 (by simp))) (by
    rintro⟨k,i,str,l,e0,e1,e2,e3,a⟩;have J:=Abs.bV e2;have O:=Abs.kp (c:=64) (h 55 (by simp)) e3;have t:=Abs.af (c:=0) (h 28 (by simp)) e3;have o:=Abs.kn (h 10 (by simp)) e2;have s:=Abs.gK (c:=1073741824) (h 38 (by simp)) e1;have m:=Abs.ej (c:=0) (h 39 (by simp)) e1;have C:=Abs.bc (c:=5) (h 48 (by simp)) e0;have j:=Abs.af (c:=6) (h 49 (by simp)) e0;have g:=Abs.af (c:=4) (h 47 (by simp)) e0;have f:=Abs.af (c:=3) (h 45 (by simp)) e0;have d:=Abs.af (c:=2) (h 41 (by simp)) e0;have b:=Abs.af (c:=1) (h 35 (by simp)) e0;unfold Abs.b4 at a;omega)
   .exact absurd (Abs.bT iN e (h 3 (by simp)) (h 1 (by simp)) (h 4 (by simp))) (by
    rintro⟨k,i,str,l,e0,e1,e2,e3,a⟩;have J:=Abs.bV e2;have q:=Abs.ko (h 29 (by simp)) e2;have s:=Abs.gK (c:=1073741824) (h 38 (by simp)) e1;have m:=Abs.ej (c:=0) (h 39 (by simp)) e1;have C:=Abs.bc (c:=5) (h 48 (by simp)) e0;have j:=Abs.af (c:=6) (h 49 (by simp)) e0;have g:=Abs.af (c:=4) (h 47 (by simp)) e0;have f:=Abs.af (c:=3) (h 45 (by simp)) e0;have d:=Abs.af (c:=2) (h 41 (by simp)) e0;have b:=Abs.af (c:=1) (h 35 (by simp)) e0;unfold Abs.b4 at a;omega)
   .exact absurd (Abs.bT iN e (h 3 (by simp)) (h 1 (by simp)) (h 4 (by simp))) (by
    rintro⟨k,i,str,l,e0,e1,e2,e3,a⟩;have J:=Abs.bV e2;have y:=Abs.kp (c:=1073741824) (h 42 (by simp)) e1;have m:=Abs.ej (c:=0) (h 39 (by simp)) e1;have C:=Abs.bc (c:=5) (h 48 (by simp)) e0;have j:=Abs.af (c:=6) (h 49 (by simp)) e0;have g:=Abs.af (c:=4) (h 47 (by simp)) e0;have f:=Abs.af (c:=3) (h 45 (by simp)) e0;have d:=Abs.af (c:=2) (h 41 (by simp)) e0;have b:=Abs.af (c:=1) (h 35 (by simp)) e0;unfold Abs.b4 at a;omega)
   .exact absurd (Abs.bT iN e (h 3 (by simp)) (h 1 (by simp)) (h 4 (by simp))) (by
    rintro⟨k,i,str,l,e0,e1,e2,e3,a⟩;have J:=Abs.bV e2;have z:=Abs.ry (c:=0) (h 43 (by simp)) e1;have C:=Abs.bc (c:=5) (h 48 (by simp)) e0;have j:=Abs.af (c:=6) (h 49 (by simp)) e0;have g:=Abs.af (c:=4) (h 47 (by simp)) e0;have f:=Abs.af (c:=3) (h 45 (by simp)) e0;have d:=Abs.af (c:=2) (h 41 (by simp)) e0;have b:=Abs.af (c:=1) (h 35 (by simp)) e0;unfold Abs.b4 at a;omega)
   .exact absurd (Abs.bT iN e (h 3 (by simp)) (h 1 (by simp)) (h 4 (by simp))) (by
    rintro⟨k,i,str,l,e0,e1,e2,e3,a⟩;have J:=Abs.bV e2;have O:=Abs.kp (c:=64) (h 55 (by simp)) e3;have o:=Abs.kn (h 10 (by simp)) e2;have r:=Abs.bc (c:=0) (h 33 (by simp)) e1;have I:=Abs.bc (c:=7) (h 56 (by simp)) e0;have n:=Abs.af (c:=5) (h 57 (by simp)) e0;have j:=Abs.af (c:=6) (h 49 (by simp)) e0;have g:=Abs.af (c:=4) (h 47 (by simp)) e0;have f:=Abs.af (c:=3) (h 45 (by simp)) e0;have d:=Abs.af (c:=2) (h 41 (by simp)) e0;have b:=Abs.af (c:=1) (h 35 (by simp)) e0;unfold Abs.b4 at a;omega)
   .exact absurd (Abs.bT iN e (h 3 (by simp)) (h 1 (by simp)) (h 4 (by simp))) (by
    rintro⟨k,i,str,l,e0,e1,e2,e3,a⟩;have J:=Abs.bV e2;have q:=Abs.ko (h 29 (by simp)) e2;have r:=Abs.bc (c:=0) (h 33 (by simp)) e1;have I:=Abs.bc (c:=7) (h 56 (by simp)) e0;have n:=Abs.af (c:=5) (h 57 (by simp)) e0;have j:=Abs.af (c:=6) (h 49 (by simp)) e0;have g:=Abs.af (c:=4) (h 47 (by simp)) e0;have f:=Abs.af (c:=3) (h 45 (by simp)) e0;have d:=Abs.af (c:=2) (h 41 (by simp)) e0;have b:=Abs.af (c:=1) (h 35 (by simp)) e0;unfold Abs.b4 at a;omega)
   .exact absurd (Abs.bT iN e (h 3 (by simp)) (h 1 (by simp)) (h 4 (by simp))) (by
    rintro⟨k,i,str,l,e0,e1,e2,e3,a⟩;have J:=Abs.bV e2;have w:=Abs.af (c:=0) (h 37 (by simp)) e1;have I:=Abs.bc (c:=7) (h 56 (by simp)) e0;have n:=Abs.af (c:=5) (h 57 (by simp)) e0;have j:=Abs.af (c:=6) (h 49 (by simp)) e0;have g:=Abs.af (c:=4) (h 47 (by simp)) e0;have f:=Abs.af (c:=3) (h 45 (by simp)) e0;have d:=Abs.af (c:=2) (h 41 (by simp)) e0;have b:=Abs.af (c:=1) (h 35 (by simp)) e0;unfold Abs.b4 at a;omega)
   .exact absurd (Abs.bT iN e (h 3 (by simp)) (h 1 (by simp)) (h 4 (by simp))) (by
    rintro⟨k,i,str,l,e0,e1,e2,e3,a⟩;have J:=Abs.bV e2;have t:=Abs.af (c:=0) (h 28 (by simp)) e3;have o:=Abs.kn (h 10 (by simp)) e2;have r:=Abs.bc (c:=0) (h 33 (by simp)) e1;have K:=Abs.bc (c:=8) (h 58 (by simp)) e0;have u:=Abs.af (c:=7) (h 59 (by simp)) e0;have n:=Abs.af (c:=5) (h 57 (by simp)) e0;have j:=Abs.af (c:=6) (h 49 (by simp)) e0;have g:=Abs.af (c:=4) (h 47 (by simp)) e0;have f:=Abs.af (c:=3) (h 45 (by simp)) e0;have d:=Abs.af (c:=2) (h 41 (by simp)) e0;have b:=Abs.af (c:=1) (h 35 (by simp)) e0;unfold Abs.b4 at a;omega)
   .exact absurd (Abs.bT iN e (h 3 (by simp)) (h 1 (by simp)) (h 4 (by simp))) (by
    rintro⟨k,i,str,l,e0,e1,e2,e3,a⟩;have J:=Abs.bV e2;have q:=Abs.ko (h 29 (by simp)) e2;have r:=Abs.bc (c:=0) (h 33 (by simp)) e1;have K:=Abs.bc (c:=8) (h 58 (by simp)) e0;have u:=Abs.af (c:=7) (h 59 (by simp)) e0;have n:=Abs.af (c:=5) (h 57 (by simp)) e0;have j:=Abs.af (c:=6) (h 49 (by simp)) e0;have g:=Abs.af (c:=4) (h 47 (by simp)) e0;have f:=Abs.af (c:=3) (h 45 (by simp)) e0;have d:=Abs.af (c:=2) (h 41 (by simp)) e0;have b:=Abs.af (c:=1) (h 35 (by simp)) e0;unfold Abs.b4 at a;omega)
   .exact absurd (Abs.bT iN e (h 3 (by simp)) (h 1 (by simp)) (h 4 (by simp))) (by
    rintro⟨k,i,str,l,e0,e1,e2,e3,a⟩;have J:=Abs.bV e2;have w:=Abs.af (c:=0) (h 37 (by simp)) e1;have K:=Abs.bc (c:=8) (h 58 (by simp)) e0;have u:=Abs.af (c:=7) (h 59 (by simp)) e0;have n:=Abs.af (c:=5) (h 57 (by simp)) e0;have j:=Abs.af (c:=6) (h 49 (by simp)) e0;have g:=Abs.af (c:=4) (h 47 (by simp)) e0;have f:=Abs.af (c:=3) (h 45 (by simp)) e0;have d:=Abs.af (c:=2) (h 41 (by simp)) e0;have b:=Abs.af (c:=1) (h 35 (by simp)) e0;unfold Abs.b4 at a;omega)
   .exact absurd (Abs.bT iN e (h 3 (by simp)) (h 1 (by simp)) (h 4 (by simp))) (by
    rintro⟨k,i,str,l,e0,e1,e2,e3,a⟩;have J:=Abs.bV e2;have V:=Abs.af (c:=2) (h 63 (by simp)) e3;have o:=Abs.kn (h 10 (by simp)) e2;have r:=Abs.bc (c:=0) (h 33 (by simp)) e1;have L:=Abs.bc (c:=9) (h 61 (by simp)) e0;have D:=Abs.af (c:=8) (h 62 (by simp)) e0;have u:=Abs.af (c:=7) (h 59 (by simp)) e0;have n:=Abs.af (c:=5) (h 57 (by simp)) e0;have j:=Abs.af (c:=6) (h 49 (by simp)) e0;have g:=Abs.af (c:=4) (h 47 (by simp)) e0;have f:=Abs.af (c:=3) (h 45 (by simp)) e0;have d:=Abs.af (c:=2) (h 41 (by simp)) e0;have b:=Abs.af (c:=1) (h 35 (by simp)) e0;unfold Abs.b4 at a;omega)
   .exact absurd (Abs.bT iN e (h 3 (by simp)) (h 1 (by simp)) (h 4 (by simp))) (by
    rintro⟨k,i,str,l,e0,e1,e2,e3,a⟩;have J:=Abs.bV e2;have q:=Abs.ko (h 29 (by simp)) e2;have r:=Abs.bc (c:=0) (h 33 (by simp)) e1;have L:=Abs.bc (c:=9) (h 61 (by simp)) e0;have D:=Abs.af (c:=8) (h 62 (by simp)) e0;have u:=Abs.af (c:=7) (h 59 (by simp)) e0;have n:=Abs.af (c:=5) (h 57 (by simp)) e0;have j:=Abs.af (c:=6) (h 49 (by simp)) e0;have g:=Abs.af (c:=4) (h 47 (by simp)) e0;have f:=Abs.af (c:=3) (h 45 (by simp)) e0;have d:=Abs.af (c:=2) (h 41 (by simp)) e0;have b:=Abs.af (c:=1) (h 35 (by simp)) e0;unfold Abs.b4 at a;omega)
   .exact absurd (Abs.bT iN e (h 3 (by simp)) (h 1 (by simp)) (h 4 (by simp))) (by
    rintro⟨k,i,str,l,e0,e1,e2,e3,a⟩;have J:=Abs.bV e2;have w:=Abs.af (c:=0) (h 37 (by simp)) e1;have L:=Abs.bc (c:=9) (h 61 (by simp)) e0;have D:=Abs.af (c:=8) (h 62 (by simp)) e0;have u:=Abs.af (c:=7) (h 59 (by simp)) e0;have n:=Abs.af (c:=5) (h 57 (by simp)) e0;have j:=Abs.af (c:=6) (h 49 (by simp)) e0;have g:=Abs.af (c:=4) (h 47 (by simp)) e0;have f:=Abs.af (c:=3) (h 45 (by simp)) e0;have d:=Abs.af (c:=2) (h 41 (by simp)) e0;have b:=Abs.af (c:=1) (h 35 (by simp)) e0;unfold Abs.b4 at a;omega)
   .exact absurd (Abs.bT iN e (h 3 (by simp)) (h 1 (by simp)) (h 4 (by simp))) (by
    rintro⟨k,i,str,l,e0,e1,e2,e3,a⟩;have J:=Abs.bV e2;have W:=Abs.af (c:=9) (h 64 (by simp)) e0;have D:=Abs.af (c:=8) (h 62 (by simp)) e0;have u:=Abs.af (c:=7) (h 59 (by simp)) e0;have n:=Abs.af (c:=5) (h 57 (by simp)) e0;have j:=Abs.af (c:=6) (h 49 (by simp)) e0;have g:=Abs.af (c:=4) (h 47 (by simp)) e0;have f:=Abs.af (c:=3) (h 45 (by simp)) e0;have d:=Abs.af (c:=2) (h 41 (by simp)) e0;have b:=Abs.af (c:=1) (h 35 (by simp)) e0;unfold Abs.b4 at a;omega)
   .exact Abs.TR (h 5 (by simp)) (h 65 (by simp))) (by kernel_rfl))
set_option maxRecDepth 100000 in
theorem ZQ(N:Nat)(a:N<=1073741824):Abs.eb Tryz.prog (Abs.ed Tryz.prog kC "parts" (Abs.b9 kK ah N) (Abs.my kK ah) (Abs.kG kK ah) (Abs.fk kK ah)):=Abs.GL (c:=λN=>Abs.ed Tryz.prog kC "parts" (Abs.b9 kK ah N) (Abs.my kK ah) (Abs.kG kK ah) (Abs.fk kK ah)) (B:=1073741824) (Abs.oo λ_ b=>Abs.R7 (b _ aV)) (λ_ d h=>Ss d h) N a
def Wp:Nat->Abs.Fact:=λi=>([
 .rel "parts" true (Abs.b9 kK ah kB) [(.int .i64 (.ofNat 1)),(.a2 .sn (.a2 .sn (.a2 .sn (.a2 .sn (.a1 (.nl [(.int .i64),(.int .i64),.str,(.sl 24)]) (.bool true)) (.var 8)) (.var 9)) (.var 10)) (.var 11))],
 .rel "term" false (Abs.kO kK ah kB) [(.var 8),(.var 9),(.var 10),(.var 11)],
 .rel "sound" false Abs.lT [(.var 8),(.var 9),(.var 10),(.var 11)],
 .rel "snd" true (Abs.my kK ah) [(.int .i64 (.ofNat 1)),(.a2 .sn (.a2 .sn (.a2 .sn (.a2 .sn (.a1 (.nl [(.int .i64),(.int .i64),.str,(.sl 24)]) (.bool true)) (.var 8)) (.var 9)) (.var 10)) (.var 11))],
 .rel "wrd" true (Abs.kG kK ah) [(.int .i64 (.ofNat 0)),(.int .i64 (.ofNat 1)),(.a2 .sn (.a2 .sn (.a2 .sn (.a2 .sn (.a1 (.nl [(.int .i64),(.int .i64),.str,(.sl 24)]) (.bool true)) (.var 8)) (.var 9)) (.var 10)) (.var 11))],
 .tr (.a2 (.bin .gtr) (.var 20) (.int .i64 (.ofNat 65536))),
 .rel "wrds" false (Abs.fk kK ah) [(.var 20),(.int .i64 (.ofNat 0)),(.int .i64 (.ofNat 1)),(.a2 .sn (.a2 .sn (.a2 .sn (.a2 .sn (.a1 (.nl [(.int .i64),(.int .i64),.str,(.sl 24)]) (.bool true)) (.var 8)) (.var 9)) (.var 10)) (.var 11))]]:List Abs.Fact).getD i (.tr (.bool true))
def ZR:List (List Nat):=[[0,1,2],[3,1,2],[4,1,2],[5,6,1,2]]
set_option maxRecDepth 100000 in
theorem St(tl:List Deferred):Abs.R.res (λ_=>true) ((Abs.zu (wY [Abs.ed Tryz.prog kC "parts" (Abs.b9 kK ah kB) (Abs.my kK ah) (Abs.kG kK ah) (Abs.fk kK ah)] []) 1000000 ((Abs.lA Tryz.prog kC (Abs.kO kK ah kB) Abs.lT).fi tl) (Abs.lA Tryz.prog kC (Abs.kO kK ah kB) Abs.lT).tr (Abs.lA Tryz.prog kC (Abs.kO kK ah kB) Abs.lT).todo [] .run none (Abs.lA Tryz.prog kC (Abs.kO kK ah kB) Abs.lT).S2).bind (Abs.pG (wY [Abs.ed Tryz.prog kC "parts" (Abs.b9 kK ah kB) (Abs.my kK ah) (Abs.kG kK ah) (Abs.fk kK ah)] []) (Abs.lA Tryz.prog kC (Abs.kO kK ah kB) Abs.lT)))=some (ZR.map λr=>r.map (Wp)):=by kernel_rfl
theorem a38:Abs.eb Tryz.prog (Abs.lA Tryz.prog kC (Abs.kO kK ah kB) Abs.lT):=Abs.yu (Cp (λ_ h=>by cases h) (λc h=>by cases h with|head=>exact ZQ _ (bq (by kernel_rfl))|tail _ h=>cases h)) uD _ 1000000 (St)
 (Abs.nJ (F:=Wp) (L7:=[[0,1],[3,1,2],[4,1],[5,1,6]]) (λp a E h=>by
   simp only[bQ,eE,er]at a;rcases a with rfl|rfl|rfl|rfl
   .exact Abs.KN iN (h 1 (by simp)) (h 0 (by simp))
   .exact Abs.YX iN (h 1 (by simp)) (h 2 (by simp)) (h 3 (by simp))
   .exact Abs.YW iN kHB (h 1 (by simp)) (h 4 (by simp))
   .exact Abs.RL iN a7M (h 1 (by simp)) (h 6 (by simp)) (h 5 (by simp))) (by kernel_rfl))
def Wr(N M:Nat):Nat->Abs.Fact:=λi=>([
 .rel "al" true (Abs.pZ kK ah N) [(.a1 (.ld 3) (.a2 .el (.var 8) (.var 10))),(.a1 (.ld 3) (.a2 .el (.var 9) (.var 10)))],
 .tr (.a2 (.bin .eql) (.a1 (.ld 2) (.a2 .el (.var 8) (.var 10))) (.a1 (.ld 2) (.a2 .el (.var 9) (.var 10)))),
 .tr (.a2 (.bin .eql) (.a1 (.ld 1) (.a2 .el (.var 8) (.var 10))) (.a1 (.ld 1) (.a2 .el (.var 9) (.var 10)))),
 .tr (.a2 (.bin .eql) (.a1 (.ld 0) (.a2 .el (.var 8) (.var 10))) (.a1 (.ld 0) (.a2 .el (.var 9) (.var 10)))),
 .tr (.a2 (.bin .lss) (.var 10) (.a1 .len (.var 8))),
 .rel "ty" false (Abs.bM (.sl ah)) [(.var 8)],
 .rel "ty" false (Abs.bM (.sl ah)) [(.var 9)],
 .rel "ty" false (Abs.bM (.int .i64)) [(.var 10)],
 .rel "als" false (Abs.lj kK ah N (M+1)) [(.var 8),(.var 9),(.var 10)],
 .inr (.var 10) (.int .i64 (.ofNat 1073741825)),
 .tr (.a2 (.bin .eql) (.a1 .len (.var 8)) (.a1 .len (.var 9))),
 .rel "als" true (Abs.lj kK ah N M) [(.var 8),(.var 9),(.a2 (.bin .add) (.var 10) (.int .i64 (.ofNat 1)))],
 .rel "in" true Abs.ee [(.a2 (.bin .add) (.var 10) (.int .i64 (.ofNat 1))),(.int .i64 (.ofNat 1073741825))],
 .fl (.a2 (.bin .eql) (.a1 (.ld 2) (.a2 .el (.var 8) (.var 10))) (.a1 (.ld 2) (.a2 .el (.var 9) (.var 10)))),
 .fl (.a2 (.bin .eql) (.a1 (.ld 1) (.a2 .el (.var 8) (.var 10))) (.a1 (.ld 1) (.a2 .el (.var 9) (.var 10)))),
 .fl (.a2 (.bin .eql) (.a1 (.ld 0) (.a2 .el (.var 8) (.var 10))) (.a1 (.ld 0) (.a2 .el (.var 9) (.var 10))))]:List Abs.Fact).getD i (.tr (.bool true))
def ZT:List (List Nat):=[[0,1,2,3,4,5,6,7,8,9,10],[11,1,2,3,4,5,6,7,8,9,10],[12,1,2,3,4,5,6,7,8,9,10],[13,2,3,4,5,6,7,8,9,10],[14,3,4,5,6,7,8,9,10],[15,4,5,6,7,8,9,10]]
set_option maxRecDepth 100000 in
theorem Sv(N M:Nat)(tl:List Deferred):Abs.R.res (λ_=>true) ((Abs.zu (wY [Abs.fb Tryz.prog kC 32 27 "als" (Abs.lj kK ah N M),Abs.ib Tryz.prog kC 32 27 "al" (Abs.pZ kK ah N)] []) 1000000 ((Abs.fb Tryz.prog kC 32 27 "als" (Abs.lj kK ah N (M+1))).fi tl) (Abs.fb Tryz.prog kC 32 27 "als" (Abs.lj kK ah N (M+1))).tr (Abs.fb Tryz.prog kC 32 27 "als" (Abs.lj kK ah N (M+1))).todo [] .run none (Abs.fb Tryz.prog kC 32 27 "als" (Abs.lj kK ah N (M+1))).S2).bind (Abs.pG (wY [Abs.fb Tryz.prog kC 32 27 "als" (Abs.lj kK ah N M),Abs.ib Tryz.prog kC 32 27 "al" (Abs.pZ kK ah N)] []) (Abs.fb Tryz.prog kC 32 27 "als" (Abs.lj kK ah N (M+1)))))=some (ZT.map λr=>r.map (Wr N M)):=by kernel_rfl
def Ws(N:Nat):Nat->Abs.Fact:=λi=>([
 .tr (.a2 (.bin .neq) (.a1 .len (.var 8)) (.a1 .len (.var 9))),
 .rel "ty" false (Abs.bM (.sl ah)) [(.var 8)],
 .rel "ty" false (Abs.bM (.sl ah)) [(.var 9)],
 .rel "al" false (Abs.pZ kK ah (N+1)) [(.var 8),(.var 9)],
 .rel "als" true (Abs.lj kK ah N (N+1)) [(.var 8),(.var 9),(.int .i64 (.ofNat 0))],
 .fl (.a2 (.bin .neq) (.a1 .len (.var 8)) (.a1 .len (.var 9))),
 .rel "in" true Abs.ee [(.int .i64 (.ofNat 0)),(.int .i64 (.ofNat 1073741825))],
 .rel "tr" true Abs.dk [(.a2 (.bin .eql) (.a1 .len (.var 8)) (.a1 .len (.var 9)))]]:List Abs.Fact).getD i (.tr (.bool true))
def ZU:List (List Nat):=[[0,1,2,3],[4,5,1,2,3],[6,5,1,2,3],[7,5,1,2,3]]
set_option maxRecDepth 100000 in
theorem Sw(N:Nat)(tl:List Deferred):Abs.R.res (λ_=>true) ((Abs.zu (wY [Abs.fb Tryz.prog kC 32 27 "als" (Abs.lj kK ah N (N+1))] []) 1000000 ((Abs.ib Tryz.prog kC 32 27 "al" (Abs.pZ kK ah (N+1))).fi tl) (Abs.ib Tryz.prog kC 32 27 "al" (Abs.pZ kK ah (N+1))).tr (Abs.ib Tryz.prog kC 32 27 "al" (Abs.pZ kK ah (N+1))).todo [] .run none (Abs.ib Tryz.prog kC 32 27 "al" (Abs.pZ kK ah (N+1))).S2).bind (Abs.pG (wY [Abs.fb Tryz.prog kC 32 27 "als" (Abs.lj kK ah N (N+1))] []) (Abs.ib Tryz.prog kC 32 27 "al" (Abs.pZ kK ah (N+1)))))=some (ZU.map λr=>r.map (Ws N)):=by kernel_rfl
theorem M7{N:Nat}(a:N<=1073741824)(M:Nat)(d:Abs.eb Tryz.prog (Abs.ib Tryz.prog kC 32 27 "al" (Abs.pZ kK ah N)))(e:Abs.eb Tryz.prog (Abs.fb Tryz.prog kC 32 27 "als" (Abs.lj kK ah N M))):Abs.eb Tryz.prog (Abs.fb Tryz.prog kC 32 27 "als" (Abs.lj kK ah N (M+1))):=Abs.yu (Cp (λ_ h=>by cases h) (λc h=>by cases h with|head=>exact e|tail _ h=>cases h with|head=>exact d|tail _ h=>cases h)) uD _ 1000000 (Sv N M)
 (Abs.nJ (F:=Wr N M) (L7:=[[0,4,8],[11,4,8],[12,4,8],[13,4,8],[14,4,8],[15,4,8]]) (λp b E h=>by
   simp only[bQ,eE,er]at b;rcases b with rfl|rfl|rfl|rfl|rfl|rfl
   .exact Abs.SQ iN (h 8 (by simp)) (h 4 (by simp)) (h 0 (by simp))
   .exact Abs.Xi iN a (h 8 (by simp)) (h 4 (by simp)) (h 11 (by simp))
   .exact Abs.a4C iN a (h 8 (by simp)) (h 4 (by simp)) (h 12 (by simp))
   .exact Abs.Nv (q:=2) iN (by decide) (h 8 (by simp)) (h 4 (by simp)) (h 13 (by simp))
   .exact Abs.Nv (q:=1) iN (by decide) (h 8 (by simp)) (h 4 (by simp)) (h 14 (by simp))
   .exact Abs.Nv (q:=0) iN (by decide) (h 8 (by simp)) (h 4 (by simp)) (h 15 (by simp))) (by kernel_rfl))
theorem M8{N:Nat}(d:N+1<=1073741824)(b:Abs.eb Tryz.prog (Abs.fb Tryz.prog kC 32 27 "als" (Abs.lj kK ah N (N+1)))):Abs.eb Tryz.prog (Abs.ib Tryz.prog kC 32 27 "al" (Abs.pZ kK ah (N+1))):=Abs.yu (Cp (λ_ h=>by cases h) (λc h=>by cases h with|head=>exact b|tail _ h=>cases h)) uD _ 1000000 (Sw N)
 (Abs.nJ (F:=Ws N) (L7:=[[0,3],[4,3],[6],[7,3]]) (λp a E h=>by
   simp only[bQ,eE,er]at a;rcases a with rfl|rfl|rfl|rfl
   .exact Abs.a4E (h 3 (by simp)) (h 0 (by simp))
   .exact Abs.Xj iN (h 3 (by simp)) (h 4 (by simp))
   .exact Abs.Zs (h 6 (by simp))
   .exact Abs.a7e (h 3 (by simp)) (h 7 (by simp))) (by kernel_rfl))
set_option maxRecDepth 100000 in
theorem Ym:∀B,B<=1073741824->Abs.eb Tryz.prog (Abs.ib Tryz.prog kC 32 27 "al" (Abs.pZ kK ah B)):=Abs.Oi (cS:=λN=>Abs.ib Tryz.prog kC 32 27 "al" (Abs.pZ kK ah N)) (cL:=λN M=>Abs.fb Tryz.prog kC 32 27 "als" (Abs.lj kK ah N M)) (B:=1073741824) (Abs.oo λ_ a=>Abs.a0A (a _ aV)) (λ_=>Abs.oo λ_ a=>Abs.Xh (a _ aV))
 (λ_ M b d c=>M7 b M d c)
 (λ_ b c=>M8 b c)
end Go.Proofs.YtokipodjggomfaaGreatDoor
