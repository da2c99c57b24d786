/- A part of the proof of ScriptReads: 1Chk. Conditions: those of each theorem. -/
import Derived.Test.YtokipodjggomfaaGreatDoorScr1Base
noncomputable section
set_option linter.unusedVariables false
set_option linter.unusedSimpArgs false
namespace Go.Proofs.YtokipodjggomfaaGreatDoor
theorem kHB:kB<=1000000:=b7 (by kernel_rfl)
theorem acQ:kB<=60000:=b7 (by kernel_rfl)
def a5V(N M:Nat):Nat->Abs.Fact:=λi=>([
 rR Abs.LM [aK,a0p],
 .tr (.a2 (.bin .geq) aK Sa),
 rR (Abs.CU (.int .i64)) [aK],
 rR (Abs.CU (.sl ag)) [aB],
 rR (Abs.gK kK ag (N+1) M) [aq,aT,aB,aK],
 rR (Abs.OG 4 56 1) [aT,aq],
 rQ (Abs.gK kK ag N M) [a27,(s4 (tk 4 aT aq) (ld 0 aB aK) (ld 1 aB aK) (ld 2 aB aK) (ld 3 aB aK)),aB,(.a2 (.bin .sub) aK kE)],
 .inr aq a27,
 rQ (Abs.dh kK ag M) [cQ,cW],
 rR (Abs.dh kK ag M) [cQ,cW],
 rR (Abs.lZ kK ag) [cQ,cW,a27,(s4 (tk 4 aT aq) (ld 0 aB aK) (ld 1 aB aK) (ld 2 aB aK) (ld 3 aB aK)),aB,(.a2 (.bin .sub) aK kE)],
 rQ (Abs.lZ kK ag) [cQ,cW,aq,aT,aB,aK],
 rQ (Abs.dh kK ag M) [bT,cG],
 rR (Abs.dh kK ag M) [bT,cG],
 rR (Abs.lZ kK ag) [bT,cG,a27,(s4 (tk 4 aT aq) (ld 0 aB aK) (ld 1 aB aK) (ld 2 aB aK) (ld 3 aB aK)),aB,(.a2 (.bin .sub) aK kE)],
 rQ (Abs.lZ kK ag) [bT,cG,aq,aT,aB,aK],
 rQ (Abs.dh kK ag M) [aq,aT],
 .fl (.a2 (.bin .geq) aK Sa),
 rQ (Abs.lZ kK ag) [aq,aT,aq,aT,aB,aK]]:List Abs.Fact).getD i (.tr (.bool true))
def a7V:List (List Nat):=[[0,1,2,3,4],[5,1,2,3,4],[6,7,1,2,3,4],[8,9,10,7,1,2,3,4],[11,9,10,7,1,2,3,4],[12,13,14,7,1,2,3,4],[15,13,14,7,1,2,3,4],[16,17,2,3,4],[18,17,2,3,4]]
set_option maxRecDepth 100000 in
theorem a00(N M:Nat)(tl:List Deferred):Abs.R.res (λ_=>true) ((Abs.Et (BQ [Abs.gO Tryz.prog kC "" (Abs.gK kK ag N M) (Abs.dh kK ag M) (Abs.lZ kK ag)] []) 1000000 ((Abs.gO Tryz.prog kC "" (Abs.gK kK ag (N+1) M) (Abs.dh kK ag M) (Abs.lZ kK ag)).fi tl) (Abs.gO Tryz.prog kC "" (Abs.gK kK ag (N+1) M) (Abs.dh kK ag M) (Abs.lZ kK ag)).tr (Abs.gO Tryz.prog kC "" (Abs.gK kK ag (N+1) M) (Abs.dh kK ag M) (Abs.lZ kK ag)).todo [] .run none (Abs.gO Tryz.prog kC "" (Abs.gK kK ag (N+1) M) (Abs.dh kK ag M) (Abs.lZ kK ag)).S2).bind (Abs.uY (BQ [Abs.gO Tryz.prog kC "" (Abs.gK kK ag N M) (Abs.dh kK ag M) (Abs.lZ kK ag)] []) (Abs.gO Tryz.prog kC "" (Abs.gK kK ag (N+1) M) (Abs.dh kK ag M) (Abs.lZ kK ag))))=some (a7V.map λr=>r.map (a5V N M)):=by kernel_rfl
theorem WU{M:Nat}(a:M<=1073741824)(N:Nat)(d:Abs.fy Tryz.prog (Abs.gO Tryz.prog kC "" (Abs.gK kK ag N M) (Abs.dh kK ag M) (Abs.lZ kK ag))):Abs.fy Tryz.prog (Abs.gO Tryz.prog kC "" (Abs.gK kK ag (N+1) M) (Abs.dh kK ag M) (Abs.lZ kK ag)):=Abs.Dq (Hf (λ_ h=>by cases h) (λc h=>by cases h with|head=>exact d|tail _ h=>cases h)) zH _ 1000000 (a00 N M)
 (Abs.sS (F:=a5V N M) (Rm:=[[0,1,4],[5,4],[6,1,4],[8,9],[11,10,1,4],[12,13],[15,14,1,4],[16,4],[18,17,4]]) (λp b E h=>by
   simp only[cC,fJ,fm]at b;rcases b with rfl|rfl|rfl|rfl|rfl|rfl|rfl|rfl|rfl
   .exact Abs.a1x (h 4 (by simp)) (h 1 (by simp)) (h 0 (by simp))
   .exact Abs.W9 a (by omega) (h 4 (by simp)) (h 5 (by simp))
   .exact Abs.W8 kN a (h 4 (by simp)) (h 1 (by simp)) (h 6 (by simp))
   .exact(h 8 (by simp)) (h 9 (by simp))
   .exact Abs.Qc kN a (h 4 (by simp)) (h 1 (by simp)) (h 10 (by simp)) (h 11 (by simp))
   .exact(h 12 (by simp)) (h 13 (by simp))
   .exact Abs.Qc kN a (h 4 (by simp)) (h 1 (by simp)) (h 14 (by simp)) (h 15 (by simp))
   .exact Abs.a1y (h 4 (by simp)) (h 16 (by simp))
   .exact Abs.a4P (h 4 (by simp)) (h 17 (by simp)) (h 18 (by simp))) (by kernel_rfl))
set_option maxRecDepth 100000 in
theorem a4e{M:Nat}(a:M<=1073741824)(N:Nat):Abs.fy Tryz.prog (Abs.gO Tryz.prog kC "" (Abs.gK kK ag N M) (Abs.dh kK ag M) (Abs.lZ kK ag)):=Abs.LS (c:=λN=>Abs.gO Tryz.prog kC "" (Abs.gK kK ag N M) (Abs.dh kK ag M) (Abs.lZ kK ag)) (B:=N) (Abs.o9 λ_ b=>Abs.W6 (b _ bB)) (λn _ h=>WU a n h) N (bD _)
def a5U(N:Nat):Nat->Abs.Fact:=λi=>([
 rR Abs.LM [(.a2 (.bin .sub) au kE),au],
 .tr (.a2 (.bin .gtr) au Sa),
 rR (Abs.CU (.int .i64)) [aK],
 rR (Abs.dh kK ag (N+1)) [au,aB],
 rR (Abs.qI kK ag) [au,aB],
 rR (Abs.oo kK ag) [aK,au,aB],
 rR (Abs.GJ 4) [aB,(.a2 (.bin .sub) au kE)],
 rR Abs.v7 [Sa,(.a2 (.bin .sub) au kE),au],
 rQ (Abs.gK kK ag 1073741824 N) [(.a2 (.bin .sub) au kE),aB,(.a2 (.at 4 3) aB (.a2 (.bin .sub) au kE)),(.a2 (.bin .sub) (.a1 .len (.a2 (.at 4 3) aB (.a2 (.bin .sub) au kE))) kE)],
 .tr (.a2 (.bin .eql) (.a1 .len (.a2 (.at 4 3) aB (.a2 (.bin .sub) au kE))) Sa),
 .tr (.a2 (.bin .eql) (.a2 (.at 4 2) aB (.a2 (.bin .sub) au kE)) (.str [])),
 .tr (.a2 (.bin .leq) (.a2 (.at 4 1) aB (.a2 (.bin .sub) au kE)) nQ),
 .tr (.a2 (.bin .geq) (.a2 (.at 4 1) aB (.a2 (.bin .sub) au kE)) (.int .i64 (.negSucc 576460752303423487))),
 .tr (.a2 (.bin .eql) (.a2 (.at 4 0) aB (.a2 (.bin .sub) au kE)) kE),
 rQ (Abs.dh kK ag N) [di,eJ],
 rR (Abs.dh kK ag N) [di,eJ],
 rR (Abs.lZ kK ag) [di,eJ,(.a2 (.bin .sub) au kE),aB,(.a2 (.at 4 3) aB (.a2 (.bin .sub) au kE)),(.a2 (.bin .sub) (.a1 .len (.a2 (.at 4 3) aB (.a2 (.bin .sub) au kE))) kE)],
 rQ (Abs.qI kK ag) [di,eJ],
 rQ (Abs.oo kK ag) [a26,di,eJ],
 rQ (Abs.gX kK ag) [gj,aK,au,aB],
 rR (Abs.gX kK ag) [gj,a26,di,eJ],
 rQ (Abs.dh kK ag N) [cW,er],
 rR (Abs.dh kK ag N) [cW,er],
 rR (Abs.lZ kK ag) [cW,er,(.a2 (.bin .sub) au kE),aB,(.a2 (.at 4 3) aB (.a2 (.bin .sub) au kE)),(.a2 (.bin .sub) (.a1 .len (.a2 (.at 4 3) aB (.a2 (.bin .sub) au kE))) kE)],
 rQ (Abs.qI kK ag) [cW,er],
 rQ (Abs.oo kK ag) [a26,cW,er],
 rQ (Abs.gX kK ag) [eJ,aK,au,aB],
 rR (Abs.gX kK ag) [eJ,a26,cW,er],
 .fl (.a2 (.bin .eql) (.a1 .len (.a2 (.at 4 3) aB (.a2 (.bin .sub) au kE))) Sa),
 .fl (.a2 (.bin .eql) (.a2 (.at 4 2) aB (.a2 (.bin .sub) au kE)) (.str [])),
 .fl (.a2 (.bin .leq) (.a2 (.at 4 1) aB (.a2 (.bin .sub) au kE)) nQ),
 .fl (.a2 (.bin .geq) (.a2 (.at 4 1) aB (.a2 (.bin .sub) au kE)) (.int .i64 (.negSucc 576460752303423487))),
 .tr (.a2 (.bin .leq) (.a1 .len (.a2 (.at 4 2) aB (.a2 (.bin .sub) au kE))) a3O),
 .tr (.a2 (.bin .eql) (.a2 (.at 4 1) aB (.a2 (.bin .sub) au kE)) Sa),
 .tr (.a2 (.bin .eql) (.a2 (.at 4 0) aB (.a2 (.bin .sub) au kE)) j_2),
 .fl (.a2 (.bin .eql) (.a2 (.at 4 0) aB (.a2 (.bin .sub) au kE)) kE),
 .fl (.a2 (.bin .leq) (.a1 .len (.a2 (.at 4 2) aB (.a2 (.bin .sub) au kE))) a3O),
 .fl (.a2 (.bin .eql) (.a2 (.at 4 1) aB (.a2 (.bin .sub) au kE)) Sa),
 .tr (.a2 (.bin .leq) (.a2 (.at 4 1) aB (.a2 (.bin .sub) au kE)) BR),
 .tr (.a2 (.bin .geq) (.a2 (.at 4 1) aB (.a2 (.bin .sub) au kE)) Sa),
 .tr (.a2 (.bin .eql) (.a2 (.at 4 0) aB (.a2 (.bin .sub) au kE)) j_3),
 .fl (.a2 (.bin .eql) (.a2 (.at 4 0) aB (.a2 (.bin .sub) au kE)) j_2),
 .fl (.a2 (.bin .leq) (.a2 (.at 4 1) aB (.a2 (.bin .sub) au kE)) BR),
 .fl (.a2 (.bin .geq) (.a2 (.at 4 1) aB (.a2 (.bin .sub) au kE)) Sa),
 .tr (.a2 (.bin .eql) (.a2 (.at 4 0) aB (.a2 (.bin .sub) au kE)) j_4),
 .fl (.a2 (.bin .eql) (.a2 (.at 4 0) aB (.a2 (.bin .sub) au kE)) j_3),
 .tr (.a2 (.bin .eql) (.a2 (.at 4 0) aB (.a2 (.bin .sub) au kE)) j_6),
 .fl (.a2 (.bin .eql) (.a2 (.at 4 0) aB (.a2 (.bin .sub) au kE)) j_4),
 .tr (.a2 (.bin .eql) (.a2 (.at 4 0) aB (.a2 (.bin .sub) au kE)) j_5),
 .fl (.a2 (.bin .eql) (.a2 (.at 4 0) aB (.a2 (.bin .sub) au kE)) j_6),
 rQ (Abs.oo kK ag) [(pl aK j_2),di,eJ],
 rR (Abs.gX kK ag) [gj,(pl aK j_2),di,eJ],
 rQ (Abs.oo kK ag) [(pl aK j_2),cW,er],
 rR (Abs.gX kK ag) [eJ,(pl aK j_2),cW,er],
 .tr (.a2 (.bin .leq) (.a1 .len (.a2 (.at 4 3) aB (.a2 (.bin .sub) au kE))) a3O),
 .fl (.a2 (.bin .leq) (.a1 .len (.a2 (.at 4 3) aB (.a2 (.bin .sub) au kE))) a3O),
 .tr (.a2 (.bin .eql) (.a2 (.at 4 0) aB (.a2 (.bin .sub) au kE)) j_7),
 .fl (.a2 (.bin .eql) (.a2 (.at 4 0) aB (.a2 (.bin .sub) au kE)) j_5),
 .tr (.a2 (.bin .eql) (.a2 (.at 4 0) aB (.a2 (.bin .sub) au kE)) j_8),
 .fl (.a2 (.bin .eql) (.a2 (.at 4 0) aB (.a2 (.bin .sub) au kE)) j_7),
 .tr (.a2 (.bin .eql) (.a1 .len (.a2 (.at 4 3) aB (.a2 (.bin .sub) au kE))) j_2),
 .tr (.a2 (.bin .eql) (.a2 (.at 4 0) aB (.a2 (.bin .sub) au kE)) j_9),
 .fl (.a2 (.bin .eql) (.a2 (.at 4 0) aB (.a2 (.bin .sub) au kE)) j_8),
 .fl (.a2 (.bin .eql) (.a1 .len (.a2 (.at 4 3) aB (.a2 (.bin .sub) au kE))) j_2),
 .fl (.a2 (.bin .eql) (.a2 (.at 4 0) aB (.a2 (.bin .sub) au kE)) j_9),
 rQ (Abs.gX kK ag) [aK,aK,au,aB],
 .fl (.a2 (.bin .gtr) au Sa)]:List Abs.Fact).getD i (.tr (.bool true))
def a7U:List (List Nat):=[[0,1,2,3,4,5],[6,1,2,3,4,5],[7,1,2,3,4,5],[8,9,10,11,12,13,1,2,3,4,5],[14,15,16,9,10,11,12,13,1,2,3,4,5],[17,15,16,9,10,11,12,13,1,2,3,4,5],[18,15,16,9,10,11,12,13,1,2,3,4,5],[19,20,15,16,9,10,11,12,13,1,2,3,4,5],[21,22,23,9,10,11,12,13,1,2,3,4,5],[24,22,23,9,10,11,12,13,1,2,3,4,5],[25,22,23,9,10,11,12,13,1,2,3,4,5],[26,27,22,23,9,10,11,12,13,1,2,3,4,5],[28,10,11,12,13,1,2,3,4,5],[29,11,12,13,1,2,3,4,5],[30,12,13,1,2,3,4,5],[31,13,1,2,3,4,5],[8,9,32,33,34,35,1,2,3,4,5],[14,15,16,9,32,33,34,35,1,2,3,4,5],[17,15,16,9,32,33,34,35,1,2,3,4,5],[18,15,16,9,32,33,34,35,1,2,3,4,5],[19,20,15,16,9,32,33,34,35,1,2,3,4,5],[21,22,23,9,32,33,34,35,1,2,3,4,5],[24,22,23,9,32,33,34,35,1,2,3,4,5],[25,22,23,9,32,33,34,35,1,2,3,4,5],[26,27,22,23,9,32,33,34,35,1,2,3,4,5],[28,32,33,34,35,1,2,3,4,5],[36,33,34,35,1,2,3,4,5],[37,34,35,1,2,3,4,5],[8,9,10,38,39,40,41,35,1,2,3,4,5],[14,15,16,9,10,38,39,40,41,35,1,2,3,4,5],[17,15,16,9,10,38,39,40,41,35,1,2,3,4,5],[18,15,16,9,10,38,39,40,41,35,1,2,3,4,5],[19,20,15,16,9,10,38,39,40,41,35,1,2,3,4,5],[21,22,23,9,10,38,39,40,41,35,1,2,3,4,5],[24,22,23,9,10,38,39,40,41,35,1,2,3,4,5],[25,22,23,9,10,38,39,40,41,35,1,2,3,4,5],[26,27,22,23,9,10,38,39,40,41,35,1,2,3,4,5],[28,10,38,39,40,41,35,1,2,3,4,5],[29,38,39,40,41,35,1,2,3,4,5],[42,39,40,41,35,1,2,3,4,5],[43,40,41,35,1,2,3,4,5],[8,9,10,38,39,44,45,41,35,1,2,3,4,5],[14,15,16,9,10,38,39,44,45,41,35,1,2,3,4,5],[17,15,16,9,10,38,39,44,45,41,35,1,2,3,4,5],[18,15,16,9,10,38,39,44,45,41,35,1,2,3,4,5],[19,20,15,16,9,10,38,39,44,45,41,35,1,2,3,4,5],[21,22,23,9,10,38,39,44,45,41,35,1,2,3,4,5],[24,22,23,9,10,38,39,44,45,41,35,1,2,3,4,5],[25,22,23,9,10,38,39,44,45,41,35,1,2,3,4,5],[26,27,22,23,9,10,38,39,44,45,41,35,1,2,3,4,5],[28,10,38,39,44,45,41,35,1,2,3,4,5],[29,38,39,44,45,41,35,1,2,3,4,5],[42,39,44,45,41,35,1,2,3,4,5],[43,44,45,41,35,1,2,3,4,5],[8,9,10,38,39,46,47,45,41,35,1,2,3,4,5],[14,15,16,9,10,38,39,46,47,45,41,35,1,2,3,4,5],[17,15,16,9,10,38,39,46,47,45,41,35,1,2,3,4,5],[18,15,16,9,10,38,39,46,47,45,41,35,1,2,3,4,5],[19,20,15,16,9,10,38,39,46,47,45,41,35,1,2,3,4,5],[21,22,23,9,10,38,39,46,47,45,41,35,1,2,3,4,5],[24,22,23,9,10,38,39,46,47,45,41,35,1,2,3,4,5],[25,22,23,9,10,38,39,46,47,45,41,35,1,2,3,4,5],[26,27,22,23,9,10,38,39,46,47,45,41,35,1,2,3,4,5],[28,10,38,39,46,47,45,41,35,1,2,3,4,5],[29,38,39,46,47,45,41,35,1,2,3,4,5],[42,39,46,47,45,41,35,1,2,3,4,5],[43,46,47,45,41,35,1,2,3,4,5],[8,9,10,38,39,48,49,47,45,41,35,1,2,3,4,5],[14,15,16,9,10,38,39,48,49,47,45,41,35,1,2,3,4,5],[17,15,16,9,10,38,39,48,49,47,45,41,35,1,2,3,4,5],[50,15,16,9,10,38,39,48,49,47,45,41,35,1,2,3,4,5],[19,51,15,16,9,10,38,39,48,49,47,45,41,35,1,2,3,4,5],[21,22,23,9,10,38,39,48,49,47,45,41,35,1,2,3,4,5],[24,22,23,9,10,38,39,48,49,47,45,41,35,1,2,3,4,5],[52,22,23,9,10,38,39,48,49,47,45,41,35,1,2,3,4,5],[26,53,22,23,9,10,38,39,48,49,47,45,41,35,1,2,3,4,5],[8,54,28,10,38,39,48,49,47,45,41,35,1,2,3,4,5],[14,15,16,54,28,10,38,39,48,49,47,45,41,35,1,2,3,4,5],[17,15,16,54,28,10,38,39,48,49,47,45,41,35,1,2,3,4,5],[50,15,16,54,28,10,38,39,48,49,47,45,41,35,1,2,3,4,5],[19,51,15,16,54,28,10,38,39,48,49,47,45,41,35,1,2,3,4,5],[21,22,23,54,28,10,38,39,48,49,47,45,41,35,1,2,3,4,5],[24,22,23,54,28,10,38,39,48,49,47,45,41,35,1,2,3,4,5],[52,22,23,54,28,10,38,39,48,49,47,45,41,35,1,2,3,4,5],[26,53,22,23,54,28,10,38,39,48,49,47,45,41,35,1,2,3,4,5],[55,28,10,38,39,48,49,47,45,41,35,1,2,3,4,5],[29,38,39,48,49,47,45,41,35,1,2,3,4,5],[42,39,48,49,47,45,41,35,1,2,3,4,5],[43,48,49,47,45,41,35,1,2,3,4,5],[8,54,10,33,56,57,49,47,45,41,35,1,2,3,4,5],[14,15,16,54,10,33,56,57,49,47,45,41,35,1,2,3,4,5],[17,15,16,54,10,33,56,57,49,47,45,41,35,1,2,3,4,5],[50,15,16,54,10,33,56,57,49,47,45,41,35,1,2,3,4,5],[19,51,15,16,54,10,33,56,57,49,47,45,41,35,1,2,3,4,5],[21,22,23,54,10,33,56,57,49,47,45,41,35,1,2,3,4,5],[24,22,23,54,10,33,56,57,49,47,45,41,35,1,2,3,4,5],[52,22,23,54,10,33,56,57,49,47,45,41,35,1,2,3,4,5],[26,53,22,23,54,10,33,56,57,49,47,45,41,35,1,2,3,4,5],[55,10,33,56,57,49,47,45,41,35,1,2,3,4,5],[29,33,56,57,49,47,45,41,35,1,2,3,4,5],[37,56,57,49,47,45,41,35,1,2,3,4,5],[8,9,10,33,58,59,57,49,47,45,41,35,1,2,3,4,5],[14,15,16,9,10,33,58,59,57,49,47,45,41,35,1,2,3,4,5],[17,15,16,9,10,33,58,59,57,49,47,45,41,35,1,2,3,4,5],[18,15,16,9,10,33,58,59,57,49,47,45,41,35,1,2,3,4,5],[19,20,15,16,9,10,33,58,59,57,49,47,45,41,35,1,2,3,4,5],[21,22,23,9,10,33,58,59,57,49,47,45,41,35,1,2,3,4,5],[24,22,23,9,10,33,58,59,57,49,47,45,41,35,1,2,3,4,5],[25,22,23,9,10,33,58,59,57,49,47,45,41,35,1,2,3,4,5],[26,27,22,23,9,10,33,58,59,57,49,47,45,41,35,1,2,3,4,5],[28,10,33,58,59,57,49,47,45,41,35,1,2,3,4,5],[29,33,58,59,57,49,47,45,41,35,1,2,3,4,5],[37,58,59,57,49,47,45,41,35,1,2,3,4,5],[8,60,10,33,61,62,59,57,49,47,45,41,35,1,2,3,4,5],[14,15,16,60,10,33,61,62,59,57,49,47,45,41,35,1,2,3,4,5],[17,15,16,60,10,33,61,62,59,57,49,47,45,41,35,1,2,3,4,5],[18,15,16,60,10,33,61,62,59,57,49,47,45,41,35,1,2,3,4,5],[19,20,15,16,60,10,33,61,62,59,57,49,47,45,41,35,1,2,3,4,5],[21,22,23,60,10,33,61,62,59,57,49,47,45,41,35,1,2,3,4,5],[24,22,23,60,10,33,61,62,59,57,49,47,45,41,35,1,2,3,4,5],[25,22,23,60,10,33,61,62,59,57,49,47,45,41,35,1,2,3,4,5],[26,27,22,23,60,10,33,61,62,59,57,49,47,45,41,35,1,2,3,4,5],[63,10,33,61,62,59,57,49,47,45,41,35,1,2,3,4,5],[29,33,61,62,59,57,49,47,45,41,35,1,2,3,4,5],[37,61,62,59,57,49,47,45,41,35,1,2,3,4,5],[64,62,59,57,49,47,45,41,35,1,2,3,4,5],[65,66,2,3,4,5]]
set_option maxRecDepth 100000 in
theorem a0Y(N:Nat)(tl:List Deferred):Abs.R.res (λ_=>true) ((Abs.Et (BQ [Abs.fD Tryz.prog kC "" (Abs.dh kK ag N) (Abs.qI kK ag) (Abs.oo kK ag) (Abs.gX kK ag),Abs.gO Tryz.prog kC "" (Abs.gK kK ag 1073741824 N) (Abs.dh kK ag N) (Abs.lZ kK ag)] []) 1000000 ((Abs.fD Tryz.prog kC "" (Abs.dh kK ag (N+1)) (Abs.qI kK ag) (Abs.oo kK ag) (Abs.gX kK ag)).fi tl) (Abs.fD Tryz.prog kC "" (Abs.dh kK ag (N+1)) (Abs.qI kK ag) (Abs.oo kK ag) (Abs.gX kK ag)).tr (Abs.fD Tryz.prog kC "" (Abs.dh kK ag (N+1)) (Abs.qI kK ag) (Abs.oo kK ag) (Abs.gX kK ag)).todo [] .run none (Abs.fD Tryz.prog kC "" (Abs.dh kK ag (N+1)) (Abs.qI kK ag) (Abs.oo kK ag) (Abs.gX kK ag)).S2).bind (Abs.uY (BQ [Abs.fD Tryz.prog kC "" (Abs.dh kK ag N) (Abs.qI kK ag) (Abs.oo kK ag) (Abs.gX kK ag),Abs.gO Tryz.prog kC "" (Abs.gK kK ag 1073741824 N) (Abs.dh kK ag N) (Abs.lZ kK ag)] []) (Abs.fD Tryz.prog kC "" (Abs.dh kK ag (N+1)) (Abs.qI kK ag) (Abs.oo kK ag) (Abs.gX kK ag))))=some (a7U.map λr=>r.map (a5U N)):=by kernel_rfl
theorem WS{N:Nat}(e:N+1<=1073741824)(Q:Abs.fy Tryz.prog (Abs.fD Tryz.prog kC "" (Abs.dh kK ag N) (Abs.qI kK ag) (Abs.oo kK ag) (Abs.gX kK ag))):Abs.fy Tryz.prog (Abs.fD Tryz.prog kC "" (Abs.dh kK ag (N+1)) (Abs.qI kK ag) (Abs.oo kK ag) (Abs.gX kK ag)):=Abs.Dq (Hf (λ_ h=>by cases h) (λc h=>by cases h with|head=>exact Q|tail _ h=>cases h with|head=>exact a4e (by omega) _|tail _ h=>cases h)) zH _ 1000000 (a0Y N)
 (Abs.sS (F:=a5U N) (Rm:=[[0,1,3],[6,1,3],[7,1,3],[8,1,3],[14,15],[17,16,1,3,4],[18,16,1,3,5],[19,20,16,1,3,5],[21,22],[24,23,1,3,4],[25,23,1,3,5],[26,27,23,1,3,5],[1,3,4,28,10,11,12,13],[1,3,4,29,11,12,13],[1,3,4,30,12,13],[1,3,4,31,13],[1,3,4,28,32,33,34,35],[1,3,4,36,33,34,35],[1,3,4,37,34,35],[1,3,4,28,10,38,39,40,41,35],[1,3,4,29,38,39,40,41,35],[1,3,4,42,39,40,41,35],[1,3,4,43,40,41,35],[1,3,4,28,10,38,39,44,45,41,35],[1,3,4,29,38,39,44,45,41,35],[1,3,4,42,39,44,45,41,35],[1,3,4,43,44,45,41,35],[1,3,4,28,10,38,39,46,47,45,41,35],[1,3,4,29,38,39,46,47,45,41,35],[1,3,4,42,39,46,47,45,41,35],[1,3,4,43,46,47,45,41,35],[50,16,1,3,5],[19,51,16,1,3,5],[52,23,1,3,5],[26,53,23,1,3,5],[1,3,4,55,28,10,38,39,48,49,47,45,41,35],[1,3,4,29,38,39,48,49,47,45,41,35],[1,3,4,42,39,48,49,47,45,41,35],[1,3,4,43,48,49,47,45,41,35],[1,3,4,55,10,33,56,57,49,47,45,41,35],[1,3,4,29,33,56,57,49,47,45,41,35],[1,3,4,37,56,57,49,47,45,41,35],[1,3,4,28,10,33,58,59,57,49,47,45,41,35],[1,3,4,29,33,58,59,57,49,47,45,41,35],[1,3,4,37,58,59,57,49,47,45,41,35],[1,3,4,63,10,33,61,62,59,57,49,47,45,41,35],[1,3,4,29,33,61,62,59,57,49,47,45,41,35],[1,3,4,37,61,62,59,57,49,47,45,41,35],[1,3,4,64,62,59,57,49,47,45,41,35],[65,5]]) (λp P E h=>by
   simp only[cC,fJ,fm]at P;rcases P with rfl|rfl|rfl|rfl|rfl|rfl|rfl|rfl|rfl|rfl|rfl|rfl|rfl|rfl|rfl|rfl|rfl|rfl|rfl|rfl|rfl|rfl|rfl|rfl|rfl|rfl|rfl|rfl|rfl|rfl|rfl|rfl|rfl|rfl|rfl|rfl|rfl|rfl|rfl|rfl|rfl|rfl|rfl|rfl|rfl|rfl|rfl|rfl|rfl|rfl
   .exact Abs.V6 e (h 3 (by simp)) (h 1 (by simp)) (h 0 (by simp))
   .exact Abs.Rs e (h 3 (by simp)) (h 1 (by simp)) (h 6 (by simp))
   .exact Abs.V7 e (h 3 (by simp)) (h 1 (by simp)) (h 7 (by simp))
   .exact Abs.Rt kN e (bD _) (h 3 (by simp)) (h 1 (by simp)) (h 8 (by simp))
   .exact(h 14 (by simp)) (h 15 (by simp))
   .exact Abs.Jv kN e (h 3 (by simp)) (h 1 (by simp)) (h 16 (by simp)) (h 4 (by simp)) (h 17 (by simp))
   .exact Abs.AN kN e (by decide) (h 3 (by simp)) (h 1 (by simp)) (h 16 (by simp)) (h 5 (by simp)) (h 18 (by simp))
   .exact Abs.w6 kN e (by decide) (h 3 (by simp)) (h 1 (by simp)) (h 16 (by simp)) (h 5 (by simp)) (h 20 (by simp)) (h 19 (by simp))
   .exact(h 21 (by simp)) (h 22 (by simp))
   .exact Abs.Jv kN e (h 3 (by simp)) (h 1 (by simp)) (h 23 (by simp)) (h 4 (by simp)) (h 24 (by simp))
   .exact Abs.AN kN e (by decide) (h 3 (by simp)) (h 1 (by simp)) (h 23 (by simp)) (h 5 (by simp)) (h 25 (by simp))
   .exact Abs.w6 kN e (by decide) (h 3 (by simp)) (h 1 (by simp)) (h 23 (by simp)) (h 5 (by simp)) (h 27 (by simp)) (h 26 (by simp))
   .exact absurd (Abs.cR kN e (h 3 (by simp)) (h 1 (by simp)) (h 4 (by simp))) (by
    rintro⟨k,i,str,l,e0,e1,e2,e3,a⟩;have J:=Abs.cU e2;have t:=Abs.ah (c:=0) (h 28 (by simp)) e3;have o:=Abs.nZ (h 10 (by simp)) e2;have M:=Abs.jd (c:=576460752303423487) (h 11 (by simp)) e1;have G:=Abs.fR (c:=(-576460752303423488)) (h 12 (by simp)) e1;have v:=Abs.bN (c:=1) (h 13 (by simp)) e0;unfold Abs.da at a;omega)
   .exact absurd (Abs.cR kN e (h 3 (by simp)) (h 1 (by simp)) (h 4 (by simp))) (by
    rintro⟨k,i,str,l,e0,e1,e2,e3,a⟩;have J:=Abs.cU e2;have q:=Abs.n0 (h 29 (by simp)) e2;have M:=Abs.jd (c:=576460752303423487) (h 11 (by simp)) e1;have G:=Abs.fR (c:=(-576460752303423488)) (h 12 (by simp)) e1;have v:=Abs.bN (c:=1) (h 13 (by simp)) e0;unfold Abs.da at a;omega)
   .exact absurd (Abs.cR kN e (h 3 (by simp)) (h 1 (by simp)) (h 4 (by simp))) (by
    rintro⟨k,i,str,l,e0,e1,e2,e3,a⟩;have J:=Abs.cU e2;have R:=Abs.n3 (c:=576460752303423487) (h 30 (by simp)) e1;have G:=Abs.fR (c:=(-576460752303423488)) (h 12 (by simp)) e1;have v:=Abs.bN (c:=1) (h 13 (by simp)) e0;unfold Abs.da at a;omega)
   .exact absurd (Abs.cR kN e (h 3 (by simp)) (h 1 (by simp)) (h 4 (by simp))) (by
    rintro⟨k,i,str,l,e0,e1,e2,e3,a⟩;have J:=Abs.cU e2;have S:=Abs.wI (c:=(-576460752303423488)) (h 31 (by simp)) e1;have v:=Abs.bN (c:=1) (h 13 (by simp)) e0;unfold Abs.da at a;omega)
   .exact absurd (Abs.cR kN e (h 3 (by simp)) (h 1 (by simp)) (h 4 (by simp))) (by
    rintro⟨k,i,str,l,e0,e1,e2,e3,a⟩;have J:=Abs.cU e2;have t:=Abs.ah (c:=0) (h 28 (by simp)) e3;have T:=Abs.jd (c:=64) (h 32 (by simp)) J;have r:=Abs.bN (c:=0) (h 33 (by simp)) e1;have H:=Abs.bN (c:=2) (h 34 (by simp)) e0;have b:=Abs.ah (c:=1) (h 35 (by simp)) e0;unfold Abs.da at a;omega)
   .exact absurd (Abs.cR kN e (h 3 (by simp)) (h 1 (by simp)) (h 4 (by simp))) (by
    rintro⟨k,i,str,l,e0,e1,e2,e3,a⟩;have J:=Abs.cU e2;have U:=Abs.n3 (c:=64) (h 36 (by simp)) J;have r:=Abs.bN (c:=0) (h 33 (by simp)) e1;have H:=Abs.bN (c:=2) (h 34 (by simp)) e0;have b:=Abs.ah (c:=1) (h 35 (by simp)) e0;unfold Abs.da at a;omega)
   .exact absurd (Abs.cR kN e (h 3 (by simp)) (h 1 (by simp)) (h 4 (by simp))) (by
    rintro⟨k,i,str,l,e0,e1,e2,e3,a⟩;have J:=Abs.cU e2;have w:=Abs.ah (c:=0) (h 37 (by simp)) e1;have H:=Abs.bN (c:=2) (h 34 (by simp)) e0;have b:=Abs.ah (c:=1) (h 35 (by simp)) e0;unfold Abs.da at a;omega)
   .exact absurd (Abs.cR kN e (h 3 (by simp)) (h 1 (by simp)) (h 4 (by simp))) (by
    rintro⟨k,i,str,l,e0,e1,e2,e3,a⟩;have J:=Abs.cU e2;have t:=Abs.ah (c:=0) (h 28 (by simp)) e3;have o:=Abs.nZ (h 10 (by simp)) e2;have s:=Abs.jd (c:=1073741824) (h 38 (by simp)) e1;have m:=Abs.fR (c:=0) (h 39 (by simp)) e1;have x:=Abs.bN (c:=3) (h 40 (by simp)) e0;have d:=Abs.ah (c:=2) (h 41 (by simp)) e0;have b:=Abs.ah (c:=1) (h 35 (by simp)) e0;unfold Abs.da at a;omega)
   .exact absurd (Abs.cR kN e (h 3 (by simp)) (h 1 (by simp)) (h 4 (by simp))) (by
    rintro⟨k,i,str,l,e0,e1,e2,e3,a⟩;have J:=Abs.cU e2;have q:=Abs.n0 (h 29 (by simp)) e2;have s:=Abs.jd (c:=1073741824) (h 38 (by simp)) e1;have m:=Abs.fR (c:=0) (h 39 (by simp)) e1;have x:=Abs.bN (c:=3) (h 40 (by simp)) e0;have d:=Abs.ah (c:=2) (h 41 (by simp)) e0;have b:=Abs.ah (c:=1) (h 35 (by simp)) e0;unfold Abs.da at a;omega)
   .exact absurd (Abs.cR kN e (h 3 (by simp)) (h 1 (by simp)) (h 4 (by simp))) (by
    rintro⟨k,i,str,l,e0,e1,e2,e3,a⟩;have J:=Abs.cU e2;have y:=Abs.n3 (c:=1073741824) (h 42 (by simp)) e1;have m:=Abs.fR (c:=0) (h 39 (by simp)) e1;have x:=Abs.bN (c:=3) (h 40 (by simp)) e0;have d:=Abs.ah (c:=2) (h 41 (by simp)) e0;have b:=Abs.ah (c:=1) (h 35 (by simp)) e0;unfold Abs.da at a;omega)
   .exact absurd (Abs.cR kN e (h 3 (by simp)) (h 1 (by simp)) (h 4 (by simp))) (by
    rintro⟨k,i,str,l,e0,e1,e2,e3,a⟩;have J:=Abs.cU e2;have z:=Abs.wI (c:=0) (h 43 (by simp)) e1;have x:=Abs.bN (c:=3) (h 40 (by simp)) e0;have d:=Abs.ah (c:=2) (h 41 (by simp)) e0;have b:=Abs.ah (c:=1) (h 35 (by simp)) e0;unfold Abs.da at a;omega)
   .exact absurd (Abs.cR kN e (h 3 (by simp)) (h 1 (by simp)) (h 4 (by simp))) (by
    rintro⟨k,i,str,l,e0,e1,e2,e3,a⟩;have J:=Abs.cU e2;have t:=Abs.ah (c:=0) (h 28 (by simp)) e3;have o:=Abs.nZ (h 10 (by simp)) e2;have s:=Abs.jd (c:=1073741824) (h 38 (by simp)) e1;have m:=Abs.fR (c:=0) (h 39 (by simp)) e1;have A:=Abs.bN (c:=4) (h 44 (by simp)) e0;have f:=Abs.ah (c:=3) (h 45 (by simp)) e0;have d:=Abs.ah (c:=2) (h 41 (by simp)) e0;have b:=Abs.ah (c:=1) (h 35 (by simp)) e0;unfold Abs.da at a;omega)
   .exact absurd (Abs.cR kN e (h 3 (by simp)) (h 1 (by simp)) (h 4 (by simp))) (by
    rintro⟨k,i,str,l,e0,e1,e2,e3,a⟩;have J:=Abs.cU e2;have q:=Abs.n0 (h 29 (by simp)) e2;have s:=Abs.jd (c:=1073741824) (h 38 (by simp)) e1;have m:=Abs.fR (c:=0) (h 39 (by simp)) e1;have A:=Abs.bN (c:=4) (h 44 (by simp)) e0;have f:=Abs.ah (c:=3) (h 45 (by simp)) e0;have d:=Abs.ah (c:=2) (h 41 (by simp)) e0;have b:=Abs.ah (c:=1) (h 35 (by simp)) e0;unfold Abs.da at a;omega)
   .exact absurd (Abs.cR kN e (h 3 (by simp)) (h 1 (by simp)) (h 4 (by simp))) (by
    rintro⟨k,i,str,l,e0,e1,e2,e3,a⟩;have J:=Abs.cU e2;have y:=Abs.n3 (c:=1073741824) (h 42 (by simp)) e1;have m:=Abs.fR (c:=0) (h 39 (by simp)) e1;have A:=Abs.bN (c:=4) (h 44 (by simp)) e0;have f:=Abs.ah (c:=3) (h 45 (by simp)) e0;have d:=Abs.ah (c:=2) (h 41 (by simp)) e0;have b:=Abs.ah (c:=1) (h 35 (by simp)) e0;unfold Abs.da at a;omega)
   .exact absurd (Abs.cR kN e (h 3 (by simp)) (h 1 (by simp)) (h 4 (by simp))) (by
    rintro⟨k,i,str,l,e0,e1,e2,e3,a⟩;have J:=Abs.cU e2;have z:=Abs.wI (c:=0) (h 43 (by simp)) e1;have A:=Abs.bN (c:=4) (h 44 (by simp)) e0;have f:=Abs.ah (c:=3) (h 45 (by simp)) e0;have d:=Abs.ah (c:=2) (h 41 (by simp)) e0;have b:=Abs.ah (c:=1) (h 35 (by simp)) e0;unfold Abs.da at a;omega)
   .exact absurd (Abs.cR kN e (h 3 (by simp)) (h 1 (by simp)) (h 4 (by simp))) (by
    rintro⟨k,i,str,l,e0,e1,e2,e3,a⟩;have J:=Abs.cU e2;have t:=Abs.ah (c:=0) (h 28 (by simp)) e3;have o:=Abs.nZ (h 10 (by simp)) e2;have s:=Abs.jd (c:=1073741824) (h 38 (by simp)) e1;have m:=Abs.fR (c:=0) (h 39 (by simp)) e1;have B:=Abs.bN (c:=6) (h 46 (by simp)) e0;have g:=Abs.ah (c:=4) (h 47 (by simp)) e0;have f:=Abs.ah (c:=3) (h 45 (by simp)) e0;have d:=Abs.ah (c:=2) (h 41 (by simp)) e0;have b:=Abs.ah (c:=1) (h 35 (by simp)) e0;unfold Abs.da at a;omega)
   .exact absurd (Abs.cR kN e (h 3 (by simp)) (h 1 (by simp)) (h 4 (by simp))) (by
    rintro⟨k,i,str,l,e0,e1,e2,e3,a⟩;have J:=Abs.cU e2;have q:=Abs.n0 (h 29 (by simp)) e2;have s:=Abs.jd (c:=1073741824) (h 38 (by simp)) e1;have m:=Abs.fR (c:=0) (h 39 (by simp)) e1;have B:=Abs.bN (c:=6) (h 46 (by simp)) e0;have g:=Abs.ah (c:=4) (h 47 (by simp)) e0;have f:=Abs.ah (c:=3) (h 45 (by simp)) e0;have d:=Abs.ah (c:=2) (h 41 (by simp)) e0;have b:=Abs.ah (c:=1) (h 35 (by simp)) e0;unfold Abs.da at a;omega)
   .exact absurd (Abs.cR kN e (h 3 (by simp)) (h 1 (by simp)) (h 4 (by simp))) (by
    rintro⟨k,i,str,l,e0,e1,e2,e3,a⟩;have J:=Abs.cU e2;have y:=Abs.n3 (c:=1073741824) (h 42 (by simp)) e1;have m:=Abs.fR (c:=0) (h 39 (by simp)) e1;have B:=Abs.bN (c:=6) (h 46 (by simp)) e0;have g:=Abs.ah (c:=4) (h 47 (by simp)) e0;have f:=Abs.ah (c:=3) (h 45 (by simp)) e0;have d:=Abs.ah (c:=2) (h 41 (by simp)) e0;have b:=Abs.ah (c:=1) (h 35 (by simp)) e0;unfold Abs.da at a;omega)
   .exact absurd (Abs.cR kN e (h 3 (by simp)) (h 1 (by simp)) (h 4 (by simp))) (by
    rintro⟨k,i,str,l,e0,e1,e2,e3,a⟩;have J:=Abs.cU e2;have z:=Abs.wI (c:=0) (h 43 (by simp)) e1;have B:=Abs.bN (c:=6) (h 46 (by simp)) e0;have g:=Abs.ah (c:=4) (h 47 (by simp)) e0;have f:=Abs.ah (c:=3) (h 45 (by simp)) e0;have d:=Abs.ah (c:=2) (h 41 (by simp)) e0;have b:=Abs.ah (c:=1) (h 35 (by simp)) e0;unfold Abs.da at a;omega)
   .exact Abs.AN kN e (by decide) (h 3 (by simp)) (h 1 (by simp)) (h 16 (by simp)) (h 5 (by simp)) (h 50 (by simp))
   .exact Abs.w6 kN e (by decide) (h 3 (by simp)) (h 1 (by simp)) (h 16 (by simp)) (h 5 (by simp)) (h 51 (by simp)) (h 19 (by simp))
   .exact Abs.AN kN e (by decide) (h 3 (by simp)) (h 1 (by simp)) (h 23 (by simp)) (h 5 (by simp)) (h 52 (by simp))
   .exact Abs.w6 kN e (by decide) (h 3 (by simp)) (h 1 (by simp)) (h 23 (by simp)) (h 5 (by simp)) (h 53 (by simp)) (h 26 (by simp))
   .exact absurd (Abs.cR kN e (h 3 (by simp)) (h 1 (by simp)) (h 4 (by simp))) (by
    rintro⟨k,i,str,l,e0,e1,e2,e3,a⟩;have J:=Abs.cU e2;have O:=Abs.n3 (c:=64) (h 55 (by simp)) e3;have t:=Abs.ah (c:=0) (h 28 (by simp)) e3;have o:=Abs.nZ (h 10 (by simp)) e2;have s:=Abs.jd (c:=1073741824) (h 38 (by simp)) e1;have m:=Abs.fR (c:=0) (h 39 (by simp)) e1;have C:=Abs.bN (c:=5) (h 48 (by simp)) e0;have j:=Abs.ah (c:=6) (h 49 (by simp)) e0;have g:=Abs.ah (c:=4) (h 47 (by simp)) e0;have f:=Abs.ah (c:=3) (h 45 (by simp)) e0;have d:=Abs.ah (c:=2) (h 41 (by simp)) e0;have b:=Abs.ah (c:=1) (h 35 (by simp)) e0;unfold Abs.da at a;omega)
   .exact absurd (Abs.cR kN e (h 3 (by simp)) (h 1 (by simp)) (h 4 (by simp))) (by
    rintro⟨k,i,str,l,e0,e1,e2,e3,a⟩;have J:=Abs.cU e2;have q:=Abs.n0 (h 29 (by simp)) e2;have s:=Abs.jd (c:=1073741824) (h 38 (by simp)) e1;have m:=Abs.fR (c:=0) (h 39 (by simp)) e1;have C:=Abs.bN (c:=5) (h 48 (by simp)) e0;have j:=Abs.ah (c:=6) (h 49 (by simp)) e0;have g:=Abs.ah (c:=4) (h 47 (by simp)) e0;have f:=Abs.ah (c:=3) (h 45 (by simp)) e0;have d:=Abs.ah (c:=2) (h 41 (by simp)) e0;have b:=Abs.ah (c:=1) (h 35 (by simp)) e0;unfold Abs.da at a;omega)
   .exact absurd (Abs.cR kN e (h 3 (by simp)) (h 1 (by simp)) (h 4 (by simp))) (by
    rintro⟨k,i,str,l,e0,e1,e2,e3,a⟩;have J:=Abs.cU e2;have y:=Abs.n3 (c:=1073741824) (h 42 (by simp)) e1;have m:=Abs.fR (c:=0) (h 39 (by simp)) e1;have C:=Abs.bN (c:=5) (h 48 (by simp)) e0;have j:=Abs.ah (c:=6) (h 49 (by simp)) e0;have g:=Abs.ah (c:=4) (h 47 (by simp)) e0;have f:=Abs.ah (c:=3) (h 45 (by simp)) e0;have d:=Abs.ah (c:=2) (h 41 (by simp)) e0;have b:=Abs.ah (c:=1) (h 35 (by simp)) e0;unfold Abs.da at a;omega)
   .exact absurd (Abs.cR kN e (h 3 (by simp)) (h 1 (by simp)) (h 4 (by simp))) (by
    rintro⟨k,i,str,l,e0,e1,e2,e3,a⟩;have J:=Abs.cU e2;have z:=Abs.wI (c:=0) (h 43 (by simp)) e1;have C:=Abs.bN (c:=5) (h 48 (by simp)) e0;have j:=Abs.ah (c:=6) (h 49 (by simp)) e0;have g:=Abs.ah (c:=4) (h 47 (by simp)) e0;have f:=Abs.ah (c:=3) (h 45 (by simp)) e0;have d:=Abs.ah (c:=2) (h 41 (by simp)) e0;have b:=Abs.ah (c:=1) (h 35 (by simp)) e0;unfold Abs.da at a;omega)
   .exact absurd (Abs.cR kN e (h 3 (by simp)) (h 1 (by simp)) (h 4 (by simp))) (by
    rintro⟨k,i,str,l,e0,e1,e2,e3,a⟩;have J:=Abs.cU e2;have O:=Abs.n3 (c:=64) (h 55 (by simp)) e3;have o:=Abs.nZ (h 10 (by simp)) e2;have r:=Abs.bN (c:=0) (h 33 (by simp)) e1;have I:=Abs.bN (c:=7) (h 56 (by simp)) e0;have n:=Abs.ah (c:=5) (h 57 (by simp)) e0;have j:=Abs.ah (c:=6) (h 49 (by simp)) e0;have g:=Abs.ah (c:=4) (h 47 (by simp)) e0;have f:=Abs.ah (c:=3) (h 45 (by simp)) e0;have d:=Abs.ah (c:=2) (h 41 (by simp)) e0;have b:=Abs.ah (c:=1) (h 35 (by simp)) e0;unfold Abs.da at a;omega)
   .exact absurd (Abs.cR kN e (h 3 (by simp)) (h 1 (by simp)) (h 4 (by simp))) (by
    rintro⟨k,i,str,l,e0,e1,e2,e3,a⟩;have J:=Abs.cU e2;have q:=Abs.n0 (h 29 (by simp)) e2;have r:=Abs.bN (c:=0) (h 33 (by simp)) e1;have I:=Abs.bN (c:=7) (h 56 (by simp)) e0;have n:=Abs.ah (c:=5) (h 57 (by simp)) e0;have j:=Abs.ah (c:=6) (h 49 (by simp)) e0;have g:=Abs.ah (c:=4) (h 47 (by simp)) e0;have f:=Abs.ah (c:=3) (h 45 (by simp)) e0;have d:=Abs.ah (c:=2) (h 41 (by simp)) e0;have b:=Abs.ah (c:=1) (h 35 (by simp)) e0;unfold Abs.da at a;omega)
   .exact absurd (Abs.cR kN e (h 3 (by simp)) (h 1 (by simp)) (h 4 (by simp))) (by
    rintro⟨k,i,str,l,e0,e1,e2,e3,a⟩;have J:=Abs.cU e2;have w:=Abs.ah (c:=0) (h 37 (by simp)) e1;have I:=Abs.bN (c:=7) (h 56 (by simp)) e0;have n:=Abs.ah (c:=5) (h 57 (by simp)) e0;have j:=Abs.ah (c:=6) (h 49 (by simp)) e0;have g:=Abs.ah (c:=4) (h 47 (by simp)) e0;have f:=Abs.ah (c:=3) (h 45 (by simp)) e0;have d:=Abs.ah (c:=2) (h 41 (by simp)) e0;have b:=Abs.ah (c:=1) (h 35 (by simp)) e0;unfold Abs.da at a;omega)
   .exact absurd (Abs.cR kN e (h 3 (by simp)) (h 1 (by simp)) (h 4 (by simp))) (by
    rintro⟨k,i,str,l,e0,e1,e2,e3,a⟩;have J:=Abs.cU e2;have t:=Abs.ah (c:=0) (h 28 (by simp)) e3;have o:=Abs.nZ (h 10 (by simp)) e2;have r:=Abs.bN (c:=0) (h 33 (by simp)) e1;have K:=Abs.bN (c:=8) (h 58 (by simp)) e0;have u:=Abs.ah (c:=7) (h 59 (by simp)) e0;have n:=Abs.ah (c:=5) (h 57 (by simp)) e0;have j:=Abs.ah (c:=6) (h 49 (by simp)) e0;have g:=Abs.ah (c:=4) (h 47 (by simp)) e0;have f:=Abs.ah (c:=3) (h 45 (by simp)) e0;have d:=Abs.ah (c:=2) (h 41 (by simp)) e0;have b:=Abs.ah (c:=1) (h 35 (by simp)) e0;unfold Abs.da at a;omega)
   .exact absurd (Abs.cR kN e (h 3 (by simp)) (h 1 (by simp)) (h 4 (by simp))) (by
    rintro⟨k,i,str,l,e0,e1,e2,e3,a⟩;have J:=Abs.cU e2;have q:=Abs.n0 (h 29 (by simp)) e2;have r:=Abs.bN (c:=0) (h 33 (by simp)) e1;have K:=Abs.bN (c:=8) (h 58 (by simp)) e0;have u:=Abs.ah (c:=7) (h 59 (by simp)) e0;have n:=Abs.ah (c:=5) (h 57 (by simp)) e0;have j:=Abs.ah (c:=6) (h 49 (by simp)) e0;have g:=Abs.ah (c:=4) (h 47 (by simp)) e0;have f:=Abs.ah (c:=3) (h 45 (by simp)) e0;have d:=Abs.ah (c:=2) (h 41 (by simp)) e0;have b:=Abs.ah (c:=1) (h 35 (by simp)) e0;unfold Abs.da at a;omega)
   .exact absurd (Abs.cR kN e (h 3 (by simp)) (h 1 (by simp)) (h 4 (by simp))) (by
    rintro⟨k,i,str,l,e0,e1,e2,e3,a⟩;have J:=Abs.cU e2;have w:=Abs.ah (c:=0) (h 37 (by simp)) e1;have K:=Abs.bN (c:=8) (h 58 (by simp)) e0;have u:=Abs.ah (c:=7) (h 59 (by simp)) e0;have n:=Abs.ah (c:=5) (h 57 (by simp)) e0;have j:=Abs.ah (c:=6) (h 49 (by simp)) e0;have g:=Abs.ah (c:=4) (h 47 (by simp)) e0;have f:=Abs.ah (c:=3) (h 45 (by simp)) e0;have d:=Abs.ah (c:=2) (h 41 (by simp)) e0;have b:=Abs.ah (c:=1) (h 35 (by simp)) e0;unfold Abs.da at a;omega)
   .exact absurd (Abs.cR kN e (h 3 (by simp)) (h 1 (by simp)) (h 4 (by simp))) (by
    rintro⟨k,i,str,l,e0,e1,e2,e3,a⟩;have J:=Abs.cU e2;have V:=Abs.ah (c:=2) (h 63 (by simp)) e3;have o:=Abs.nZ (h 10 (by simp)) e2;have r:=Abs.bN (c:=0) (h 33 (by simp)) e1;have L:=Abs.bN (c:=9) (h 61 (by simp)) e0;have D:=Abs.ah (c:=8) (h 62 (by simp)) e0;have u:=Abs.ah (c:=7) (h 59 (by simp)) e0;have n:=Abs.ah (c:=5) (h 57 (by simp)) e0;have j:=Abs.ah (c:=6) (h 49 (by simp)) e0;have g:=Abs.ah (c:=4) (h 47 (by simp)) e0;have f:=Abs.ah (c:=3) (h 45 (by simp)) e0;have d:=Abs.ah (c:=2) (h 41 (by simp)) e0;have b:=Abs.ah (c:=1) (h 35 (by simp)) e0;unfold Abs.da at a;omega)
   .exact absurd (Abs.cR kN e (h 3 (by simp)) (h 1 (by simp)) (h 4 (by simp))) (by
    rintro⟨k,i,str,l,e0,e1,e2,e3,a⟩;have J:=Abs.cU e2;have q:=Abs.n0 (h 29 (by simp)) e2;have r:=Abs.bN (c:=0) (h 33 (by simp)) e1;have L:=Abs.bN (c:=9) (h 61 (by simp)) e0;have D:=Abs.ah (c:=8) (h 62 (by simp)) e0;have u:=Abs.ah (c:=7) (h 59 (by simp)) e0;have n:=Abs.ah (c:=5) (h 57 (by simp)) e0;have j:=Abs.ah (c:=6) (h 49 (by simp)) e0;have g:=Abs.ah (c:=4) (h 47 (by simp)) e0;have f:=Abs.ah (c:=3) (h 45 (by simp)) e0;have d:=Abs.ah (c:=2) (h 41 (by simp)) e0;have b:=Abs.ah (c:=1) (h 35 (by simp)) e0;unfold Abs.da at a;omega)
   .exact absurd (Abs.cR kN e (h 3 (by simp)) (h 1 (by simp)) (h 4 (by simp))) (by
    rintro⟨k,i,str,l,e0,e1,e2,e3,a⟩;have J:=Abs.cU e2;have w:=Abs.ah (c:=0) (h 37 (by simp)) e1;have L:=Abs.bN (c:=9) (h 61 (by simp)) e0;have D:=Abs.ah (c:=8) (h 62 (by simp)) e0;have u:=Abs.ah (c:=7) (h 59 (by simp)) e0;have n:=Abs.ah (c:=5) (h 57 (by simp)) e0;have j:=Abs.ah (c:=6) (h 49 (by simp)) e0;have g:=Abs.ah (c:=4) (h 47 (by simp)) e0;have f:=Abs.ah (c:=3) (h 45 (by simp)) e0;have d:=Abs.ah (c:=2) (h 41 (by simp)) e0;have b:=Abs.ah (c:=1) (h 35 (by simp)) e0;unfold Abs.da at a;omega)
   .exact absurd (Abs.cR kN e (h 3 (by simp)) (h 1 (by simp)) (h 4 (by simp))) (by
    rintro⟨k,i,str,l,e0,e1,e2,e3,a⟩;have J:=Abs.cU e2;have W:=Abs.ah (c:=9) (h 64 (by simp)) e0;have D:=Abs.ah (c:=8) (h 62 (by simp)) e0;have u:=Abs.ah (c:=7) (h 59 (by simp)) e0;have n:=Abs.ah (c:=5) (h 57 (by simp)) e0;have j:=Abs.ah (c:=6) (h 49 (by simp)) e0;have g:=Abs.ah (c:=4) (h 47 (by simp)) e0;have f:=Abs.ah (c:=3) (h 45 (by simp)) e0;have d:=Abs.ah (c:=2) (h 41 (by simp)) e0;have b:=Abs.ah (c:=1) (h 35 (by simp)) e0;unfold Abs.da at a;omega)
   .exact Abs.X8 (h 5 (by simp)) (h 65 (by simp))) (by kernel_rfl))
set_option maxRecDepth 100000 in
theorem a4c(N:Nat)(a:N<=1073741824):Abs.fy Tryz.prog (Abs.fD Tryz.prog kC "" (Abs.dh kK ag N) (Abs.qI kK ag) (Abs.oo kK ag) (Abs.gX kK ag)):=Abs.LS (c:=λN=>Abs.fD Tryz.prog kC "" (Abs.dh kK ag N) (Abs.qI kK ag) (Abs.oo kK ag) (Abs.gX kK ag)) (B:=1073741824) (Abs.o9 λ_ b=>Abs.Wz (b _ bB)) (λ_ d h=>WS d h) N a
def a0Z:Nat->Abs.Fact:=λi=>([
 rQ (Abs.dh kK ag kB) [kE,(s4 (.a1 (.nl [(.int .i64),(.int .i64),.str,(.sl 24)]) (.bool true)) aX aH af aj)],
 rR (Abs.oG kK ag kB) [aX,aH,af,aj],
 rR Abs.pY [aX,aH,af,aj],
 rQ (Abs.qI kK ag) [kE,(s4 (.a1 (.nl [(.int .i64),(.int .i64),.str,(.sl 24)]) (.bool true)) aX aH af aj)],
 rQ (Abs.oo kK ag) [Sa,kE,(s4 (.a1 (.nl [(.int .i64),(.int .i64),.str,(.sl 24)]) (.bool true)) aX aH af aj)],
 .tr (.a2 (.bin .gtr) bC a3N),
 rR (Abs.gX kK ag) [bC,Sa,kE,(s4 (.a1 (.nl [(.int .i64),(.int .i64),.str,(.sl 24)]) (.bool true)) aX aH af aj)]]:List Abs.Fact).getD i (.tr (.bool true))
def a4d:List (List Nat):=[[0,1,2],[3,1,2],[4,1,2],[5,6,1,2]]
set_option maxRecDepth 100000 in
theorem WT(tl:List Deferred):Abs.R.res (λ_=>true) ((Abs.Et (BQ [Abs.fD Tryz.prog kC "" (Abs.dh kK ag kB) (Abs.qI kK ag) (Abs.oo kK ag) (Abs.gX kK ag)] []) 1000000 ((Abs.pd Tryz.prog kC (Abs.oG kK ag kB) Abs.pY).fi tl) (Abs.pd Tryz.prog kC (Abs.oG kK ag kB) Abs.pY).tr (Abs.pd Tryz.prog kC (Abs.oG kK ag kB) Abs.pY).todo [] .run none (Abs.pd Tryz.prog kC (Abs.oG kK ag kB) Abs.pY).S2).bind (Abs.uY (BQ [Abs.fD Tryz.prog kC "" (Abs.dh kK ag kB) (Abs.qI kK ag) (Abs.oo kK ag) (Abs.gX kK ag)] []) (Abs.pd Tryz.prog kC (Abs.oG kK ag kB) Abs.pY)))=some (a4d.map λr=>r.map (a0Z)):=by kernel_rfl
theorem a8z:Abs.fy Tryz.prog (Abs.pd Tryz.prog kC (Abs.oG kK ag kB) Abs.pY):=Abs.Dq (Hf (λ_ h=>by cases h) (λc h=>by cases h with|head=>exact a4c _ (b7 (by kernel_rfl))|tail _ h=>cases h)) zH _ 1000000 (WT)
 (Abs.sS (F:=a0Z) (Rm:=[[0,1],[3,1,2],[4,1],[5,1,6]]) (λp a E h=>by
   simp only[cC,fJ,fm]at a;rcases a with rfl|rfl|rfl|rfl
   .exact Abs.P0 kN (h 1 (by simp)) (h 0 (by simp))
   .exact Abs.a3j kN (h 1 (by simp)) (h 2 (by simp)) (h 3 (by simp))
   .exact Abs.a3i kN kHB (h 1 (by simp)) (h 4 (by simp))
   .exact Abs.Wf kN acQ (h 1 (by simp)) (h 6 (by simp)) (h 5 (by simp))) (by kernel_rfl))
def a01(N M:Nat):Nat->Abs.Fact:=λi=>([
 rQ (Abs.E7 kK ag N) [(ld 3 aX af),(ld 3 aH af)],
 .tr (.a2 (.bin .eql) (ld 2 aX af) (ld 2 aH af)),
 .tr (.a2 (.bin .eql) (ld 1 aX af) (ld 1 aH af)),
 .tr (.a2 (.bin .eql) (ld 0 aX af) (ld 0 aH af)),
 .tr (.a2 (.bin .lss) af eR),
 rR (Abs.CU (.sl ag)) [aX],
 rR (Abs.CU (.sl ag)) [aH],
 rR (Abs.CU (.int .i64)) [af],
 rR (Abs.oY kK ag N (M+1)) [aX,aH,af],
 .inr af uP,
 .tr (.a2 (.bin .eql) eR cj),
 rQ (Abs.oY kK ag N M) [aX,aH,aaq],
 rQ Abs.Wb [aaq,uP],
 .fl (.a2 (.bin .eql) (ld 2 aX af) (ld 2 aH af)),
 .fl (.a2 (.bin .eql) (ld 1 aX af) (ld 1 aH af)),
 .fl (.a2 (.bin .eql) (ld 0 aX af) (ld 0 aH af))]:List Abs.Fact).getD i (.tr (.bool true))
def a4f:List (List Nat):=[[0,1,2,3,4,5,6,7,8,9,10],[11,1,2,3,4,5,6,7,8,9,10],[12,1,2,3,4,5,6,7,8,9,10],[13,2,3,4,5,6,7,8,9,10],[14,3,4,5,6,7,8,9,10],[15,4,5,6,7,8,9,10]]
set_option maxRecDepth 100000 in
theorem WV(N M:Nat)(tl:List Deferred):Abs.R.res (λ_=>true) ((Abs.Et (BQ [Abs.gN Tryz.prog kC 32 27 "" (Abs.oY kK ag N M),Abs.kb Tryz.prog kC 32 27 "" (Abs.E7 kK ag N)] []) 1000000 ((Abs.gN Tryz.prog kC 32 27 "" (Abs.oY kK ag N (M+1))).fi tl) (Abs.gN Tryz.prog kC 32 27 "" (Abs.oY kK ag N (M+1))).tr (Abs.gN Tryz.prog kC 32 27 "" (Abs.oY kK ag N (M+1))).todo [] .run none (Abs.gN Tryz.prog kC 32 27 "" (Abs.oY kK ag N (M+1))).S2).bind (Abs.uY (BQ [Abs.gN Tryz.prog kC 32 27 "" (Abs.oY kK ag N M),Abs.kb Tryz.prog kC 32 27 "" (Abs.E7 kK ag N)] []) (Abs.gN Tryz.prog kC 32 27 "" (Abs.oY kK ag N (M+1)))))=some (a4f.map λr=>r.map (a01 N M)):=by kernel_rfl
def a02(N:Nat):Nat->Abs.Fact:=λi=>([
 .tr (.a2 (.bin .neq) eR cj),
 rR (Abs.CU (.sl ag)) [aX],
 rR (Abs.CU (.sl ag)) [aH],
 rR (Abs.E7 kK ag (N+1)) [aX,aH],
 rQ (Abs.oY kK ag N (N+1)) [aX,aH,Sa],
 .fl (.a2 (.bin .neq) eR cj),
 rQ Abs.Wb [Sa,uP],
 rQ Abs.pTr [(.a2 (.bin .eql) eR cj)]]:List Abs.Fact).getD i (.tr (.bool true))
def a4g:List (List Nat):=[[0,1,2,3],[4,5,1,2,3],[6,5,1,2,3],[7,5,1,2,3]]
set_option maxRecDepth 100000 in
theorem WW(N:Nat)(tl:List Deferred):Abs.R.res (λ_=>true) ((Abs.Et (BQ [Abs.gN Tryz.prog kC 32 27 "" (Abs.oY kK ag N (N+1))] []) 1000000 ((Abs.kb Tryz.prog kC 32 27 "" (Abs.E7 kK ag (N+1))).fi tl) (Abs.kb Tryz.prog kC 32 27 "" (Abs.E7 kK ag (N+1))).tr (Abs.kb Tryz.prog kC 32 27 "" (Abs.E7 kK ag (N+1))).todo [] .run none (Abs.kb Tryz.prog kC 32 27 "" (Abs.E7 kK ag (N+1))).S2).bind (Abs.uY (BQ [Abs.gN Tryz.prog kC 32 27 "" (Abs.oY kK ag N (N+1))] []) (Abs.kb Tryz.prog kC 32 27 "" (Abs.E7 kK ag (N+1)))))=some (a4g.map λr=>r.map (a02 N)):=by kernel_rfl
theorem Su{N:Nat}(a:N<=1073741824)(M:Nat)(d:Abs.fy Tryz.prog (Abs.kb Tryz.prog kC 32 27 "" (Abs.E7 kK ag N)))(e:Abs.fy Tryz.prog (Abs.gN Tryz.prog kC 32 27 "" (Abs.oY kK ag N M))):Abs.fy Tryz.prog (Abs.gN Tryz.prog kC 32 27 "" (Abs.oY kK ag N (M+1))):=Abs.Dq (Hf (λ_ h=>by cases h) (λc h=>by cases h with|head=>exact e|tail _ h=>cases h with|head=>exact d|tail _ h=>cases h)) zH _ 1000000 (WV N M)
 (Abs.sS (F:=a01 N M) (Rm:=[[0,4,8],[11,4,8],[12,4,8],[13,4,8],[14,4,8],[15,4,8]]) (λp b E h=>by
   simp only[cC,fJ,fm]at b;rcases b with rfl|rfl|rfl|rfl|rfl|rfl
   .exact Abs.Xc kN (h 8 (by simp)) (h 4 (by simp)) (h 0 (by simp))
   .exact Abs.a1Q kN a (h 8 (by simp)) (h 4 (by simp)) (h 11 (by simp))
   .exact Abs.a84 kN a (h 8 (by simp)) (h 4 (by simp)) (h 12 (by simp))
   .exact Abs.SV (q:=2) kN (by decide) (h 8 (by simp)) (h 4 (by simp)) (h 13 (by simp))
   .exact Abs.SV (q:=1) kN (by decide) (h 8 (by simp)) (h 4 (by simp)) (h 14 (by simp))
   .exact Abs.SV (q:=0) kN (by decide) (h 8 (by simp)) (h 4 (by simp)) (h 15 (by simp))) (by kernel_rfl))
theorem Sv{N:Nat}(d:N+1<=1073741824)(b:Abs.fy Tryz.prog (Abs.gN Tryz.prog kC 32 27 "" (Abs.oY kK ag N (N+1)))):Abs.fy Tryz.prog (Abs.kb Tryz.prog kC 32 27 "" (Abs.E7 kK ag (N+1))):=Abs.Dq (Hf (λ_ h=>by cases h) (λc h=>by cases h with|head=>exact b|tail _ h=>cases h)) zH _ 1000000 (WW N)
 (Abs.sS (F:=a02 N) (Rm:=[[0,3],[4,3],[6],[7,3]]) (λp a E h=>by
   simp only[cC,fJ,fm]at a;rcases a with rfl|rfl|rfl|rfl
   .exact Abs.a88 (h 3 (by simp)) (h 0 (by simp))
   .exact Abs.a1R kN (h 3 (by simp)) (h 4 (by simp))
   .exact Abs.a3P (h 6 (by simp))
   .exact Abs.ace (h 3 (by simp)) (h 7 (by simp))) (by kernel_rfl))
set_option maxRecDepth 100000 in
theorem TH:∀B,B<=1073741824->Abs.fy Tryz.prog (Abs.kb Tryz.prog kC 32 27 "" (Abs.E7 kK ag B)):=Abs.Tw (cS:=λN=>Abs.kb Tryz.prog kC 32 27 "" (Abs.E7 kK ag N)) (cL:=λN M=>Abs.gN Tryz.prog kC 32 27 "" (Abs.oY kK ag N M)) (B:=1073741824) (Abs.o9 λ_ a=>Abs.a4T (a _ bB)) (λ_=>Abs.o9 λ_ a=>Abs.a1P (a _ bB))
 (λ_ M b d c=>Su b M d c)
 (λ_ b c=>Sv b c)
end Go.Proofs.YtokipodjggomfaaGreatDoor
