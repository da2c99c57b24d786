/- A part of the proof of ScriptParses: K5. Conditions: those of each theorem. -/
import Derived.Test.YtokipodjggomfaaGreatDoorScrFx
set_option linter.unusedVariables false
set_option linter.unusedSimpArgs false
set_option linter.unusedSimpArgs false
set_option linter.unusedVariables false
namespace Go.Proofs.YtokipodjggomfaaGreatDoor
open Go Go.Proofs.YtokipodjggomfaaGreatDoor.Txt
set_option maxRecDepth 100000 in
set_option maxHeartbeats 4000000 in
theorem ud:O a6H:=bE [.n (fI (v 11) (pl (ln1 (v 10)) (i6 1))) [.n (fT (lq (ln1 (v 10)) (i6 4200))) [.n (rP "ty" (Abs.bM .str) [10]) [.n (rP "ty" (Abs.bM (.int .i64)) [11]) [.n (rP "ty" (Abs.bM .str) [9]) [.n (fT (gq (mi (ln1 (v 10)) (v 11)) (ln1 (v 9)))) [.n (fT (eq (a6 (v 10) (v 11) (pl (v 11) (ln1 (v 9)))) (v 9))) [.l (rQ "is" gm [v 10,v 11,v 9,pl (v 11) (ln1 (v 9))])],
 .n (fF (eq (a6 (v 10) (v 11) (pl (v 11) (ln1 (v 9)))) (v 9))) [.l (rM "isN" cj [10,11,9])]],
 .n (fF (gq (mi (ln1 (v 10)) (v 11)) (ln1 (v 9)))) [.l (rM "isN" cj [10,11,9])]]]]]]] cQ cR (λ_=>by kernel_rfl) (by
  repeat' (first|exact bB|apply bC|apply cI|refine cJ (aB ?_)|refine cH (aB ?_) ?_)
  all_goals intro E h
  all_goals grind (ematch:=4) (splits:=6) [a0Z,Tw,NU]
  )
set_option maxRecDepth 100000 in
set_option maxHeartbeats 4000000 in
theorem uP:O a60:=bE [.n (fI (v 11) (pl (ln1 (v 10)) (i6 1))) [.n (fT (lq (ln1 (v 10)) (i6 4200))) [.n (rP "ty" (Abs.bM .str) [10]) [.n (rP "ty" (Abs.bM (.int .i64)) [11]) [.n (rP "ty" (Abs.bM .str) [9]) [.n (fT (lt (mi (ln1 (v 10)) (v 11)) (ln1 (v 9)))) [.l (rM "isN" cj [10,11,9])],
 .n (fF (lt (mi (ln1 (v 10)) (v 11)) (ln1 (v 9)))) [.n (fT (ne (a6 (v 10) (v 11) (pl (v 11) (ln1 (v 9)))) (v 9))) [.l (rM "isN" cj [10,11,9])],
 .n (fF (ne (a6 (v 10) (v 11) (pl (v 11) (ln1 (v 9)))) (v 9))) [.l (rQ "is" gm [v 10,v 11,v 9,pl (v 11) (ln1 (v 9))]),
 .l (rQ "in" Abs.ee [pl (v 11) (ln1 (v 9)),pl (ln1 (v 10)) (i6 1)])]]]]]]]] cQ cR (λ_=>by kernel_rfl) (by
  repeat' (first|exact bB|apply bC|apply cI|refine cJ (aB ?_)|refine cH (aB ?_) ?_)
  all_goals intro E h
  all_goals first|omega|grind (ematch:=4) (splits:=6) [a0Z,Tw,NU]
  )
set_option maxRecDepth 100000 in
set_option maxHeartbeats 4000000 in
theorem A9:O a6G:=bE [.n (rP "ty" (Abs.bM (.int .u8)) [10]) [.n (rP "ty" (Abs.bM (.int .u8)) [9]) [.n (rP "ty" (Abs.bM (.int .u8)) [8]) [.n (fT (gq (v 8) (v 9))) [.n (fT (lq (v 8) (v 10))) [.l (rM "win" uq [8,9,10])],
 .n (fF (lq (v 8) (v 10))) [.l (rM "winN" kM [8,9,10])]],
 .n (fF (gq (v 8) (v 9))) [.l (rM "winN" kM [8,9,10])]]]]] cQ cR (λ_=>by kernel_rfl) (by
  repeat' (first|exact bB|apply bC|apply cI|refine cJ (aB ?_)|refine cH (aB ?_) ?_)
  all_goals intro E h
  all_goals try simp only[Iu,Pm]at h
  all_goals omega
  )
set_option maxRecDepth 100000 in
set_option maxHeartbeats 4000000 in
theorem VU:O a6Z:=bE [.n (rP "ty" (Abs.bM (.int .u8)) [8]) [.n (rR "win" uq [v 8,u8 48,u8 57]) [.l (rQ "hex" zy [v 8,.a1 (.conv .i64) (mi (v 8) (u8 48))])],
 .n (rR "winN" kM [v 8,u8 48,u8 57]) [.n (rR "win" uq [v 8,u8 97,u8 102]) [.l (rQ "hex" zy [v 8,pl (.a1 (.conv .i64) (mi (v 8) (u8 97))) (i6 10)])],
 .n (rR "winN" kM [v 8,u8 97,u8 102]) [.l (rQ "hex" zy [v 8,i6 (-1)])]]]] cQ (aM A9 cR) (λ_=>by kernel_rfl) (by
  repeat' (first|exact bB|apply bC|apply cI|refine cJ (aB ?_)|refine cH (aB ?_) ?_)
  all_goals intro E h
  all_goals omega
  )
set_option maxRecDepth 100000 in
set_option maxHeartbeats 4000000 in
theorem Nc:∀N,O (a61 N)
  |0=>hD
  |N+1=>bE [.n (rP "decM" (A7 (N+1)) [8]) [.n (rP "ty" (Abs.bM (.int .i64)) [8]) [.n (fT (lt (v 8) (i6 0))) [.l (rQ "decM" (A7 N) [.a1 (.un .neg) (v 8)]),
 .n (fT (lq (ln1 (v 9)) (i6 40))) [.n (rR "dec" xX [.a1 (.un .neg) (v 8),v 9]) [.l (rQ "dec" xX [v 8,pl (.str [45]) (v 9)]),
 .l (rQ "tr" Abs.dk [lq (ln1 (pl (.str [45]) (v 9))) (i6 40)])]]],
 .n (fF (lt (v 8) (i6 0))) [.n (fT (lt (v 8) (i6 10))) [.l (rR "cut" Abs.Mg [v 8,pl (v 8) (i6 1),ln1 (.str [48,49,50,51,52,53,54,55,56,57])]),
 .l (rQ "dec" xX [v 8,a6 (.str [48,49,50,51,52,53,54,55,56,57]) (v 8) (pl (v 8) (i6 1))]),
 .l (rQ "tr" Abs.dk [lq (ln1 (a6 (.str [48,49,50,51,52,53,54,55,56,57]) (v 8) (pl (v 8) (i6 1)))) (i6 40)])],
 .n (fF (lt (v 8) (i6 10))) [.l (rQ "decM" (A7 N) [qu (v 8) (i6 10)]),
 .n (fT (lq (ln1 (v 9)) (i6 40))) [.n (rR "dec" xX [qu (v 8) (i6 10),v 9]) [.l (rQ "decM" (A7 N) [re (v 8) (i6 10)]),
 .n (fT (lq (ln1 (v 10)) (i6 40))) [.n (rR "dec" xX [re (v 8) (i6 10),v 10]) [.l (rQ "dec" xX [v 8,pl (v 9) (v 10)]),
 .l (rQ "tr" Abs.dk [lq (ln1 (pl (v 9) (v 10))) (i6 40)])]]]]]]]]] cQ (aM (Nc N) cR) (λ_=>by kernel_rfl) (by
  repeat' (first|exact bB|apply bC|apply cI|refine cJ (aB ?_)|refine cH (aB ?_) ?_)
  all_goals intro E h
  all_goals first|omega|(obtain⟨A,I,W,D,h5⟩:=h;exact A (a8o I W h5))|(obtain⟨A,m,k,I,W,D,h5⟩:=h;exact A ⟨by omega,a8n I m⟩)|(obtain⟨A,m,k,I,W,D,h5⟩:=h;have j:=dX List.length m;have o:=λa b=>Ww (n:= -(Go.Proofs.YtokipodjggomfaaGreatDoor.Txt.gi E 8)) a b;have o:=o (by omega) (by omega);rw[<-j]at o;exact A ⟨by omega,by omega⟩)|(obtain⟨A,I,W,D⟩:=h;exact A ⟨by omega,by omega,by simp;omega⟩)|(obtain⟨A,I,W,D⟩:=h;exact A (a8m (by omega) I))|(obtain⟨A,c,p,g,hh,i⟩:=h;have d:=Z1 c hh;have h6:=Z2 c i;have j:=Ww (vf (by decide) g) hh;exact A ⟨by decide,by rw[d.1];omega,by rw[d.1];omega,by rw[d.1,ai (by omega)];exact h6.1⟩)|(obtain⟨A,I,k,c,p,g,hh,i⟩:=h;have d:=Z1 c hh;have h6:=Z2 c i;have j:=Ww (vf (by decide) g) hh;rw[d.2]at A;exact A ⟨by omega,by omega,by rw[ai (by omega)];exact h6.2⟩)|(obtain⟨A,e,q,⟨-,f⟩,k,c,p,g,hh,i⟩:=h;have d:=Z1 c hh;have h6:=Z2 c i;have j:=Ww (vf (by decide) g) hh;rw[d.2]at e;rw[d.1]at f;exact A ⟨by omega,by rw[f,e];exact a3z c⟩)|(obtain⟨A,e,q,⟨-,f⟩,k,c,p,g,hh,i⟩:=h;have d:=Z1 c hh;have h6:=Z2 c i;have j:=Ww (vf (by decide) g) hh;rw[d.2]at e;rw[d.1]at f;have r:=dX List.length (a3z c);rw[bL,<-f,<-e]at r;exact A ⟨by omega,by omega⟩)
  )
set_option maxRecDepth 100000 in
set_option maxHeartbeats 4000000 in
theorem Jb:∀N,O (a0n N)
  |0=>hD
  |N+1=>bE [.n (rP "rnBT" (nd true (N+1)) [11,13,12,15,14,9,10]) [.n (fT (lq (v 15) (v 12))) [.n (fT (lq (v 13) (v 12))) [.n (fI (v 15) (pl (ln1 (v 11)) (i6 1))) [.n (fI (v 13) (pl (ln1 (v 11)) (i6 1))) [.n (fI (v 12) (pl (ln1 (v 11)) (i6 1))) [.n (fT (lq (ln1 (v 11)) (i6 4200))) [.n (rP "ty" (Abs.bM .str) [11]) [.n (rP "ty" (Abs.bM (.int .i64)) [12]) [.n (rP "ty" (Abs.bM (.int .i64)) [15]) [.n (rP "ty" (Abs.bM (.int .i64)) [14]) [.n (rP "ty" (Abs.bM (.int .i64)) [13]) [.n (rP "ty" (Abs.bM (.int .i64)) [10]) [.n (rP "ty" (Abs.bM (.int .i64)) [9]) [.n (fT (lt (v 15) (v 12))) [.l (rR "out" Abs.jg [v 15,ln1 (v 11)]),
 .n (fT (eq (ix (v 11) (v 15)) (u8 45))) [.l (rQ "in" Abs.ee [pl (v 15) (i6 1),pl (ln1 (v 11)) (i6 1)]),
 .l (rQ "tr" Abs.dk [lq (pl (v 15) (i6 1)) (v 12)]),
 .l (rQ "rnBT" (nd true N) [v 11,v 13,v 12,pl (v 15) (i6 1),v 14,v 9,v 10]),
 .n (fI (v 17) (pl (ln1 (v 11)) (i6 1))) [.n (rP "num" dE [11,13,9,10,17,16]) [.l (rM "num" dE [11,13,9,10,17,16])]],
 .n (rP "numN" bu [11,13,9,10]) [.l (rM "numN" bu [11,13,9,10])]],
 .n (fF (eq (ix (v 11) (v 15)) (u8 45))) [.l (rR "out" Abs.jg [v 15,ln1 (v 11)]),
 .n (fT (lt (v 14) (qu (pl (i6 (-576460752303423488)) (.a1 (.conv .i64) (mi (ix (v 11) (v 15)) (u8 48)))) (i6 10)))) [.l (rM "numN" bu [11,13,9,10])],
 .n (fF (lt (v 14) (qu (pl (i6 (-576460752303423488)) (.a1 (.conv .i64) (mi (ix (v 11) (v 15)) (u8 48)))) (i6 10)))) [.l (rQ "in" Abs.ee [pl (v 15) (i6 1),pl (ln1 (v 11)) (i6 1)]),
 .l (rQ "tr" Abs.dk [lq (pl (v 15) (i6 1)) (v 12)]),
 .l (rQ "rnBT" (nd true N) [v 11,v 13,v 12,pl (v 15) (i6 1),mi (mu (i6 10) (v 14)) (.a1 (.conv .i64) (mi (ix (v 11) (v 15)) (u8 48))),v 9,v 10]),
 .n (fI (v 17) (pl (ln1 (v 11)) (i6 1))) [.n (rP "num" dE [11,13,9,10,17,16]) [.l (rM "num" dE [11,13,9,10,17,16])]],
 .n (rP "numN" bu [11,13,9,10]) [.l (rM "numN" bu [11,13,9,10])]]]],
 .n (fF (lt (v 15) (v 12))) [.n (fT (lt (v 14) (v 9))) [.l (rM "numN" bu [11,13,9,10])],
 .n (fF (lt (v 14) (v 9))) [.n (fT (gt (v 14) (v 10))) [.l (rM "numN" bu [11,13,9,10])],
 .n (fF (gt (v 14) (v 10))) [.l (rM "decM" (A7 30) [14]),
 .n (fT (lq (ln1 (v 16)) (i6 40))) [.n (rP "dec" xX [14,16]) [.n (fT (ne (a6 (v 11) (v 13) (v 12)) (v 16))) [.l (rM "numN" bu [11,13,9,10])],
 .n (fF (ne (a6 (v 11) (v 13) (v 12)) (v 16))) [.l (rM "num" dE [11,13,9,10,12,14])]]]]]]]]]]]]]]]]]]]]] cQ (aM (Jb N) (aM (Nc 30) cR)) (λ_=>by kernel_rfl) (by
  repeat' (first|exact bB|apply bC|apply cI|refine cJ (aB ?_)|refine cH (aB ?_) ?_)
  all_goals intro E h
  all_goals first|omega|grind (ematch:=4) (splits:=6) [a0P,Tf,Te,a0N,a5B,->Us,mI,mA]|(obtain⟨A,I,W,D,h5,h6,h7,i,j,c,d,e,f,g,a,b⟩:=h;exact A (Wv a b.1 W I))
  )
set_option maxRecDepth 100000 in
set_option maxHeartbeats 4000000 in
theorem Jc:∀N,O (a0o N)
  |0=>hD
  |N+1=>bE [.n (rP "rnBF" (nd false (N+1)) [11,13,12,15,14,9,10]) [.n (fT (lq (v 15) (v 12))) [.n (fT (lq (v 13) (v 12))) [.n (fI (v 15) (pl (ln1 (v 11)) (i6 1))) [.n (fI (v 13) (pl (ln1 (v 11)) (i6 1))) [.n (fI (v 12) (pl (ln1 (v 11)) (i6 1))) [.n (fT (lq (ln1 (v 11)) (i6 4200))) [.n (rP "ty" (Abs.bM .str) [11]) [.n (rP "ty" (Abs.bM (.int .i64)) [12]) [.n (rP "ty" (Abs.bM (.int .i64)) [15]) [.n (rP "ty" (Abs.bM (.int .i64)) [14]) [.n (rP "ty" (Abs.bM (.int .i64)) [13]) [.n (rP "ty" (Abs.bM (.int .i64)) [10]) [.n (rP "ty" (Abs.bM (.int .i64)) [9]) [.n (fT (lt (v 15) (v 12))) [.l (rR "out" Abs.jg [v 15,ln1 (v 11)]),
 .n (fT (eq (ix (v 11) (v 15)) (u8 45))) [.l (rQ "in" Abs.ee [pl (v 15) (i6 1),pl (ln1 (v 11)) (i6 1)]),
 .l (rQ "tr" Abs.dk [lq (pl (v 15) (i6 1)) (v 12)]),
 .l (rQ "rnBF" (nd false N) [v 11,v 13,v 12,pl (v 15) (i6 1),v 14,v 9,v 10]),
 .n (fI (v 17) (pl (ln1 (v 11)) (i6 1))) [.n (rP "num" dE [11,13,9,10,17,16]) [.l (rM "num" dE [11,13,9,10,17,16])]],
 .n (rP "numN" bu [11,13,9,10]) [.l (rM "numN" bu [11,13,9,10])]],
 .n (fF (eq (ix (v 11) (v 15)) (u8 45))) [.l (rR "out" Abs.jg [v 15,ln1 (v 11)]),
 .n (fT (lt (v 14) (qu (pl (i6 (-576460752303423488)) (.a1 (.conv .i64) (mi (ix (v 11) (v 15)) (u8 48)))) (i6 10)))) [.l (rM "numN" bu [11,13,9,10])],
 .n (fF (lt (v 14) (qu (pl (i6 (-576460752303423488)) (.a1 (.conv .i64) (mi (ix (v 11) (v 15)) (u8 48)))) (i6 10)))) [.l (rQ "in" Abs.ee [pl (v 15) (i6 1),pl (ln1 (v 11)) (i6 1)]),
 .l (rQ "tr" Abs.dk [lq (pl (v 15) (i6 1)) (v 12)]),
 .l (rQ "rnBF" (nd false N) [v 11,v 13,v 12,pl (v 15) (i6 1),mi (mu (i6 10) (v 14)) (.a1 (.conv .i64) (mi (ix (v 11) (v 15)) (u8 48))),v 9,v 10]),
 .n (fI (v 17) (pl (ln1 (v 11)) (i6 1))) [.n (rP "num" dE [11,13,9,10,17,16]) [.l (rM "num" dE [11,13,9,10,17,16])]],
 .n (rP "numN" bu [11,13,9,10]) [.l (rM "numN" bu [11,13,9,10])]]]],
 .n (fF (lt (v 15) (v 12))) [.n (fT (lt (.a1 (.un .neg) (v 14)) (v 9))) [.l (rM "numN" bu [11,13,9,10])],
 .n (fF (lt (.a1 (.un .neg) (v 14)) (v 9))) [.n (fT (gt (.a1 (.un .neg) (v 14)) (v 10))) [.l (rM "numN" bu [11,13,9,10])],
 .n (fF (gt (.a1 (.un .neg) (v 14)) (v 10))) [.l (rQ "decM" (A7 30) [.a1 (.un .neg) (v 14)]),
 .n (fT (lq (ln1 (v 16)) (i6 40))) [.n (rR "dec" xX [.a1 (.un .neg) (v 14),v 16]) [.n (fT (ne (a6 (v 11) (v 13) (v 12)) (v 16))) [.l (rM "numN" bu [11,13,9,10])],
 .n (fF (ne (a6 (v 11) (v 13) (v 12)) (v 16))) [.l (rQ "num" dE [v 11,v 13,v 9,v 10,v 12,.a1 (.un .neg) (v 14)])]]]]]]]]]]]]]]]]]]]]] cQ (aM (Jc N) (aM (Nc 30) cR)) (λ_=>by kernel_rfl) (by
  repeat' (first|exact bB|apply bC|apply cI|refine cJ (aB ?_)|refine cH (aB ?_) ?_)
  all_goals intro E h
  all_goals first|omega|grind (ematch:=4) (splits:=6) [a0P,Tf,Te,a0N,a5C,->Us,Vq,mI,mA]|(obtain⟨A,I,W,D,h5,h6,h7,i,j,c,d,e,f,g,a,b⟩:=h;exact A (Wv a b.1 W I))
  )
set_option maxRecDepth 100000 in
set_option maxHeartbeats 4000000 in
theorem Jd:∀N,O (a0p N)
  |0=>hD
  |N+1=>bE [.n (rP "rnA" (Fz (N+1)) [11,13,12,9,10]) [.n (fT (lq (v 13) (v 12))) [.n (fI (v 13) (pl (ln1 (v 11)) (i6 1))) [.n (fI (v 12) (pl (ln1 (v 11)) (i6 1))) [.n (fT (lq (ln1 (v 11)) (i6 4200))) [.n (rP "ty" (Abs.bM .str) [11]) [.n (rP "ty" (Abs.bM (.int .i64)) [12]) [.n (rP "ty" (Abs.bM (.int .i64)) [13]) [.n (rP "ty" (Abs.bM (.int .i64)) [10]) [.n (rP "ty" (Abs.bM (.int .i64)) [9]) [.n (fT (gq (v 12) (ln1 (v 11)))) [.n (fT (lt (v 13) (v 12))) [.l (rR "out" Abs.jg [v 13,ln1 (v 11)]),
 .n (fT (eq (ix (v 11) (v 13)) (u8 45))) [.l (rQ "rnBT" (nd true 5000) [v 11,v 13,v 12,v 13,i6 0,v 9,v 10]),
 .n (fI (v 15) (pl (ln1 (v 11)) (i6 1))) [.n (rP "num" dE [11,13,9,10,15,14]) [.l (rM "num" dE [11,13,9,10,15,14])]],
 .n (rP "numN" bu [11,13,9,10]) [.l (rM "numN" bu [11,13,9,10])]],
 .n (fF (eq (ix (v 11) (v 13)) (u8 45))) [.l (rQ "rnBF" (nd false 5000) [v 11,v 13,v 12,v 13,i6 0,v 9,v 10]),
 .n (fI (v 15) (pl (ln1 (v 11)) (i6 1))) [.n (rP "num" dE [11,13,9,10,15,14]) [.l (rM "num" dE [11,13,9,10,15,14])]],
 .n (rP "numN" bu [11,13,9,10]) [.l (rM "numN" bu [11,13,9,10])]]],
 .n (fF (lt (v 13) (v 12))) [.l (rQ "rnBF" (nd false 5000) [v 11,v 13,v 12,v 13,i6 0,v 9,v 10]),
 .n (fI (v 15) (pl (ln1 (v 11)) (i6 1))) [.n (rP "num" dE [11,13,9,10,15,14]) [.l (rM "num" dE [11,13,9,10,15,14])]],
 .n (rP "numN" bu [11,13,9,10]) [.l (rM "numN" bu [11,13,9,10])]]],
 .n (fF (gq (v 12) (ln1 (v 11)))) [.n (rR "win" uq [ix (v 11) (v 12),u8 48,u8 57]) [.n (fT (lt (mi (v 12) (v 13)) (i6 20))) [.l (rQ "in" Abs.ee [pl (v 12) (i6 1),pl (ln1 (v 11)) (i6 1)]),
 .l (rQ "tr" Abs.dk [lq (v 13) (pl (v 12) (i6 1))]),
 .l (rQ "rnA" (Fz N) [v 11,v 13,pl (v 12) (i6 1),v 9,v 10]),
 .n (fI (v 15) (pl (ln1 (v 11)) (i6 1))) [.n (rP "num" dE [11,13,9,10,15,14]) [.l (rM "num" dE [11,13,9,10,15,14])]],
 .n (rP "numN" bu [11,13,9,10]) [.l (rM "numN" bu [11,13,9,10])]],
 .n (fF (lt (mi (v 12) (v 13)) (i6 20))) [.n (fT (lt (v 13) (v 12))) [.l (rR "out" Abs.jg [v 13,ln1 (v 11)]),
 .n (fT (eq (ix (v 11) (v 13)) (u8 45))) [.l (rQ "rnBT" (nd true 5000) [v 11,v 13,v 12,v 13,i6 0,v 9,v 10]),
 .n (fI (v 15) (pl (ln1 (v 11)) (i6 1))) [.n (rP "num" dE [11,13,9,10,15,14]) [.l (rM "num" dE [11,13,9,10,15,14])]],
 .n (rP "numN" bu [11,13,9,10]) [.l (rM "numN" bu [11,13,9,10])]],
 .n (fF (eq (ix (v 11) (v 13)) (u8 45))) [.l (rQ "rnBF" (nd false 5000) [v 11,v 13,v 12,v 13,i6 0,v 9,v 10]),
 .n (fI (v 15) (pl (ln1 (v 11)) (i6 1))) [.n (rP "num" dE [11,13,9,10,15,14]) [.l (rM "num" dE [11,13,9,10,15,14])]],
 .n (rP "numN" bu [11,13,9,10]) [.l (rM "numN" bu [11,13,9,10])]]],
 .n (fF (lt (v 13) (v 12))) [.l (rQ "rnBF" (nd false 5000) [v 11,v 13,v 12,v 13,i6 0,v 9,v 10]),
 .n (fI (v 15) (pl (ln1 (v 11)) (i6 1))) [.n (rP "num" dE [11,13,9,10,15,14]) [.l (rM "num" dE [11,13,9,10,15,14])]],
 .n (rP "numN" bu [11,13,9,10]) [.l (rM "numN" bu [11,13,9,10])]]]],
 .n (rR "winN" kM [ix (v 11) (v 12),u8 48,u8 57]) [.n (fT (lt (v 13) (v 12))) [.l (rR "out" Abs.jg [v 13,ln1 (v 11)]),
 .n (fT (eq (ix (v 11) (v 13)) (u8 45))) [.l (rQ "rnBT" (nd true 5000) [v 11,v 13,v 12,v 13,i6 0,v 9,v 10]),
 .n (fI (v 15) (pl (ln1 (v 11)) (i6 1))) [.n (rP "num" dE [11,13,9,10,15,14]) [.l (rM "num" dE [11,13,9,10,15,14])]],
 .n (rP "numN" bu [11,13,9,10]) [.l (rM "numN" bu [11,13,9,10])]],
 .n (fF (eq (ix (v 11) (v 13)) (u8 45))) [.l (rQ "rnBF" (nd false 5000) [v 11,v 13,v 12,v 13,i6 0,v 9,v 10]),
 .n (fI (v 15) (pl (ln1 (v 11)) (i6 1))) [.n (rP "num" dE [11,13,9,10,15,14]) [.l (rM "num" dE [11,13,9,10,15,14])]],
 .n (rP "numN" bu [11,13,9,10]) [.l (rM "numN" bu [11,13,9,10])]]],
 .n (fF (lt (v 13) (v 12))) [.l (rQ "rnBF" (nd false 5000) [v 11,v 13,v 12,v 13,i6 0,v 9,v 10]),
 .n (fI (v 15) (pl (ln1 (v 11)) (i6 1))) [.n (rP "num" dE [11,13,9,10,15,14]) [.l (rM "num" dE [11,13,9,10,15,14])]],
 .n (rP "numN" bu [11,13,9,10]) [.l (rM "numN" bu [11,13,9,10])]]]]]]]]]]]]]]] cQ (aM (Jd N) (aM A9 (aM (Jb 5000) (aM (Jc 5000) cR)))) (λ_=>by kernel_rfl) (by
  repeat' (first|exact bB|apply bC|apply cI|refine cJ (aB ?_)|refine cH (aB ?_) ?_)
  all_goals intro E h
  all_goals first|omega|grind (ematch:=4) (splits:=6) [Tn,a4S,a7C,a7B,a7A,a7z,a7u,a7v,a5s,->Mk,->a2U,mI,mA]
  )
set_option maxRecDepth 100000 in
set_option maxHeartbeats 4000000 in
theorem F5:O a4f:=bE [.n (rP "rng" Du [9,10]) [.n (fI (v 12) (pl (ln1 (v 11)) (i6 1))) [.n (fT (lq (ln1 (v 11)) (i6 4200))) [.n (rP "ty" (Abs.bM .str) [11]) [.n (rP "ty" (Abs.bM (.int .i64)) [12]) [.n (rP "ty" (Abs.bM (.int .i64)) [10]) [.n (rP "ty" (Abs.bM (.int .i64)) [9]) [.n (rR "is" gm [v 11,v 12,.str [45],pl (v 12) (ln1 (.str [45]))]) [.l (rQ "in" Abs.ee [pl (v 12) (i6 1),pl (ln1 (v 11)) (i6 1)]),
 .l (rQ "tr" Abs.dk [lq (v 12) (pl (v 12) (i6 1))]),
 .l (rQ "rnA" (Fz 5000) [v 11,v 12,pl (v 12) (i6 1),v 9,v 10]),
 .n (fI (v 14) (pl (ln1 (v 11)) (i6 1))) [.n (rP "num" dE [11,12,9,10,14,13]) [.l (rM "num" dE [11,12,9,10,14,13])]],
 .n (rP "numN" bu [11,12,9,10]) [.l (rM "numN" bu [11,12,9,10])]],
 .n (rR "isN" cj [v 11,v 12,.str [45]]) [.l (rQ "tr" Abs.dk [lq (v 12) (v 12)]),
 .l (rM "rnA" (Fz 5000) [11,12,12,9,10]),
 .n (fI (v 14) (pl (ln1 (v 11)) (i6 1))) [.n (rP "num" dE [11,12,9,10,14,13]) [.l (rM "num" dE [11,12,9,10,14,13])]],
 .n (rP "numN" bu [11,12,9,10]) [.l (rM "numN" bu [11,12,9,10])]]]]]]]]]] cQ (aM ud (aM (Jd 5000) cR)) (λ_=>by kernel_rfl) (by
  repeat' (first|exact bB|apply bC|apply cI|refine cJ (aB ?_)|refine cH (aB ?_) ?_)
  all_goals intro E h
  all_goals first|omega|grind (ematch:=4) (splits:=6) [Ts,Tq,->Mk]
  )
set_option maxRecDepth 100000 in
set_option maxHeartbeats 4000000 in
theorem a2f:O a6F:=bE [.n (rP "ty" (Abs.bM .str) [8]) [.n (fT (eq (.str [97,102,116,101,114]) (v 8))) [.l (rM "wrd" lI [8])],
 .n (fF (eq (.str [97,102,116,101,114]) (v 8))) [.n (fT (eq (.str [97,110,100]) (v 8))) [.l (rM "wrd" lI [8])],
 .n (fF (eq (.str [97,110,100]) (v 8))) [.n (fT (eq (.str [97,110,100,97,108,115,111]) (v 8))) [.l (rM "wrd" lI [8])],
 .n (fF (eq (.str [97,110,100,97,108,115,111]) (v 8))) [.n (fT (eq (.str [98,101,103,105,110]) (v 8))) [.l (rM "wrd" lI [8])],
 .n (fF (eq (.str [98,101,103,105,110]) (v 8))) [.n (fT (eq (.str [99,97,115,101]) (v 8))) [.l (rM "wrd" lI [8])],
 .n (fF (eq (.str [99,97,115,101]) (v 8))) [.n (fT (eq (.str [99,97,116,99,104]) (v 8))) [.l (rM "wrd" lI [8])],
 .n (fF (eq (.str [99,97,116,99,104]) (v 8))) [.n (fT (eq (.str [100,105,118]) (v 8))) [.l (rM "wrd" lI [8])],
 .n (fF (eq (.str [100,105,118]) (v 8))) [.n (fT (eq (.str [101,110,100]) (v 8))) [.l (rM "wrd" lI [8])],
 .n (fF (eq (.str [101,110,100]) (v 8))) [.n (fT (eq (.str [102,117,110]) (v 8))) [.l (rM "wrd" lI [8])],
 .n (fF (eq (.str [102,117,110]) (v 8))) [.n (fT (eq (.str [110,111,116]) (v 8))) [.l (rM "wrd" lI [8])],
 .n (fF (eq (.str [110,111,116]) (v 8))) [.n (fT (eq (.str [111,102]) (v 8))) [.l (rM "wrd" lI [8])],
 .n (fF (eq (.str [111,102]) (v 8))) [.n (fT (eq (.str [111,114]) (v 8))) [.l (rM "wrd" lI [8])],
 .n (fF (eq (.str [111,114]) (v 8))) [.n (fT (eq (.str [111,114,101,108,115,101]) (v 8))) [.l (rM "wrd" lI [8])],
 .n (fF (eq (.str [111,114,101,108,115,101]) (v 8))) [.n (fT (eq (.str [114,101,99,101,105,118,101]) (v 8))) [.l (rM "wrd" lI [8])],
 .n (fF (eq (.str [114,101,99,101,105,118,101]) (v 8))) [.n (fT (eq (.str [114,101,109]) (v 8))) [.l (rM "wrd" lI [8])],
 .n (fF (eq (.str [114,101,109]) (v 8))) [.n (fT (eq (.str [116,114,121]) (v 8))) [.l (rM "wrd" lI [8])],
 .n (fF (eq (.str [116,114,121]) (v 8))) [.n (fT (eq (.str [119,104,101,110]) (v 8))) [.l (rM "wrd" lI [8])],
 .n (fF (eq (.str [119,104,101,110]) (v 8))) [.l (rM "wrdN" BH [8])]]]]]]]]]]]]]]]]]]] cQ cR (λ_=>by kernel_rfl) (by
  repeat' (first|exact bB|apply bC|apply cI|refine cJ (aB ?_)|refine cH (aB ?_) ?_)
  all_goals intro E h
  all_goals first|(obtain⟨A,I⟩:=h;first|(rw[<-I]at A;exact A rfl)|(rw[<-I.1]at A;exact A rfl))|(refine h.1 ?_;simp only[words,List.contains_cons,List.contains_nil,Bool.or_false,zV,beq_eq_false_iff_ne];grind)
  )
set_option maxRecDepth 100000 in
set_option maxHeartbeats 4000000 in
theorem Ju:∀N,O (a0q N)
  |0=>hD
  |N+1=>bE [.n (rP "plnL" (pV (N+1)) [8,9]) [.n (fI (v 9) (pl (ln1 (v 8)) (i6 1))) [.n (fT (lq (ln1 (v 8)) (i6 4200))) [.n (rP "ty" (Abs.bM (.int .i64)) [9]) [.n (rP "ty" (Abs.bM .str) [8]) [.n (fT (lt (v 9) (ln1 (v 8)))) [.n (rR "win" uq [ix (v 8) (v 9),u8 97,u8 122]) [.l (rQ "in" Abs.ee [pl (v 9) (i6 1),pl (ln1 (v 8)) (i6 1)]),
 .l (rQ "plnL" (pV N) [v 8,pl (v 9) (i6 1)]),
 .n (rP "pln" jM [8]) [.l (rM "pln" jM [8])],
 .n (rP "plnN" dL [8]) [.l (rM "plnN" dL [8])]],
 .n (rR "winN" kM [ix (v 8) (v 9),u8 97,u8 122]) [.n (rR "win" uq [ix (v 8) (v 9),u8 65,u8 90]) [.l (rQ "in" Abs.ee [pl (v 9) (i6 1),pl (ln1 (v 8)) (i6 1)]),
 .l (rQ "plnL" (pV N) [v 8,pl (v 9) (i6 1)]),
 .n (rP "pln" jM [8]) [.l (rM "pln" jM [8])],
 .n (rP "plnN" dL [8]) [.l (rM "plnN" dL [8])]],
 .n (rR "winN" kM [ix (v 8) (v 9),u8 65,u8 90]) [.n (rR "win" uq [ix (v 8) (v 9),u8 48,u8 57]) [.l (rQ "in" Abs.ee [pl (v 9) (i6 1),pl (ln1 (v 8)) (i6 1)]),
 .l (rQ "plnL" (pV N) [v 8,pl (v 9) (i6 1)]),
 .n (rP "pln" jM [8]) [.l (rM "pln" jM [8])],
 .n (rP "plnN" dL [8]) [.l (rM "plnN" dL [8])]],
 .n (rR "winN" kM [ix (v 8) (v 9),u8 48,u8 57]) [.n (fT (ne (ix (v 8) (v 9)) (u8 95))) [.n (fT (ne (ix (v 8) (v 9)) (u8 64))) [.l (rM "plnN" dL [8])],
 .n (fF (ne (ix (v 8) (v 9)) (u8 64))) [.l (rQ "in" Abs.ee [pl (v 9) (i6 1),pl (ln1 (v 8)) (i6 1)]),
 .l (rQ "plnL" (pV N) [v 8,pl (v 9) (i6 1)]),
 .n (rP "pln" jM [8]) [.l (rM "pln" jM [8])],
 .n (rP "plnN" dL [8]) [.l (rM "plnN" dL [8])]]],
 .n (fF (ne (ix (v 8) (v 9)) (u8 95))) [.l (rQ "in" Abs.ee [pl (v 9) (i6 1),pl (ln1 (v 8)) (i6 1)]),
 .l (rQ "plnL" (pV N) [v 8,pl (v 9) (i6 1)]),
 .n (rP "pln" jM [8]) [.l (rM "pln" jM [8])],
 .n (rP "plnN" dL [8]) [.l (rM "plnN" dL [8])]]]]]],
 .n (fF (lt (v 9) (ln1 (v 8)))) [.n (rP "wrd" lI [8]) [.l (rM "plnN" dL [8])],
 .n (rP "wrdN" BH [8]) [.l (rM "pln" jM [8])]]]]]]]] cQ (aM (Ju N) (aM A9 (aM a2f cR))) (λ_=>by kernel_rfl) (by
  repeat' (first|exact bB|apply bC|apply cI|refine cJ (aB ?_)|refine cH (aB ?_) ?_)
  all_goals intro E h
  all_goals first|omega|grind (ematch:=4) (splits:=6) [Tz,Lq,TB,XI,NN,XJ,Pm]|(obtain⟨A,I,W,D,h5,h6,h7,a,b⟩:=h;exact A (r8.2 ⟨h6,h7,Lq a (by omega),I⟩))
  )
set_option maxRecDepth 100000 in
set_option maxHeartbeats 4000000 in
theorem Gs:O a4j:=bE [.n (fT (lq (ln1 (v 8)) (i6 4200))) [.n (rP "ty" (Abs.bM .str) [8]) [.n (fT (eq (v 8) (.str []))) [.l (rM "plnN" dL [8])],
 .n (fF (eq (v 8) (.str []))) [.n (fT (gt (ln1 (v 8)) (i6 64))) [.l (rM "plnN" dL [8])],
 .n (fF (gt (ln1 (v 8)) (i6 64))) [.l (rR "out" Abs.jg [i6 0,ln1 (v 8)]),
 .n (rR "win" uq [ix (v 8) (i6 0),u8 97,u8 122]) [.l (rQ "in" Abs.ee [i6 0,pl (ln1 (v 8)) (i6 1)]),
 .l (rQ "plnL" (pV 5000) [v 8,i6 0]),
 .n (rP "pln" jM [8]) [.l (rM "pln" jM [8])],
 .n (rP "plnN" dL [8]) [.l (rM "plnN" dL [8])]],
 .n (rR "winN" kM [ix (v 8) (i6 0),u8 97,u8 122]) [.l (rM "plnN" dL [8])]]]]]] cQ (aM (Ju 5000) (aM A9 cR)) (λ_=>by kernel_rfl) (by
  repeat' (first|exact bB|apply bC|apply cI|refine cJ (aB ?_)|refine cH (aB ?_) ?_)
  all_goals intro E h
  all_goals first|omega|grind (ematch:=4) (splits:=6) [NR,NQ,NP,j4,Mw,Iu]
  )
set_option maxRecDepth 100000 in
set_option maxHeartbeats 4000000 in
theorem I9:∀N,O (a0m N)
  |0=>hD
  |N+1=>bE [.n (rP "cplL" (pX (N+1)) [10,12,11]) [.n (fT (lq (v 12) (v 11))) [.n (fI (v 12) (pl (ln1 (v 10)) (i6 1))) [.n (fI (v 11) (pl (ln1 (v 10)) (i6 1))) [.n (fT (lq (ln1 (v 10)) (i6 4200))) [.n (rP "ty" (Abs.bM .str) [10]) [.n (rP "ty" (Abs.bM (.int .i64)) [11]) [.n (rP "ty" (Abs.bM (.int .i64)) [12]) [.n (fT (lt (v 11) (ln1 (v 10)))) [.l (rQ "tr" Abs.dk [lq (ln1 (pl (.str [97]) (a6 (v 10) (v 11) (pl (v 11) (i6 1))))) (i6 4200)]),
 .n (rR "pln" jM [pl (.str [97]) (a6 (v 10) (v 11) (pl (v 11) (i6 1)))]) [.l (rQ "in" Abs.ee [pl (v 11) (i6 1),pl (ln1 (v 10)) (i6 1)]),
 .l (rQ "tr" Abs.dk [lq (v 12) (pl (v 11) (i6 1))]),
 .l (rQ "cplL" (pX N) [v 10,v 12,pl (v 11) (i6 1)]),
 .n (fI (v 14) (pl (ln1 (v 10)) (i6 1))) [.n (rP "cpl" oW [10,12,14,13]) [.l (rM "cpl" oW [10,12,14,13])]],
 .n (rP "cplN" kF [10,12,13]) [.l (rM "cplN" kF [10,12,13])]],
 .n (rR "plnN" dL [pl (.str [97]) (a6 (v 10) (v 11) (pl (v 11) (i6 1)))]) [.l (rQ "tr" Abs.dk [lq (ln1 (a6 (v 10) (v 12) (v 11))) (i6 4200)]),
 .n (rR "pln" jM [a6 (v 10) (v 12) (v 11)]) [.l (rQ "cpl" oW [v 10,v 12,v 11,a6 (v 10) (v 12) (v 11)])],
 .n (rR "plnN" dL [a6 (v 10) (v 12) (v 11)]) [.l (rQ "cplN" kF [v 10,v 12,a6 (v 10) (v 12) (v 11)])]]],
 .n (fF (lt (v 11) (ln1 (v 10)))) [.l (rQ "tr" Abs.dk [lq (ln1 (a6 (v 10) (v 12) (v 11))) (i6 4200)]),
 .n (rR "pln" jM [a6 (v 10) (v 12) (v 11)]) [.l (rQ "cpl" oW [v 10,v 12,v 11,a6 (v 10) (v 12) (v 11)])],
 .n (rR "plnN" dL [a6 (v 10) (v 12) (v 11)]) [.l (rQ "cplN" kF [v 10,v 12,a6 (v 10) (v 12) (v 11)])]]]]]]]]]]] cQ (aM (I9 N) (aM Gs cR)) (λ_=>by kernel_rfl) (by
  repeat' (first|exact bB|apply bC|apply cI|refine cJ (aB ?_)|refine cH (aB ?_) ?_)
  all_goals intro E h
  all_goals first|omega|grind (ematch:=4) (splits:=6) [TJ,TH,TK,noL,->a4X,->a4Y]
  )
set_option maxRecDepth 100000 in
set_option maxHeartbeats 4000000 in
theorem Yy:O a4e:=bE [.n (fI (v 10) (pl (ln1 (v 9)) (i6 1))) [.n (fT (lq (ln1 (v 9)) (i6 4200))) [.n (rP "ty" (Abs.bM .str) [9]) [.n (rP "ty" (Abs.bM (.int .i64)) [10]) [.l (rQ "tr" Abs.dk [lq (v 10) (v 10)]),
 .l (rM "cplL" (pX 5000) [9,10,10]),
 .n (fI (v 13) (pl (ln1 (v 9)) (i6 1))) [.n (rP "cpl" oW [9,10,13,12]) [.l (rM "cpl" oW [9,10,13,12])]],
 .n (rP "cplN" kF [9,10,12]) [.l (rM "cplN" kF [9,10,12])]]]]]] cQ (aM (I9 5000) cR) (λ_=>by kernel_rfl) (by
  repeat' (first|exact bB|apply bC|apply cI|refine cJ (aB ?_)|refine cH (aB ?_) ?_)
  all_goals intro E h
  all_goals first|omega|grind (ematch:=4) (splits:=6) [TL]
  )
end Go.Proofs.YtokipodjggomfaaGreatDoor
