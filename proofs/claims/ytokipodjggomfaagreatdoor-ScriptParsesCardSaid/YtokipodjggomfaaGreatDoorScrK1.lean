/- A part of the proof of ScriptParses: K1. Conditions: those of each theorem. -/
import Derived.Test.YtokipodjggomfaaGreatDoorScrFx
set_option linter.unusedVariables false
set_option linter.unusedSimpArgs false
set_option linter.unusedSimpArgs false
set_option linter.unusedVariables false
namespace Go.Proofs.YtokipodjggomfaaGreatDoor
open Go Go.Proofs.YtokipodjggomfaaGreatDoor.Txt
set_option maxRecDepth 100000 in
set_option maxHeartbeats 4000000 in
theorem rf:O a8q:=bE [.n (fI (v 11) (pl (ln1 (v 10)) (i6 1))) [.n (fT (lq (ln1 (v 10)) (i6 4200))) [.n (rP "ty" (Abs.bM .str) [10]) [.n (rP "ty" (Abs.bM (.int .i64)) [11]) [.n (rP "ty" (Abs.bM .str) [9]) [.n (fT (gq (ln1 (a6 (v 10) (v 11) (ln1 (v 10)))) (ln1 (v 9)))) [.l (rR "cut" Abs.Mg [i6 0,ln1 (v 9),ln1 (a6 (v 10) (v 11) (ln1 (v 10)))]),
 .n (fT (eq (a6 (a6 (v 10) (v 11) (ln1 (v 10))) (i6 0) (ln1 (v 9))) (v 9))) [.l (rQ "is" gm [v 10,v 11,v 9,pl (v 11) (ln1 (v 9))]),
 .l (rQ "in" Abs.ee [pl (v 11) (ln1 (v 9)),pl (ln1 (v 10)) (i6 1)])],
 .n (fF (eq (a6 (a6 (v 10) (v 11) (ln1 (v 10))) (i6 0) (ln1 (v 9))) (v 9))) [.l (rM "isN" cj [10,11,9])]],
 .n (fF (gq (ln1 (a6 (v 10) (v 11) (ln1 (v 10)))) (ln1 (v 9)))) [.l (rM "isN" cj [10,11,9])]]]]]]] cQ cR (λ_=>by kernel_rfl) (by
  repeat' (first|exact bB|apply bC|apply cI|refine cJ (aB ?_)|refine cH (aB ?_) ?_)
  all_goals intro E h
  all_goals first|omega|grind (ematch:=4) (splits:=6) [a5a,Ty,Tx]
  )
set_option maxRecDepth 100000 in
set_option maxHeartbeats 4000000 in
theorem LM:O a6J:=bE [.n (rP "ty" (Abs.bM (.int .u8)) [8]) [.n (fT (gq (v 8) (u8 97))) [.n (fT (lq (v 8) (u8 122))) [.l (rM "sml" Gn [8])],
 .n (fF (lq (v 8) (u8 122))) [.l (rM "smlN" sZ [8])]],
 .n (fF (gq (v 8) (u8 97))) [.l (rM "smlN" sZ [8])]]] cQ cR (λ_=>by kernel_rfl) (by
  repeat' (first|exact bB|apply bC|apply cI|refine cJ (aB ?_)|refine cH (aB ?_) ?_)
  all_goals intro E h
  all_goals try simp only[Iu,Pm]at h
  all_goals omega
  )
set_option maxRecDepth 100000 in
set_option maxHeartbeats 4000000 in
theorem Vv:O a6W:=bE [.n (rP "ty" (Abs.bM (.int .u8)) [8]) [.n (rP "sml" Gn [8]) [.l (rM "ltr" zw [8])],
 .n (rP "smlN" sZ [8]) [.n (fT (gq (v 8) (u8 65))) [.n (fT (lq (v 8) (u8 90))) [.l (rM "ltr" zw [8])],
 .n (fF (lq (v 8) (u8 90))) [.n (fT (eq (v 8) (u8 95))) [.l (rM "ltr" zw [8])],
 .n (fF (eq (v 8) (u8 95))) [.l (rM "ltrN" s6 [8])]]],
 .n (fF (gq (v 8) (u8 65))) [.n (fT (gq (v 8) (u8 48))) [.n (fT (lq (v 8) (u8 57))) [.l (rM "ltr" zw [8])],
 .n (fF (lq (v 8) (u8 57))) [.n (fT (eq (v 8) (u8 64))) [.l (rM "ltr" zw [8])],
 .n (fF (eq (v 8) (u8 64))) [.l (rM "ltrN" s6 [8])]]],
 .n (fF (gq (v 8) (u8 48))) [.l (rM "ltrN" s6 [8])]]]]] cQ (aM LM cR) (λ_=>by kernel_rfl) (by
  repeat' (first|exact bB|apply bC|apply cI|refine cJ (aB ?_)|refine cH (aB ?_) ?_)
  all_goals intro E h
  all_goals try simp only[Iu,Pm]at h
  all_goals omega
  )
set_option maxRecDepth 100000 in
set_option maxHeartbeats 4000000 in
theorem Pa:∀N,O (a4k N)
  |0=>hD
  |N+1=>bE [.n (rP "numL" (vA (N+1)) [11,13,12]) [.n (fT (lq (v 13) (v 12))) [.n (fI (v 13) (pl (ln1 (v 11)) (i6 1))) [.n (fI (v 12) (pl (ln1 (v 11)) (i6 1))) [.n (fT (lq (ln1 (v 11)) (i6 4200))) [.n (rP "ty" (Abs.bM .str) [11]) [.n (rP "ty" (Abs.bM (.int .i64)) [12]) [.n (rP "ty" (Abs.bM (.int .i64)) [13]) [.n (rP "ty" (Abs.bM (.int .i64)) [10]) [.n (rP "ty" (Abs.bM (.int .i64)) [9]) [.n (fT (lt (v 12) (ln1 (v 11)))) [.n (fT (gq (ix (v 11) (v 12)) (u8 48))) [.n (fT (lq (ix (v 11) (v 12)) (u8 57))) [.l (rQ "in" Abs.ee [pl (v 12) (i6 1),pl (ln1 (v 11)) (i6 1)]),
 .l (rQ "tr" Abs.dk [lq (v 13) (pl (v 12) (i6 1))]),
 .l (rQ "numL" (vA N) [v 11,v 13,pl (v 12) (i6 1)]),
 .n (fI (v 15) (pl (ln1 (v 11)) (i6 1))) [.n (rP "num" dE [11,13,9,10,15,14]) [.l (rM "num" dE [11,13,9,10,15,14])]],
 .n (rP "numN" bu [11,13,9,10]) [.l (rM "numN" bu [11,13,9,10])]],
 .n (fF (lq (ix (v 11) (v 12)) (u8 57))) [.l (rQ "few" Abs.lU [a6 (v 11) (v 13) (v 12)]),
 .n (rR "atoi" Abs.kc [a6 (v 11) (v 13) (v 12),v 14]) [.l (rM "i64" Abs.qR [14]),
 .n (rP "itoa" Abs.kb [14,15]) [.n (fT (ne (v 15) (a6 (v 11) (v 13) (v 12)))) [.l (rM "numN" bu [11,13,9,10])],
 .n (fF (ne (v 15) (a6 (v 11) (v 13) (v 12)))) [.n (fT (lt (v 14) (v 9))) [.l (rM "numN" bu [11,13,9,10])],
 .n (fF (lt (v 14) (v 9))) [.n (fT (gt (v 14) (v 10))) [.l (rM "numN" bu [11,13,9,10])],
 .n (fF (gt (v 14) (v 10))) [.l (rM "num" dE [11,13,9,10,12,14])]]]]],
 .n (rR "atoin" Abs.gz [a6 (v 11) (v 13) (v 12)]) [.l (rM "numN" bu [11,13,9,10])]]],
 .n (fF (gq (ix (v 11) (v 12)) (u8 48))) [.l (rQ "few" Abs.lU [a6 (v 11) (v 13) (v 12)]),
 .n (rR "atoi" Abs.kc [a6 (v 11) (v 13) (v 12),v 14]) [.l (rM "i64" Abs.qR [14]),
 .n (rP "itoa" Abs.kb [14,15]) [.n (fT (ne (v 15) (a6 (v 11) (v 13) (v 12)))) [.l (rM "numN" bu [11,13,9,10])],
 .n (fF (ne (v 15) (a6 (v 11) (v 13) (v 12)))) [.n (fT (lt (v 14) (v 9))) [.l (rM "numN" bu [11,13,9,10])],
 .n (fF (lt (v 14) (v 9))) [.n (fT (gt (v 14) (v 10))) [.l (rM "numN" bu [11,13,9,10])],
 .n (fF (gt (v 14) (v 10))) [.l (rM "num" dE [11,13,9,10,12,14])]]]]],
 .n (rR "atoin" Abs.gz [a6 (v 11) (v 13) (v 12)]) [.l (rM "numN" bu [11,13,9,10])]]],
 .n (fF (lt (v 12) (ln1 (v 11)))) [.l (rQ "few" Abs.lU [a6 (v 11) (v 13) (v 12)]),
 .n (rR "atoi" Abs.kc [a6 (v 11) (v 13) (v 12),v 14]) [.l (rM "i64" Abs.qR [14]),
 .n (rP "itoa" Abs.kb [14,15]) [.n (fT (ne (v 15) (a6 (v 11) (v 13) (v 12)))) [.l (rM "numN" bu [11,13,9,10])],
 .n (fF (ne (v 15) (a6 (v 11) (v 13) (v 12)))) [.n (fT (lt (v 14) (v 9))) [.l (rM "numN" bu [11,13,9,10])],
 .n (fF (lt (v 14) (v 9))) [.n (fT (gt (v 14) (v 10))) [.l (rM "numN" bu [11,13,9,10])],
 .n (fF (gt (v 14) (v 10))) [.l (rM "num" dE [11,13,9,10,12,14])]]]]],
 .n (rR "atoin" Abs.gz [a6 (v 11) (v 13) (v 12)]) [.l (rM "numN" bu [11,13,9,10])]]]]]]]]]]]]] (u7 Hg (u7 Hf cQ)) (aM (Pa N) cR) (λ_=>by kernel_rfl) (by
  repeat' (first|exact bB|apply bC|apply cI|refine cJ (aB ?_)|refine cH (aB ?_) ?_)
  all_goals intro E h
  all_goals first|omega|grind (ematch:=4) (splits:=6) [Tn,a11,XM,XL,noD,->a0v]
  )
set_option maxRecDepth 100000 in
set_option maxHeartbeats 4000000 in
theorem ya:O a6P:=bE [.n (fI (v 12) (pl (ln1 (v 11)) (i6 1))) [.n (fT (lq (ln1 (v 11)) (i6 4200))) [.n (rP "ty" (Abs.bM .str) [11]) [.n (rP "ty" (Abs.bM (.int .i64)) [12]) [.n (rP "ty" (Abs.bM (.int .i64)) [10]) [.n (rP "ty" (Abs.bM (.int .i64)) [9]) [.n (fI (v 13) (pl (ln1 (v 11)) (i6 1))) [.n (rR "is" gm [v 11,v 12,.str [45],v 13]) [.l (rQ "tr" Abs.dk [lq (v 12) (v 13)]),
 .l (rM "numL" (vA 5000) [11,12,13]),
 .n (fI (v 15) (pl (ln1 (v 11)) (i6 1))) [.n (rP "num" dE [11,12,9,10,15,14]) [.l (rM "num" dE [11,12,9,10,15,14])]],
 .n (rP "numN" bu [11,12,9,10]) [.l (rM "numN" bu [11,12,9,10])]]],
 .n (rR "isN" cj [v 11,v 12,.str [45]]) [.l (rQ "tr" Abs.dk [lq (v 12) (v 12)]),
 .l (rM "numL" (vA 5000) [11,12,12]),
 .n (fI (v 14) (pl (ln1 (v 11)) (i6 1))) [.n (rP "num" dE [11,12,9,10,14,13]) [.l (rM "num" dE [11,12,9,10,14,13])]],
 .n (rP "numN" bu [11,12,9,10]) [.l (rM "numN" bu [11,12,9,10])]]]]]]]]] (u7 Hg (u7 Hf cQ)) (aM rf (aM (Pa 5000) cR)) (λ_=>by kernel_rfl) (by
  repeat' (first|exact bB|apply bC|apply cI|refine cJ (aB ?_)|refine cH (aB ?_) ?_)
  all_goals intro E h
  all_goals first|omega|grind (ematch:=4) (splits:=6) [Ts,Tq]
  )
set_option maxRecDepth 100000 in
set_option maxHeartbeats 4000000 in
theorem PC:∀N,O (a4q N)
  |0=>hD
  |N+1=>bE [.n (rP "idfL" (yB (N+1)) [9,10,12]) [.n (rP "ty" (Abs.bM (.int .i64)) [12]) [.n (rP "ty" (Abs.bM (.int .i64)) [10]) [.n (fT (lt (v 12) (v 10))) [.l (rP "out" Abs.jg [12,10]),
 .l (rP "hole" (Abs.BX 1) [9,12]),
 .n (rR "ltr" zw [.a2 (.at 1 0) (v 9) (v 12)]) [.l (rQ "idfL" (yB N) [v 9,v 10,pl (v 12) (i6 1)]),
 .n (rP "idf" Gr [9]) [.l (rM "idf" Gr [9])],
 .n (fT (gq (v 13) (i6 0))) [.n (rP "idfN" wc [9]) [.l (rM "idfN" wc [9])]]],
 .n (rR "ltrN" s6 [.a2 (.at 1 0) (v 9) (v 12)]) [.l (rM "idfN" wc [9]),
 .l (rQ "tr" Abs.dk [gq (v 12) (i6 0)])]],
 .n (fF (lt (v 12) (v 10))) [.l (rM "idf" Gr [9])]]]]] cQ (aM (PC N) (aM Vv cR)) (λ_=>by kernel_rfl) (by
  repeat' (first|exact bB|apply bC|apply cI|refine cJ (aB ?_)|refine cH (aB ?_) ?_)
  all_goals intro E h
  all_goals first|omega|grind (ematch:=4) (splits:=6) [Tz,Lq,TB]
  )
set_option maxRecDepth 100000 in
set_option maxHeartbeats 4000000 in
theorem L4:O a6N:=bE [.n (fT (lq (ln1 (v 8)) (i6 4200))) [.n (rP "ty" (Abs.bM .str) [8]) [.n (fT (eq (v 8) (.str []))) [.l (rM "plnN" dL [8])],
 .n (fF (eq (v 8) (.str []))) [.n (fT (gt (ln1 (v 8)) (i6 64))) [.l (rM "plnN" dL [8])],
 .n (fF (gt (ln1 (v 8)) (i6 64))) [.l (rR "out" Abs.jg [i6 0,ln1 (v 8)]),
 .n (rR "sml" Gn [ix (v 8) (i6 0)]) [.l (rQ "few" Abs.lU [.str [32,97,102,116,101,114,32,97,110,100,32,97,110,100,97,108,115,111,32,98,101,103,105,110,32,99,97,115,101,32,99,97,116,99,104,32,100,105,118,32,101,110,100,32,102,117,110,32,110,111,116,32,111,102,32,111,114,32,111,114,101,108,115,101,32,114,101,99,101,105,118,101,32,114,101,109,32,116,114,121,32,119,104,101,110,32]]),
 .n (rR "has" (Abs.U1 true) [.str [32,97,102,116,101,114,32,97,110,100,32,97,110,100,97,108,115,111,32,98,101,103,105,110,32,99,97,115,101,32,99,97,116,99,104,32,100,105,118,32,101,110,100,32,102,117,110,32,110,111,116,32,111,102,32,111,114,32,111,114,101,108,115,101,32,114,101,99,101,105,118,101,32,114,101,109,32,116,114,121,32,119,104,101,110,32],pl (pl (.str [32]) (v 8)) (.str [32])]) [.l (rM "plnN" dL [8])],
 .n (rR "hasnt" (Abs.U1 false) [.str [32,97,102,116,101,114,32,97,110,100,32,97,110,100,97,108,115,111,32,98,101,103,105,110,32,99,97,115,101,32,99,97,116,99,104,32,100,105,118,32,101,110,100,32,102,117,110,32,110,111,116,32,111,102,32,111,114,32,111,114,101,108,115,101,32,114,101,99,101,105,118,101,32,114,101,109,32,116,114,121,32,119,104,101,110,32],pl (pl (.str [32]) (v 8)) (.str [32])]) [.l (rQ "idfL" (yB 5000) [.a1 .sb (v 8),ln1 (v 8),i6 0]),
 .n (rR "idf" Gr [.a1 .sb (v 8)]) [.l (rM "pln" jM [8])],
 .n (fT (gq (v 11) (i6 0))) [.n (rR "idfN" wc [.a1 .sb (v 8)]) [.l (rM "plnN" dL [8])]]]],
 .n (rR "smlN" sZ [ix (v 8) (i6 0)]) [.l (rM "plnN" dL [8])]]]]]] (u7 a1r cQ) (aM (PC 5000) (aM LM cR)) (λ_=>by kernel_rfl) (by
  repeat' (first|exact bB|apply bC|apply cI|refine cJ (aB ?_)|refine cH (aB ?_) ?_)
  all_goals intro E h
  all_goals grind (ematch:=4) (splits:=6) [NR,NQ,NP,XK,NN,a10,a2e,Mw]
  )
set_option maxRecDepth 100000 in
set_option maxHeartbeats 4000000 in
theorem Ql:∀N,O (a4t N)
  |0=>hD
  |N+1=>bE [.n (rP "cplL" (pX (N+1)) [10,12,11]) [.n (fT (lq (v 12) (v 11))) [.n (fI (v 12) (pl (ln1 (v 10)) (i6 1))) [.n (fI (v 11) (pl (ln1 (v 10)) (i6 1))) [.n (fT (lq (ln1 (v 10)) (i6 4200))) [.n (rP "ty" (Abs.bM .str) [10]) [.n (rP "ty" (Abs.bM (.int .i64)) [11]) [.n (rP "ty" (Abs.bM (.int .i64)) [12]) [.n (fT (lt (v 11) (ln1 (v 10)))) [.n (rR "ltr" zw [ix (v 10) (v 11)]) [.l (rQ "in" Abs.ee [pl (v 11) (i6 1),pl (ln1 (v 10)) (i6 1)]),
 .l (rQ "tr" Abs.dk [lq (v 12) (pl (v 11) (i6 1))]),
 .l (rQ "cplL" (pX N) [v 10,v 12,pl (v 11) (i6 1)]),
 .n (fI (v 14) (pl (ln1 (v 10)) (i6 1))) [.n (rP "cpl" oW [10,12,14,13]) [.l (rM "cpl" oW [10,12,14,13])]],
 .n (rP "cplN" pY [10,12]) [.l (rM "cplN" pY [10,12])]],
 .n (rR "ltrN" s6 [ix (v 10) (v 11)]) [.l (rQ "tr" Abs.dk [lq (ln1 (a6 (v 10) (v 12) (v 11))) (i6 4200)]),
 .n (rR "pln" jM [a6 (v 10) (v 12) (v 11)]) [.l (rQ "cpl" oW [v 10,v 12,v 11,a6 (v 10) (v 12) (v 11)])],
 .n (rR "plnN" dL [a6 (v 10) (v 12) (v 11)]) [.l (rM "cplN" pY [10,12])]]],
 .n (fF (lt (v 11) (ln1 (v 10)))) [.l (rQ "tr" Abs.dk [lq (ln1 (a6 (v 10) (v 12) (v 11))) (i6 4200)]),
 .n (rR "pln" jM [a6 (v 10) (v 12) (v 11)]) [.l (rQ "cpl" oW [v 10,v 12,v 11,a6 (v 10) (v 12) (v 11)])],
 .n (rR "plnN" dL [a6 (v 10) (v 12) (v 11)]) [.l (rM "cplN" pY [10,12])]]]]]]]]]]] cQ (aM (Ql N) (aM Vv (aM L4 cR))) (λ_=>by kernel_rfl) (by
  repeat' (first|exact bB|apply bC|apply cI|refine cJ (aB ?_)|refine cH (aB ?_) ?_)
  all_goals intro E h
  all_goals first|omega|grind (ematch:=4) (splits:=6) [TJ,TH,TK,noL]
  )
set_option maxRecDepth 100000 in
set_option maxHeartbeats 4000000 in
theorem a3G:O a63:=bE [.n (fI (v 10) (pl (ln1 (v 9)) (i6 1))) [.n (fT (lq (ln1 (v 9)) (i6 4200))) [.n (rP "ty" (Abs.bM .str) [9]) [.n (rP "ty" (Abs.bM (.int .i64)) [10]) [.l (rQ "tr" Abs.dk [lq (v 10) (v 10)]),
 .l (rM "cplL" (pX 5000) [9,10,10]),
 .n (fI (v 13) (pl (ln1 (v 9)) (i6 1))) [.n (rP "cpl" oW [9,10,13,12]) [.l (rM "cpl" oW [9,10,13,12])]],
 .n (rP "cplN" pY [9,10]) [.l (rM "cplN" pY [9,10])]]]]]] cQ (aM (Ql 5000) cR) (λ_=>by kernel_rfl) (by
  repeat' (first|exact bB|apply bC|apply cI|refine cJ (aB ?_)|refine cH (aB ?_) ?_)
  all_goals intro E h
  all_goals first|omega|grind (ematch:=4) (splits:=6) [TL]
  )
set_option maxRecDepth 100000 in
set_option maxHeartbeats 4000000 in
theorem OO:∀N,O (a4h N)
  |0=>hD
  |N+1=>bE [.n (rP "quoL" (pU (N+1)) [11,12,14,17,15]) [.n (rP "ty" (Abs.bM (.int .i64)) [14]) [.n (rP "ty" (Abs.bM (.int .i64)) [12]) [.n (rP "ty" (Abs.bM .str) [11]) [.n (fT (lt (v 14) (v 12))) [.l (rP "out" Abs.jg [14,12]),
 .l (rR "hole" (Abs.BX 1) [.a1 .sb (v 11),v 14]),
 .n (fT (eq (.a2 (.at 1 0) (.a1 .sb (v 11)) (v 14)) (u8 39))) [.l (rP "grow" (Abs.eL 1 1 1) [17,15]),
 .n (fI (v 15) (pl (v 15) (i6 1))) [.l (rR "grow" (Abs.eL 1 1 1) [sn (tk 1 (v 17) (v 15)) (u8 92),pl (v 15) (i6 1)]),
 .n (fI (pl (v 15) (i6 1)) (pl (pl (v 15) (i6 1)) (i6 1))) [.l (rQ "quoL" (pU N) [v 11,v 12,pl (v 14) (i6 1),sn (tk 1 (sn (tk 1 (v 17) (v 15)) (u8 92)) (pl (v 15) (i6 1))) (.a2 (.at 1 0) (.a1 .sb (v 11)) (v 14)),pl (pl (v 15) (i6 1)) (i6 1)]),
 .n (rP "quo" hO [11,24]) [.l (rM "quo" hO [11,24])]]]],
 .n (fF (eq (.a2 (.at 1 0) (.a1 .sb (v 11)) (v 14)) (u8 39))) [.n (fT (eq (.a2 (.at 1 0) (.a1 .sb (v 11)) (v 14)) (u8 92))) [.l (rP "grow" (Abs.eL 1 1 1) [17,15]),
 .n (fI (v 15) (pl (v 15) (i6 1))) [.l (rR "grow" (Abs.eL 1 1 1) [sn (tk 1 (v 17) (v 15)) (u8 92),pl (v 15) (i6 1)]),
 .n (fI (pl (v 15) (i6 1)) (pl (pl (v 15) (i6 1)) (i6 1))) [.l (rQ "quoL" (pU N) [v 11,v 12,pl (v 14) (i6 1),sn (tk 1 (sn (tk 1 (v 17) (v 15)) (u8 92)) (pl (v 15) (i6 1))) (.a2 (.at 1 0) (.a1 .sb (v 11)) (v 14)),pl (pl (v 15) (i6 1)) (i6 1)]),
 .n (rP "quo" hO [11,24]) [.l (rM "quo" hO [11,24])]]]],
 .n (fF (eq (.a2 (.at 1 0) (.a1 .sb (v 11)) (v 14)) (u8 92))) [.n (fT (lt (.a2 (.at 1 0) (.a1 .sb (v 11)) (v 14)) (u8 32))) [.l (rR "grows" (Abs.GF 1) [v 17,v 15,pl (pl (.str [92,120]) (a6 (.str [48,49,50,51,52,53,54,55,56,57,97,98,99,100,101,102]) (.a2 (.bin .shr) (.a2 (.at 1 0) (.a1 .sb (v 11)) (v 14)) (.int .u64 4)) (pl (.a2 (.bin .shr) (.a2 (.at 1 0) (.a1 .sb (v 11)) (v 14)) (.int .u64 4)) (u8 1)))) (a6 (.str [48,49,50,51,52,53,54,55,56,57,97,98,99,100,101,102]) (.a2 (.bin .and) (.a2 (.at 1 0) (.a1 .sb (v 11)) (v 14)) (u8 15)) (pl (.a2 (.bin .and) (.a2 (.at 1 0) (.a1 .sb (v 11)) (v 14)) (u8 15)) (u8 1)))]),
 .l (rQ "quoL" (pU N) [v 11,v 12,pl (v 14) (i6 1),.a2 .cat (tk 1 (v 17) (v 15)) (.a1 .sb (pl (pl (.str [92,120]) (a6 (.str [48,49,50,51,52,53,54,55,56,57,97,98,99,100,101,102]) (.a2 (.bin .shr) (.a2 (.at 1 0) (.a1 .sb (v 11)) (v 14)) (.int .u64 4)) (pl (.a2 (.bin .shr) (.a2 (.at 1 0) (.a1 .sb (v 11)) (v 14)) (.int .u64 4)) (u8 1)))) (a6 (.str [48,49,50,51,52,53,54,55,56,57,97,98,99,100,101,102]) (.a2 (.bin .and) (.a2 (.at 1 0) (.a1 .sb (v 11)) (v 14)) (u8 15)) (pl (.a2 (.bin .and) (.a2 (.at 1 0) (.a1 .sb (v 11)) (v 14)) (u8 15)) (u8 1))))),pl (v 15) (ln1 (pl (pl (.str [92,120]) (a6 (.str [48,49,50,51,52,53,54,55,56,57,97,98,99,100,101,102]) (.a2 (.bin .shr) (.a2 (.at 1 0) (.a1 .sb (v 11)) (v 14)) (.int .u64 4)) (pl (.a2 (.bin .shr) (.a2 (.at 1 0) (.a1 .sb (v 11)) (v 14)) (.int .u64 4)) (u8 1)))) (a6 (.str [48,49,50,51,52,53,54,55,56,57,97,98,99,100,101,102]) (.a2 (.bin .and) (.a2 (.at 1 0) (.a1 .sb (v 11)) (v 14)) (u8 15)) (pl (.a2 (.bin .and) (.a2 (.at 1 0) (.a1 .sb (v 11)) (v 14)) (u8 15)) (u8 1)))))]),
 .n (rP "quo" hO [11,20]) [.l (rM "quo" hO [11,20])]],
 .n (fF (lt (.a2 (.at 1 0) (.a1 .sb (v 11)) (v 14)) (u8 32))) [.n (fT (gt (.a2 (.at 1 0) (.a1 .sb (v 11)) (v 14)) (u8 126))) [.l (rR "grows" (Abs.GF 1) [v 17,v 15,pl (pl (.str [92,120]) (a6 (.str [48,49,50,51,52,53,54,55,56,57,97,98,99,100,101,102]) (.a2 (.bin .shr) (.a2 (.at 1 0) (.a1 .sb (v 11)) (v 14)) (.int .u64 4)) (pl (.a2 (.bin .shr) (.a2 (.at 1 0) (.a1 .sb (v 11)) (v 14)) (.int .u64 4)) (u8 1)))) (a6 (.str [48,49,50,51,52,53,54,55,56,57,97,98,99,100,101,102]) (.a2 (.bin .and) (.a2 (.at 1 0) (.a1 .sb (v 11)) (v 14)) (u8 15)) (pl (.a2 (.bin .and) (.a2 (.at 1 0) (.a1 .sb (v 11)) (v 14)) (u8 15)) (u8 1)))]),
 .l (rQ "quoL" (pU N) [v 11,v 12,pl (v 14) (i6 1),.a2 .cat (tk 1 (v 17) (v 15)) (.a1 .sb (pl (pl (.str [92,120]) (a6 (.str [48,49,50,51,52,53,54,55,56,57,97,98,99,100,101,102]) (.a2 (.bin .shr) (.a2 (.at 1 0) (.a1 .sb (v 11)) (v 14)) (.int .u64 4)) (pl (.a2 (.bin .shr) (.a2 (.at 1 0) (.a1 .sb (v 11)) (v 14)) (.int .u64 4)) (u8 1)))) (a6 (.str [48,49,50,51,52,53,54,55,56,57,97,98,99,100,101,102]) (.a2 (.bin .and) (.a2 (.at 1 0) (.a1 .sb (v 11)) (v 14)) (u8 15)) (pl (.a2 (.bin .and) (.a2 (.at 1 0) (.a1 .sb (v 11)) (v 14)) (u8 15)) (u8 1))))),pl (v 15) (ln1 (pl (pl (.str [92,120]) (a6 (.str [48,49,50,51,52,53,54,55,56,57,97,98,99,100,101,102]) (.a2 (.bin .shr) (.a2 (.at 1 0) (.a1 .sb (v 11)) (v 14)) (.int .u64 4)) (pl (.a2 (.bin .shr) (.a2 (.at 1 0) (.a1 .sb (v 11)) (v 14)) (.int .u64 4)) (u8 1)))) (a6 (.str [48,49,50,51,52,53,54,55,56,57,97,98,99,100,101,102]) (.a2 (.bin .and) (.a2 (.at 1 0) (.a1 .sb (v 11)) (v 14)) (u8 15)) (pl (.a2 (.bin .and) (.a2 (.at 1 0) (.a1 .sb (v 11)) (v 14)) (u8 15)) (u8 1)))))]),
 .n (rP "quo" hO [11,20]) [.l (rM "quo" hO [11,20])]],
 .n (fF (gt (.a2 (.at 1 0) (.a1 .sb (v 11)) (v 14)) (u8 126))) [.l (rP "grow" (Abs.eL 1 1 1) [17,15]),
 .n (fI (v 15) (pl (v 15) (i6 1))) [.l (rQ "quoL" (pU N) [v 11,v 12,pl (v 14) (i6 1),sn (tk 1 (v 17) (v 15)) (.a2 (.at 1 0) (.a1 .sb (v 11)) (v 14)),pl (v 15) (i6 1)]),
 .n (rP "quo" hO [11,21]) [.l (rM "quo" hO [11,21])]]]]]]],
 .n (fF (lt (v 14) (v 12))) [.l (rP "grow" (Abs.eL 1 1 1) [17,15]),
 .n (fI (v 15) (pl (v 15) (i6 1))) [.l (rR "some" Abs.Mf [pl (v 15) (i6 1)]),
 .l (rR "strv" Abs.UZ [sn (tk 1 (v 17) (v 15)) (u8 39),pl (v 15) (i6 1)]),
 .l (rQ "quo" hO [v 11,.a1 .bs (tk 1 (sn (tk 1 (v 17) (v 15)) (u8 39)) (pl (v 15) (i6 1)))])]]]]]]] cQ (aM (OO N) cR) (λ_=>by kernel_rfl) (by
  repeat' (first|exact bB|apply bC|apply cI|refine cJ (aB ?_)|refine cH (aB ?_) ?_)
  all_goals intro E h
  all_goals first|omega|(have a:gc E 17=39::mh (List.take (gi E 14).toNat (gs E 11)):=(by simp only[<-ft]at h;exact h.1.1.2);have b:=a7F a;have e2:=lF (l:=gc E 17) (i:=gi E 15) (by omega);have e3:=λc=>tk1 (l:=gc E 17) (c:=c) (i:=gi E 15) (by omega);have w:=eg (n:=gi E 15+1) (by omega);have w2:=eg (n:=gi E 15+1+1) (by omega);have w3:=eg (n:=gi E 15+((2+1+1:Nat):Int)) (by omega);(try simp(disch:=omega) only[e2,e3,w,w2,w3,od,KS,bL,il,rX]at h);first|omega|exact h.1 h.2.1|exact h.1 ⟨⟨⟨⟨by omega,by omega⟩,by omega,by omega⟩,⟨by omega,by omega⟩⟩,by omega,by omega,by omega,by omega,qA a (by omega) (by omega) (by omega),by omega,by omega⟩|exact h.1 ⟨by omega,by omega,by omega,by omega,qB a (by omega) (by omega) (by omega),by omega,by omega⟩|exact h.1 ⟨⟨⟨by omega,by omega⟩,⟨by omega,by omega⟩⟩,by omega,by omega,by omega,by omega,qC a (by omega) (by omega) (by omega) (by omega) (by omega) (by omega),by omega,by omega⟩|exact h.1 ⟨⟨⟨by omega,by omega⟩,by omega,by omega⟩,qE a (by omega)⟩)
  )
set_option maxRecDepth 100000 in
set_option maxHeartbeats 4000000 in
theorem Gh:O a6L:=bE [.n (fT (lq (ln1 (v 8)) (i6 4200))) [.n (rP "ty" (Abs.bM .str) [8]) [.l (rQ "quoL" (pU 5000) [v 8,ln1 (v 8),i6 0,sn (.a1 (.nl [(.int .u8)]) (.bool true)) (u8 39),i6 1]),
 .n (rP "quo" hO [8,15]) [.l (rM "quo" hO [8,15])]]]] cQ (aM (OO 5000) cR) (λ_=>by kernel_rfl) (by
  repeat' (first|exact bB|apply bC|apply cI|refine cJ (aB ?_)|refine cH (aB ?_) ?_)
  all_goals intro E h
  all_goals first|omega|grind (ematch:=4) (splits:=6)
  )
end Go.Proofs.YtokipodjggomfaaGreatDoor
