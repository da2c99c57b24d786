/- A part of the proof of ScriptParses: K6. Conditions: those of each theorem. -/
import Derived.Test.YtokipodjggomfaaGreatDoorScrK5
set_option linter.unusedVariables false
set_option linter.unusedSimpArgs false
set_option linter.unusedSimpArgs false
set_option linter.unusedVariables false
namespace Go.Proofs.YtokipodjggomfaaGreatDoor
open Go Go.Proofs.YtokipodjggomfaaGreatDoor.Txt
set_option maxRecDepth 100000 in
set_option maxHeartbeats 4000000 in
theorem Gk:∀N,O (a4g N)
  |0=>hD
  |N+1=>bE [.n (rP "quRL" (nI (N+1)) [8,9,10]) [.n (fT (lq (ln1 (v 9)) (i6 20000))) [.n (fI (v 10) (pl (ln1 (v 8)) (i6 1))) [.n (fT (lq (ln1 (v 8)) (i6 4200))) [.n (rP "ty" (Abs.bM (.int .i64)) [10]) [.n (rP "ty" (Abs.bM .str) [9]) [.n (rP "ty" (Abs.bM .str) [8]) [.n (fT (lt (v 10) (ln1 (v 8)))) [.n (fT (lt (ix (v 8) (v 10)) (u8 32))) [.l (rQ "in" Abs.ee [pl (v 10) (i6 1),pl (ln1 (v 8)) (i6 1)]),
 .l (rQ "tr" Abs.dk [lq (ln1 (pl (pl (pl (v 9) (.str [92,120])) (a6 (.str [48,49,50,51,52,53,54,55,56,57,97,98,99,100,101,102]) (qu (ix (v 8) (v 10)) (u8 16)) (pl (qu (ix (v 8) (v 10)) (u8 16)) (u8 1)))) (a6 (.str [48,49,50,51,52,53,54,55,56,57,97,98,99,100,101,102]) (re (ix (v 8) (v 10)) (u8 16)) (pl (re (ix (v 8) (v 10)) (u8 16)) (u8 1))))) (i6 20000)]),
 .l (rQ "quRL" (nI N) [v 8,pl (pl (pl (v 9) (.str [92,120])) (a6 (.str [48,49,50,51,52,53,54,55,56,57,97,98,99,100,101,102]) (qu (ix (v 8) (v 10)) (u8 16)) (pl (qu (ix (v 8) (v 10)) (u8 16)) (u8 1)))) (a6 (.str [48,49,50,51,52,53,54,55,56,57,97,98,99,100,101,102]) (re (ix (v 8) (v 10)) (u8 16)) (pl (re (ix (v 8) (v 10)) (u8 16)) (u8 1))),pl (v 10) (i6 1)]),
 .n (rP "quo" hO [8,11]) [.l (rM "quo" hO [8,11])]],
 .n (fF (lt (ix (v 8) (v 10)) (u8 32))) [.n (fT (gt (ix (v 8) (v 10)) (u8 126))) [.l (rQ "in" Abs.ee [pl (v 10) (i6 1),pl (ln1 (v 8)) (i6 1)]),
 .l (rQ "tr" Abs.dk [lq (ln1 (pl (pl (pl (v 9) (.str [92,120])) (a6 (.str [48,49,50,51,52,53,54,55,56,57,97,98,99,100,101,102]) (qu (ix (v 8) (v 10)) (u8 16)) (pl (qu (ix (v 8) (v 10)) (u8 16)) (u8 1)))) (a6 (.str [48,49,50,51,52,53,54,55,56,57,97,98,99,100,101,102]) (re (ix (v 8) (v 10)) (u8 16)) (pl (re (ix (v 8) (v 10)) (u8 16)) (u8 1))))) (i6 20000)]),
 .l (rQ "quRL" (nI N) [v 8,pl (pl (pl (v 9) (.str [92,120])) (a6 (.str [48,49,50,51,52,53,54,55,56,57,97,98,99,100,101,102]) (qu (ix (v 8) (v 10)) (u8 16)) (pl (qu (ix (v 8) (v 10)) (u8 16)) (u8 1)))) (a6 (.str [48,49,50,51,52,53,54,55,56,57,97,98,99,100,101,102]) (re (ix (v 8) (v 10)) (u8 16)) (pl (re (ix (v 8) (v 10)) (u8 16)) (u8 1))),pl (v 10) (i6 1)]),
 .n (rP "quo" hO [8,11]) [.l (rM "quo" hO [8,11])]],
 .n (fF (gt (ix (v 8) (v 10)) (u8 126))) [.n (fT (eq (ix (v 8) (v 10)) (u8 39))) [.l (rQ "in" Abs.ee [pl (v 10) (i6 1),pl (ln1 (v 8)) (i6 1)]),
 .l (rQ "tr" Abs.dk [lq (ln1 (pl (pl (v 9) (.str [92])) (a6 (v 8) (v 10) (pl (v 10) (i6 1))))) (i6 20000)]),
 .l (rQ "quRL" (nI N) [v 8,pl (pl (v 9) (.str [92])) (a6 (v 8) (v 10) (pl (v 10) (i6 1))),pl (v 10) (i6 1)]),
 .n (rP "quo" hO [8,11]) [.l (rM "quo" hO [8,11])]],
 .n (fF (eq (ix (v 8) (v 10)) (u8 39))) [.n (fT (eq (ix (v 8) (v 10)) (u8 92))) [.l (rQ "in" Abs.ee [pl (v 10) (i6 1),pl (ln1 (v 8)) (i6 1)]),
 .l (rQ "tr" Abs.dk [lq (ln1 (pl (pl (v 9) (.str [92])) (a6 (v 8) (v 10) (pl (v 10) (i6 1))))) (i6 20000)]),
 .l (rQ "quRL" (nI N) [v 8,pl (pl (v 9) (.str [92])) (a6 (v 8) (v 10) (pl (v 10) (i6 1))),pl (v 10) (i6 1)]),
 .n (rP "quo" hO [8,11]) [.l (rM "quo" hO [8,11])]],
 .n (fF (eq (ix (v 8) (v 10)) (u8 92))) [.l (rQ "in" Abs.ee [pl (v 10) (i6 1),pl (ln1 (v 8)) (i6 1)]),
 .l (rQ "tr" Abs.dk [lq (ln1 (pl (v 9) (a6 (v 8) (v 10) (pl (v 10) (i6 1))))) (i6 20000)]),
 .l (rQ "quRL" (nI N) [v 8,pl (v 9) (a6 (v 8) (v 10) (pl (v 10) (i6 1))),pl (v 10) (i6 1)]),
 .n (rP "quo" hO [8,11]) [.l (rM "quo" hO [8,11])]]]]]],
 .n (fF (lt (v 10) (ln1 (v 8)))) [.l (rQ "quo" hO [v 8,pl (v 9) (.str [39])])]]]]]]]]] cQ (aM (Gk N) cR) (λ_=>by kernel_rfl) (by
  repeat' (first|exact bB|apply bC|apply cI|refine cJ (aB ?_)|refine cH (aB ?_) ?_)
  all_goals intro E h
  all_goals first|omega|grind (ematch:=4) (splits:=6) [esA,esB,esC,EV,List.length_cons,esE,R6]
  )
set_option maxRecDepth 100000 in
set_option maxHeartbeats 4000000 in
theorem I8:∀N,O (a0l N)
  |0=>hD
  |N+1=>bE [.n (rP "rquL" (kL (N+1)) [11,13,12,16,14]) [.n (fT (lq (v 13) (v 12))) [.n (fI (v 13) (pl (ln1 (v 11)) (i6 1))) [.n (fI (v 12) (pl (ln1 (v 11)) (i6 2))) [.n (fT (lq (ln1 (v 11)) (i6 4200))) [.n (rP "ty" (Abs.bM .str) [11]) [.n (rP "ty" (Abs.bM (.int .i64)) [12]) [.n (rP "ty" (Abs.bM (.int .i64)) [13]) [.n (fT (lt (v 12) (ln1 (v 11)))) [.n (fT (ne (ix (v 11) (v 12)) (u8 39))) [.n (fT (eq (ix (v 11) (v 12)) (u8 92))) [.n (fT (gq (pl (v 12) (i6 1)) (ln1 (v 11)))) [.l (rP "grow" (Abs.eL 1 1 1) [16,14]),
 .n (fI (v 14) (pl (v 14) (i6 1))) [.l (rQ "in" Abs.ee [pl (pl (v 12) (i6 1)) (i6 1),pl (ln1 (v 11)) (i6 2)]),
 .l (rQ "tr" Abs.dk [lq (v 13) (pl (pl (v 12) (i6 1)) (i6 1))]),
 .l (rQ "rquL" (kL N) [v 11,v 13,pl (pl (v 12) (i6 1)) (i6 1),sn (tk 1 (v 16) (v 14)) (u8 0),pl (v 14) (i6 1)]),
 .n (fI (v 21) (pl (ln1 (v 11)) (i6 1))) [.n (rP "qq" kE [11,13,21,20]) [.l (rM "qq" kE [11,13,21,20])]],
 .n (rP "qqN" cW [11,13,20]) [.l (rM "qqN" cW [11,13,20])]]],
 .n (fF (gq (pl (v 12) (i6 1)) (ln1 (v 11)))) [.n (fT (eq (ix (v 11) (pl (v 12) (i6 1))) (u8 120))) [.n (fT (lq (pl (pl (pl (v 12) (i6 1)) (i6 1)) (i6 2)) (ln1 (v 11)))) [.n (rR "hex" zy [ix (v 11) (pl (pl (v 12) (i6 1)) (i6 1)),v 17]) [.n (rR "hex" zy [ix (v 11) (pl (pl (pl (v 12) (i6 1)) (i6 1)) (i6 1)),v 18]) [.l (rP "grow" (Abs.eL 1 1 1) [16,14]),
 .n (fI (v 14) (pl (v 14) (i6 1))) [.l (rQ "in" Abs.ee [pl (pl (pl (v 12) (i6 1)) (i6 1)) (i6 2),pl (ln1 (v 11)) (i6 2)]),
 .l (rQ "tr" Abs.dk [lq (v 13) (pl (pl (pl (v 12) (i6 1)) (i6 1)) (i6 2))]),
 .l (rQ "rquL" (kL N) [v 11,v 13,pl (pl (pl (v 12) (i6 1)) (i6 1)) (i6 2),sn (tk 1 (v 16) (v 14)) (.a1 (.conv .u8) (pl (mu (i6 16) (v 17)) (v 18))),pl (v 14) (i6 1)]),
 .n (fI (v 23) (pl (ln1 (v 11)) (i6 1))) [.n (rP "qq" kE [11,13,23,22]) [.l (rM "qq" kE [11,13,23,22])]],
 .n (rP "qqN" cW [11,13,22]) [.l (rM "qqN" cW [11,13,22])]]]]],
 .n (fF (lq (pl (pl (pl (v 12) (i6 1)) (i6 1)) (i6 2)) (ln1 (v 11)))) [.l (rP "grow" (Abs.eL 1 1 1) [16,14]),
 .n (fI (v 14) (pl (v 14) (i6 1))) [.l (rQ "in" Abs.ee [pl (pl (v 12) (i6 1)) (i6 1),pl (ln1 (v 11)) (i6 2)]),
 .l (rQ "tr" Abs.dk [lq (v 13) (pl (pl (v 12) (i6 1)) (i6 1))]),
 .l (rQ "rquL" (kL N) [v 11,v 13,pl (pl (v 12) (i6 1)) (i6 1),sn (tk 1 (v 16) (v 14)) (ix (v 11) (pl (v 12) (i6 1))),pl (v 14) (i6 1)]),
 .n (fI (v 21) (pl (ln1 (v 11)) (i6 1))) [.n (rP "qq" kE [11,13,21,20]) [.l (rM "qq" kE [11,13,21,20])]],
 .n (rP "qqN" cW [11,13,20]) [.l (rM "qqN" cW [11,13,20])]]]],
 .n (fF (eq (ix (v 11) (pl (v 12) (i6 1))) (u8 120))) [.l (rP "grow" (Abs.eL 1 1 1) [16,14]),
 .n (fI (v 14) (pl (v 14) (i6 1))) [.l (rQ "in" Abs.ee [pl (pl (v 12) (i6 1)) (i6 1),pl (ln1 (v 11)) (i6 2)]),
 .l (rQ "tr" Abs.dk [lq (v 13) (pl (pl (v 12) (i6 1)) (i6 1))]),
 .l (rQ "rquL" (kL N) [v 11,v 13,pl (pl (v 12) (i6 1)) (i6 1),sn (tk 1 (v 16) (v 14)) (ix (v 11) (pl (v 12) (i6 1))),pl (v 14) (i6 1)]),
 .n (fI (v 21) (pl (ln1 (v 11)) (i6 1))) [.n (rP "qq" kE [11,13,21,20]) [.l (rM "qq" kE [11,13,21,20])]],
 .n (rP "qqN" cW [11,13,20]) [.l (rM "qqN" cW [11,13,20])]]]]],
 .n (fF (eq (ix (v 11) (v 12)) (u8 92))) [.l (rP "grow" (Abs.eL 1 1 1) [16,14]),
 .n (fI (v 14) (pl (v 14) (i6 1))) [.l (rQ "in" Abs.ee [pl (v 12) (i6 1),pl (ln1 (v 11)) (i6 2)]),
 .l (rQ "tr" Abs.dk [lq (v 13) (pl (v 12) (i6 1))]),
 .l (rQ "rquL" (kL N) [v 11,v 13,pl (v 12) (i6 1),sn (tk 1 (v 16) (v 14)) (ix (v 11) (v 12)),pl (v 14) (i6 1)]),
 .n (fI (v 21) (pl (ln1 (v 11)) (i6 1))) [.n (rP "qq" kE [11,13,21,20]) [.l (rM "qq" kE [11,13,21,20])]],
 .n (rP "qqN" cW [11,13,20]) [.l (rM "qqN" cW [11,13,20])]]]],
 .n (fF (ne (ix (v 11) (v 12)) (u8 39))) [.n (fT (lt (mi (ln1 (v 11)) (v 12)) (i6 1))) [.l (rP "short" (Abs.dq 1) [16,14]),
 .l (rQ "qqN" cW [v 11,v 13,.a1 .bs (tk 1 (v 16) (v 14))])],
 .n (fF (lt (mi (ln1 (v 11)) (v 12)) (i6 1))) [.n (fT (ne (a6 (v 11) (v 12) (pl (v 12) (i6 1))) (.str [39]))) [.l (rP "short" (Abs.dq 1) [16,14]),
 .l (rQ "qqN" cW [v 11,v 13,.a1 .bs (tk 1 (v 16) (v 14))])],
 .n (fF (ne (a6 (v 11) (v 12) (pl (v 12) (i6 1))) (.str [39]))) [.l (rP "short" (Abs.dq 1) [16,14]),
 .n (fT (gt (v 14) (i6 64))) [.l (rQ "qqN" cW [v 11,v 13,.a1 .bs (tk 1 (v 16) (v 14))])],
 .n (fF (gt (v 14) (i6 64))) [.l (rQ "tr" Abs.dk [lq (ln1 (.a1 .bs (tk 1 (v 16) (v 14)))) (i6 4200)]),
 .n (rR "pln" jM [.a1 .bs (tk 1 (v 16) (v 14))]) [.n (fT (ne (.a1 .bs (tk 1 (v 16) (v 14))) (a6 (v 11) (v 13) (pl (v 12) (i6 1))))) [.l (rQ "qqN" cW [v 11,v 13,.a1 .bs (tk 1 (v 16) (v 14))])],
 .n (fF (ne (.a1 .bs (tk 1 (v 16) (v 14))) (a6 (v 11) (v 13) (pl (v 12) (i6 1))))) [.l (rQ "qq" kE [v 11,v 13,pl (v 12) (i6 1),.a1 .bs (tk 1 (v 16) (v 14))]),
 .l (rQ "in" Abs.ee [pl (v 12) (i6 1),pl (ln1 (v 11)) (i6 1)])]],
 .n (rR "plnN" dL [.a1 .bs (tk 1 (v 16) (v 14))]) [.l (rQ "tr" Abs.dk [lq (ln1 (.a1 .bs (tk 1 (v 16) (v 14)))) (i6 4200)]),
 .l (rQ "in" Abs.ee [i6 0,pl (ln1 (.a1 .bs (tk 1 (v 16) (v 14)))) (i6 1)]),
 .l (rQ "tr" Abs.dk [lq (ln1 (.str [39])) (i6 20000)]),
 .l (rQ "quRL" (nI 5000) [.a1 .bs (tk 1 (v 16) (v 14)),.str [39],i6 0]),
 .n (rR "quo" hO [.a1 .bs (tk 1 (v 16) (v 14)),v 19]) [.n (fT (ne (v 19) (a6 (v 11) (v 13) (pl (v 12) (i6 1))))) [.l (rQ "qqN" cW [v 11,v 13,.a1 .bs (tk 1 (v 16) (v 14))])],
 .n (fF (ne (v 19) (a6 (v 11) (v 13) (pl (v 12) (i6 1))))) [.l (rQ "qq" kE [v 11,v 13,pl (v 12) (i6 1),.a1 .bs (tk 1 (v 16) (v 14))]),
 .l (rQ "in" Abs.ee [pl (v 12) (i6 1),pl (ln1 (v 11)) (i6 1)])]]]]]]]],
 .n (fF (lt (v 12) (ln1 (v 11)))) [.n (fT (lt (mi (ln1 (v 11)) (v 12)) (i6 1))) [.l (rP "short" (Abs.dq 1) [16,14]),
 .l (rQ "qqN" cW [v 11,v 13,.a1 .bs (tk 1 (v 16) (v 14))])],
 .n (fF (lt (mi (ln1 (v 11)) (v 12)) (i6 1))) [.n (fT (ne (a6 (v 11) (v 12) (pl (v 12) (i6 1))) (.str [39]))) [.l (rP "short" (Abs.dq 1) [16,14]),
 .l (rQ "qqN" cW [v 11,v 13,.a1 .bs (tk 1 (v 16) (v 14))])],
 .n (fF (ne (a6 (v 11) (v 12) (pl (v 12) (i6 1))) (.str [39]))) [.l (rP "short" (Abs.dq 1) [16,14]),
 .n (fT (gt (v 14) (i6 64))) [.l (rQ "qqN" cW [v 11,v 13,.a1 .bs (tk 1 (v 16) (v 14))])],
 .n (fF (gt (v 14) (i6 64))) [.l (rQ "tr" Abs.dk [lq (ln1 (.a1 .bs (tk 1 (v 16) (v 14)))) (i6 4200)]),
 .n (rR "pln" jM [.a1 .bs (tk 1 (v 16) (v 14))]) [.n (fT (ne (.a1 .bs (tk 1 (v 16) (v 14))) (a6 (v 11) (v 13) (pl (v 12) (i6 1))))) [.l (rQ "qqN" cW [v 11,v 13,.a1 .bs (tk 1 (v 16) (v 14))])],
 .n (fF (ne (.a1 .bs (tk 1 (v 16) (v 14))) (a6 (v 11) (v 13) (pl (v 12) (i6 1))))) [.l (rQ "qq" kE [v 11,v 13,pl (v 12) (i6 1),.a1 .bs (tk 1 (v 16) (v 14))]),
 .l (rQ "in" Abs.ee [pl (v 12) (i6 1),pl (ln1 (v 11)) (i6 1)])]],
 .n (rR "plnN" dL [.a1 .bs (tk 1 (v 16) (v 14))]) [.l (rQ "tr" Abs.dk [lq (ln1 (.a1 .bs (tk 1 (v 16) (v 14)))) (i6 4200)]),
 .l (rQ "in" Abs.ee [i6 0,pl (ln1 (.a1 .bs (tk 1 (v 16) (v 14)))) (i6 1)]),
 .l (rQ "tr" Abs.dk [lq (ln1 (.str [39])) (i6 20000)]),
 .l (rQ "quRL" (nI 5000) [.a1 .bs (tk 1 (v 16) (v 14)),.str [39],i6 0]),
 .n (rR "quo" hO [.a1 .bs (tk 1 (v 16) (v 14)),v 19]) [.n (fT (ne (v 19) (a6 (v 11) (v 13) (pl (v 12) (i6 1))))) [.l (rQ "qqN" cW [v 11,v 13,.a1 .bs (tk 1 (v 16) (v 14))])],
 .n (fF (ne (v 19) (a6 (v 11) (v 13) (pl (v 12) (i6 1))))) [.l (rQ "qq" kE [v 11,v 13,pl (v 12) (i6 1),.a1 .bs (tk 1 (v 16) (v 14))]),
 .l (rQ "in" Abs.ee [pl (v 12) (i6 1),pl (ln1 (v 11)) (i6 1)])]]]]]]]]]]]]]]]] cQ (aM (I8 N) (aM VU (aM Gs (aM (Gk 5000) cR)))) (λ_=>by kernel_rfl) (by
  repeat' (first|exact bB|apply bC|apply cI|refine cJ (aB ?_)|refine cH (aB ?_) ?_)
  all_goals intro E h
  all_goals first|omega|grind (ematch:=4) (splits:=6) [a0M,Td,Tc,a0K,a0J,a0L,Tb,U7,List.take_length,a2m]
  )
set_option maxRecDepth 100000 in
set_option maxHeartbeats 4000000 in
theorem Yr:O a4d:=bE [.n (fT (eq (ix (v 9) (v 10)) (u8 39))) [.n (fI (v 10) (pl (ln1 (v 9)) (i6 1))) [.n (fT (lq (ln1 (v 9)) (i6 4200))) [.n (rP "ty" (Abs.bM .str) [9]) [.n (rP "ty" (Abs.bM (.int .i64)) [10]) [.n (fT (lt (mi (ln1 (v 9)) (v 10)) (i6 1))) [.l (rQ "qqN" cW [v 9,v 10,.str []])],
 .n (fF (lt (mi (ln1 (v 9)) (v 10)) (i6 1))) [.n (fT (ne (a6 (v 9) (v 10) (pl (v 10) (i6 1))) (.str [39]))) [.l (rQ "qqN" cW [v 9,v 10,.str []])],
 .n (fF (ne (a6 (v 9) (v 10) (pl (v 10) (i6 1))) (.str [39]))) [.n (fT (lt (pl (v 10) (i6 1)) (ln1 (v 9)))) [.n (fT (ne (ix (v 9) (pl (v 10) (i6 1))) (u8 39))) [.n (fT (eq (ix (v 9) (pl (v 10) (i6 1))) (u8 92))) [.n (fT (gq (pl (pl (v 10) (i6 1)) (i6 1)) (ln1 (v 9)))) [.l (rQ "in" Abs.ee [pl (pl (pl (v 10) (i6 1)) (i6 1)) (i6 1),pl (ln1 (v 9)) (i6 2)]),
 .l (rQ "tr" Abs.dk [lq (v 10) (pl (pl (pl (v 10) (i6 1)) (i6 1)) (i6 1))]),
 .l (rQ "rquL" (kL 5000) [v 9,v 10,pl (pl (pl (v 10) (i6 1)) (i6 1)) (i6 1),sn (.a1 (.nl [(.int .u8)]) (.bool true)) (u8 0),i6 1]),
 .n (fI (v 16) (pl (ln1 (v 9)) (i6 1))) [.n (rP "qq" kE [9,10,16,15]) [.l (rM "qq" kE [9,10,16,15])]],
 .n (rP "qqN" cW [9,10,15]) [.l (rM "qqN" cW [9,10,15])]],
 .n (fF (gq (pl (pl (v 10) (i6 1)) (i6 1)) (ln1 (v 9)))) [.n (fT (eq (ix (v 9) (pl (pl (v 10) (i6 1)) (i6 1))) (u8 120))) [.n (fT (lq (pl (pl (pl (pl (v 10) (i6 1)) (i6 1)) (i6 1)) (i6 2)) (ln1 (v 9)))) [.n (rR "hex" zy [ix (v 9) (pl (pl (pl (v 10) (i6 1)) (i6 1)) (i6 1)),v 12]) [.n (rR "hex" zy [ix (v 9) (pl (pl (pl (pl (v 10) (i6 1)) (i6 1)) (i6 1)) (i6 1)),v 13]) [.l (rQ "in" Abs.ee [pl (pl (pl (pl (v 10) (i6 1)) (i6 1)) (i6 1)) (i6 2),pl (ln1 (v 9)) (i6 2)]),
 .l (rQ "tr" Abs.dk [lq (v 10) (pl (pl (pl (pl (v 10) (i6 1)) (i6 1)) (i6 1)) (i6 2))]),
 .l (rQ "rquL" (kL 5000) [v 9,v 10,pl (pl (pl (pl (v 10) (i6 1)) (i6 1)) (i6 1)) (i6 2),sn (.a1 (.nl [(.int .u8)]) (.bool true)) (.a1 (.conv .u8) (pl (mu (i6 16) (v 12)) (v 13))),i6 1]),
 .n (fI (v 18) (pl (ln1 (v 9)) (i6 1))) [.n (rP "qq" kE [9,10,18,17]) [.l (rM "qq" kE [9,10,18,17])]],
 .n (rP "qqN" cW [9,10,17]) [.l (rM "qqN" cW [9,10,17])]]]],
 .n (fF (lq (pl (pl (pl (pl (v 10) (i6 1)) (i6 1)) (i6 1)) (i6 2)) (ln1 (v 9)))) [.l (rQ "in" Abs.ee [pl (pl (pl (v 10) (i6 1)) (i6 1)) (i6 1),pl (ln1 (v 9)) (i6 2)]),
 .l (rQ "tr" Abs.dk [lq (v 10) (pl (pl (pl (v 10) (i6 1)) (i6 1)) (i6 1))]),
 .l (rQ "rquL" (kL 5000) [v 9,v 10,pl (pl (pl (v 10) (i6 1)) (i6 1)) (i6 1),sn (.a1 (.nl [(.int .u8)]) (.bool true)) (ix (v 9) (pl (pl (v 10) (i6 1)) (i6 1))),i6 1]),
 .n (fI (v 16) (pl (ln1 (v 9)) (i6 1))) [.n (rP "qq" kE [9,10,16,15]) [.l (rM "qq" kE [9,10,16,15])]],
 .n (rP "qqN" cW [9,10,15]) [.l (rM "qqN" cW [9,10,15])]]],
 .n (fF (eq (ix (v 9) (pl (pl (v 10) (i6 1)) (i6 1))) (u8 120))) [.l (rQ "in" Abs.ee [pl (pl (pl (v 10) (i6 1)) (i6 1)) (i6 1),pl (ln1 (v 9)) (i6 2)]),
 .l (rQ "tr" Abs.dk [lq (v 10) (pl (pl (pl (v 10) (i6 1)) (i6 1)) (i6 1))]),
 .l (rQ "rquL" (kL 5000) [v 9,v 10,pl (pl (pl (v 10) (i6 1)) (i6 1)) (i6 1),sn (.a1 (.nl [(.int .u8)]) (.bool true)) (ix (v 9) (pl (pl (v 10) (i6 1)) (i6 1))),i6 1]),
 .n (fI (v 16) (pl (ln1 (v 9)) (i6 1))) [.n (rP "qq" kE [9,10,16,15]) [.l (rM "qq" kE [9,10,16,15])]],
 .n (rP "qqN" cW [9,10,15]) [.l (rM "qqN" cW [9,10,15])]]]],
 .n (fF (eq (ix (v 9) (pl (v 10) (i6 1))) (u8 92))) [.l (rQ "in" Abs.ee [pl (pl (v 10) (i6 1)) (i6 1),pl (ln1 (v 9)) (i6 2)]),
 .l (rQ "tr" Abs.dk [lq (v 10) (pl (pl (v 10) (i6 1)) (i6 1))]),
 .l (rQ "rquL" (kL 5000) [v 9,v 10,pl (pl (v 10) (i6 1)) (i6 1),sn (.a1 (.nl [(.int .u8)]) (.bool true)) (ix (v 9) (pl (v 10) (i6 1))),i6 1]),
 .n (fI (v 16) (pl (ln1 (v 9)) (i6 1))) [.n (rP "qq" kE [9,10,16,15]) [.l (rM "qq" kE [9,10,16,15])]],
 .n (rP "qqN" cW [9,10,15]) [.l (rM "qqN" cW [9,10,15])]]],
 .n (fF (ne (ix (v 9) (pl (v 10) (i6 1))) (u8 39))) [.n (fT (lt (mi (ln1 (v 9)) (pl (v 10) (i6 1))) (i6 1))) [.l (rQ "qqN" cW [v 9,v 10,.str []])],
 .n (fF (lt (mi (ln1 (v 9)) (pl (v 10) (i6 1))) (i6 1))) [.n (fT (ne (a6 (v 9) (pl (v 10) (i6 1)) (pl (pl (v 10) (i6 1)) (i6 1))) (.str [39]))) [.l (rQ "qqN" cW [v 9,v 10,.str []])],
 .n (fF (ne (a6 (v 9) (pl (v 10) (i6 1)) (pl (pl (v 10) (i6 1)) (i6 1))) (.str [39]))) [.n (fT (ne (.str [39,39]) (a6 (v 9) (v 10) (pl (pl (v 10) (i6 1)) (i6 1))))) [.l (rQ "qqN" cW [v 9,v 10,.str []])],
 .n (fF (ne (.str [39,39]) (a6 (v 9) (v 10) (pl (pl (v 10) (i6 1)) (i6 1))))) [.l (rQ "qq" kE [v 9,v 10,pl (pl (v 10) (i6 1)) (i6 1),.str []]),
 .l (rQ "in" Abs.ee [pl (pl (v 10) (i6 1)) (i6 1),pl (ln1 (v 9)) (i6 1)])]]]]],
 .n (fF (lt (pl (v 10) (i6 1)) (ln1 (v 9)))) [.n (fT (lt (mi (ln1 (v 9)) (pl (v 10) (i6 1))) (i6 1))) [.l (rQ "qqN" cW [v 9,v 10,.str []])],
 .n (fF (lt (mi (ln1 (v 9)) (pl (v 10) (i6 1))) (i6 1))) [.n (fT (ne (a6 (v 9) (pl (v 10) (i6 1)) (pl (pl (v 10) (i6 1)) (i6 1))) (.str [39]))) [.l (rQ "qqN" cW [v 9,v 10,.str []])],
 .n (fF (ne (a6 (v 9) (pl (v 10) (i6 1)) (pl (pl (v 10) (i6 1)) (i6 1))) (.str [39]))) [.n (fT (ne (.str [39,39]) (a6 (v 9) (v 10) (pl (pl (v 10) (i6 1)) (i6 1))))) [.l (rQ "qqN" cW [v 9,v 10,.str []])],
 .n (fF (ne (.str [39,39]) (a6 (v 9) (v 10) (pl (pl (v 10) (i6 1)) (i6 1))))) [.l (rQ "qq" kE [v 9,v 10,pl (pl (v 10) (i6 1)) (i6 1),.str []]),
 .l (rQ "in" Abs.ee [pl (pl (v 10) (i6 1)) (i6 1),pl (ln1 (v 9)) (i6 1)])]]]]]]]]]]]] cQ (aM (I8 5000) (aM VU (aM Gs (aM (Gk 5000) cR)))) (λ_=>by kernel_rfl) (by
  repeat' (first|exact bB|apply bC|apply cI|refine cJ (aB ?_)|refine cH (aB ?_) ?_)
  all_goals intro E h
  all_goals first|omega|(exact h.2.1 (U7 (by omega) (by omega) (by omega)))|(have q:=yy (S:=gs E 9) (p:=gi E 10) (by omega) (by omega);obtain⟨A,I⟩:=h;exact A I.1)|(have q:=yy (S:=gs E 9) (p:=gi E 10) (by omega) (by omega);obtain⟨A,I⟩:=h;exact A (Tb q (by omega)))|(have q:=yy (S:=gs E 9) (p:=gi E 10) (by omega) (by omega);obtain⟨A,I⟩:=h;exact A ⟨by omega,Tc q (by omega) (by omega) (by omega) (by omega),by omega,by omega⟩)|(have q:=yy (S:=gs E 9) (p:=gi E 10) (by omega) (by omega);obtain⟨A,I⟩:=h;exact A ⟨⟨by omega,by omega⟩,by omega,Td q (by omega) (by omega) (by omega) (by omega),by omega,by omega⟩)|(have q:=yy (S:=gs E 9) (p:=gi E 10) (by omega) (by omega);obtain⟨A,I⟩:=h;exact A ⟨⟨by omega,by omega⟩,by omega,a0M q (by omega) (by omega) (by omega) (by omega),by omega,by omega⟩)|(have q:=yy (S:=gs E 9) (p:=gi E 10) (by omega) (by omega);obtain⟨A,I⟩:=h;exact A (a0L q (by omega) (by omega) (by omega) (.inr (.inr (by rw[An];exact I.1)))))|(have q:=yy (S:=gs E 9) (p:=gi E 10) (by omega) (by omega);obtain⟨A,I⟩:=h;exact A (a0J q (by omega) (by omega) (by omega) (by decide) rfl (by rw[An];exact I.1)))|(have q:=yy (S:=gs E 9) (p:=gi E 10) (by omega) (by omega);obtain⟨A,I⟩:=h;obtain⟨⟨-,a⟩,⟨-,Y⟩,I⟩:=I;exact A ⟨by omega,a0K q (by omega) (by omega) (by omega) (by omega) Y a,by omega,by omega⟩)
  )
set_option maxRecDepth 100000 in
set_option maxHeartbeats 4000000 in
theorem My:∀N,O (a6V N)
  |0=>hD
  |N+1=>bE [.n (rP "mk2L" (ef ah (N+1)) [10,11,12,13,14,15]) [.n (fT (lt (v 11) (ln1 (v 10)))) [.n (rP "ty" (Abs.bM (.int .i64)) [12]) [.n (rP "ty" (Abs.bM (.int .i64)) [13]) [.n (rP "ty" (Abs.bM .str) [14]) [.n (rP "ty" (Abs.bM (.sl ah)) [15]) [.n (rP "ty" (Abs.bM (.int .i64)) [11]) [.n (rP "ty" (Abs.bM (.sl ah)) [10]) [.n (fT (gq (v 11) (i6 0))) [.n (rR "frz" (Abs.eI ah 4) [v 17,s4 (s4 n4 (ld 0 (v 10) (v 11)) (ld 1 (v 10) (v 11)) (ld 2 (v 10) (v 11)) (ld 3 (v 10) (v 11))) (v 12) (v 13) (v 14) (v 15),i6 2]) [.l (rQ "tr" Abs.dk [lt (mi (v 11) (i6 1)) (ln1 (v 10))]),
 .l (rQ "mk2L" (ef ah N) [v 10,mi (v 11) (i6 1),i6 9,i6 0,.str [],v 17]),
 .n (rR "mk2" (hU ah) [v 10,mi (v 11) (i6 1),i6 9,i6 0,.str [],v 17,v 18,v 19,v 20,v 21]) [.l (rM "mk2" (hU ah) [10,11,12,13,14,15,18,19,20,21])]]],
 .n (fF (gq (v 11) (i6 0))) [.l (rM "mk2" (hU ah) [10,11,12,13,14,15,12,13,14,15])]]]]]]]]]] cQ (aM (My N) cR) (λ_=>by kernel_rfl) (by
  repeat' (first|exact bB|apply bC|apply cI|refine cJ (aB ?_)|refine cH (aB ?_) ?_)
  all_goals intro E h
  all_goals first|(obtain⟨A, -,I, -,W,D,h5,l,t,a,b,c⟩:=h;have q:=G7 a;exact A ⟨q.1,by omega⟩)|(obtain⟨A,d,I, -,W,D,h5,l,t,a,b,c⟩:=h;obtain⟨u,e,f⟩:=a0V a I c b d;exact A ⟨by omega,by omega,by omega,l,_,a,e,by omega⟩)|(obtain⟨A,⟨l,t1,g,i,j⟩,d,I, -,W,D,h5,k,t,a,b,c⟩:=h;obtain⟨u,e,f⟩:=a0V a I c b d;grind[->eA,->br])|(obtain⟨A,I, -,W,D,h5,l,t,a,b,c⟩:=h;exact A ⟨l,t,a,b,by rw[a0W (by omega) W];exact b⟩)
  )
set_option maxRecDepth 100000 in
set_option maxHeartbeats 4000000 in
theorem a2T:O a6T:=bE [.n (fI (v 13) (pl (ln1 (v 12)) (i6 1))) [.n (fT (lq (ln1 (v 12)) (i6 4200))) [.n (rP "ty" (Abs.bM .str) [12]) [.n (rP "ty" (Abs.bM (.int .i64)) [13]) [.n (rP "ty" (Abs.bM .str) [11]) [.n (rP "ty" (Abs.bM .str) [10]) [.n (rP "ty" (Abs.bM (.int .i64)) [9]) [.n (fI (v 15) (pl (ln1 (v 12)) (i6 1))) [.n (rP "is" gm [12,13,10,15]) [.l (rQ "rng" Du [i6 0,i6 1073741824]),
 .n (fI (v 17) (pl (ln1 (v 12)) (i6 1))) [.n (rR "num" dE [v 12,v 15,i6 0,i6 1073741824,v 17,v 16]) [.n (fI (v 18) (pl (ln1 (v 12)) (i6 1))) [.n (rP "is" gm [12,17,11,18]) [.l (rM "ngd" BJ [12,13,10,11,18,16])]],
 .n (rP "isN" cj [12,17,11]) [.l (rM "ngdN" nT [12,13,10,11,16])]]],
 .n (rR "numN" bu [v 12,v 15,i6 0,i6 1073741824]) [.l (rQ "ngdN" nT [v 12,v 13,v 10,v 11,i6 0])]]],
 .n (rP "isN" cj [12,13,10]) [.l (rQ "ngdN" nT [v 12,v 13,v 10,v 11,i6 0])]]]]]]]]] cQ (aM uP (aM F5 cR)) (λ_=>by kernel_rfl) (by
  repeat' (first|exact bB|apply bC|apply cI|refine cJ (aB ?_)|refine cH (aB ?_) ?_)
  all_goals intro E h
  all_goals grind (ematch:=4) (splits:=6) [a43,XO,XN,a0U,NT,NS,mN,mI,mA]
  )
set_option maxRecDepth 100000 in
set_option maxHeartbeats 4000000 in
theorem a2H:O a6O:=bE [.n (rP "rep" (vz ah) [8,9,10,11]) [.n (fT (eq (v 8) (i6 1))) [.n (fT (gq (v 9) (i6 (-576460752303423488)))) [.n (fT (lq (v 9) (i6 576460752303423487))) [.n (fT (eq (v 10) (.str []))) [.n (fT (eq (ln1 (v 11)) (i6 0))) [.l (rM "own" (ur ah) [8,9,10,11])],
 .n (fF (eq (ln1 (v 11)) (i6 0))) [.l (rM "ownN" (dy ah) [8,9,10,11])]],
 .n (fF (eq (v 10) (.str []))) [.l (rM "ownN" (dy ah) [8,9,10,11])]],
 .n (fF (lq (v 9) (i6 576460752303423487))) [.l (rM "ownN" (dy ah) [8,9,10,11])]],
 .n (fF (gq (v 9) (i6 (-576460752303423488)))) [.l (rM "ownN" (dy ah) [8,9,10,11])]],
 .n (fF (eq (v 8) (i6 1))) [.n (fT (eq (v 8) (i6 2))) [.n (fT (eq (v 9) (i6 0))) [.n (fT (lq (ln1 (v 10)) (i6 64))) [.n (fT (eq (ln1 (v 11)) (i6 0))) [.l (rM "own" (ur ah) [8,9,10,11])],
 .n (fF (eq (ln1 (v 11)) (i6 0))) [.l (rM "ownN" (dy ah) [8,9,10,11])]],
 .n (fF (lq (ln1 (v 10)) (i6 64))) [.l (rM "ownN" (dy ah) [8,9,10,11])]],
 .n (fF (eq (v 9) (i6 0))) [.l (rM "ownN" (dy ah) [8,9,10,11])]],
 .n (fF (eq (v 8) (i6 2))) [.n (fT (eq (v 8) (i6 3))) [.n (fT (gq (v 9) (i6 0))) [.n (fT (lq (v 9) (i6 1073741824))) [.n (fT (eq (v 10) (.str []))) [.n (fT (eq (ln1 (v 11)) (i6 0))) [.l (rM "own" (ur ah) [8,9,10,11])],
 .n (fF (eq (ln1 (v 11)) (i6 0))) [.l (rM "ownN" (dy ah) [8,9,10,11])]],
 .n (fF (eq (v 10) (.str []))) [.l (rM "ownN" (dy ah) [8,9,10,11])]],
 .n (fF (lq (v 9) (i6 1073741824))) [.l (rM "ownN" (dy ah) [8,9,10,11])]],
 .n (fF (gq (v 9) (i6 0))) [.l (rM "ownN" (dy ah) [8,9,10,11])]],
 .n (fF (eq (v 8) (i6 3))) [.n (fT (eq (v 8) (i6 4))) [.n (fT (gq (v 9) (i6 0))) [.n (fT (lq (v 9) (i6 1073741824))) [.n (fT (eq (v 10) (.str []))) [.n (fT (eq (ln1 (v 11)) (i6 0))) [.l (rM "own" (ur ah) [8,9,10,11])],
 .n (fF (eq (ln1 (v 11)) (i6 0))) [.l (rM "ownN" (dy ah) [8,9,10,11])]],
 .n (fF (eq (v 10) (.str []))) [.l (rM "ownN" (dy ah) [8,9,10,11])]],
 .n (fF (lq (v 9) (i6 1073741824))) [.l (rM "ownN" (dy ah) [8,9,10,11])]],
 .n (fF (gq (v 9) (i6 0))) [.l (rM "ownN" (dy ah) [8,9,10,11])]],
 .n (fF (eq (v 8) (i6 4))) [.n (fT (eq (v 8) (i6 6))) [.n (fT (gq (v 9) (i6 0))) [.n (fT (lq (v 9) (i6 1073741824))) [.n (fT (eq (v 10) (.str []))) [.n (fT (eq (ln1 (v 11)) (i6 0))) [.l (rM "own" (ur ah) [8,9,10,11])],
 .n (fF (eq (ln1 (v 11)) (i6 0))) [.l (rM "ownN" (dy ah) [8,9,10,11])]],
 .n (fF (eq (v 10) (.str []))) [.l (rM "ownN" (dy ah) [8,9,10,11])]],
 .n (fF (lq (v 9) (i6 1073741824))) [.l (rM "ownN" (dy ah) [8,9,10,11])]],
 .n (fF (gq (v 9) (i6 0))) [.l (rM "ownN" (dy ah) [8,9,10,11])]],
 .n (fF (eq (v 8) (i6 6))) [.n (fT (eq (v 8) (i6 5))) [.n (fT (gq (v 9) (i6 0))) [.n (fT (lq (v 9) (i6 1073741824))) [.n (fT (eq (v 10) (.str []))) [.n (fT (lq (ln1 (v 11)) (i6 64))) [.l (rM "own" (ur ah) [8,9,10,11])],
 .n (fF (lq (ln1 (v 11)) (i6 64))) [.l (rM "ownN" (dy ah) [8,9,10,11])]],
 .n (fF (eq (v 10) (.str []))) [.l (rM "ownN" (dy ah) [8,9,10,11])]],
 .n (fF (lq (v 9) (i6 1073741824))) [.l (rM "ownN" (dy ah) [8,9,10,11])]],
 .n (fF (gq (v 9) (i6 0))) [.l (rM "ownN" (dy ah) [8,9,10,11])]],
 .n (fF (eq (v 8) (i6 5))) [.n (fT (eq (v 8) (i6 7))) [.n (fT (eq (v 9) (i6 0))) [.n (fT (eq (v 10) (.str []))) [.n (fT (lq (ln1 (v 11)) (i6 64))) [.l (rM "own" (ur ah) [8,9,10,11])],
 .n (fF (lq (ln1 (v 11)) (i6 64))) [.l (rM "ownN" (dy ah) [8,9,10,11])]],
 .n (fF (eq (v 10) (.str []))) [.l (rM "ownN" (dy ah) [8,9,10,11])]],
 .n (fF (eq (v 9) (i6 0))) [.l (rM "ownN" (dy ah) [8,9,10,11])]],
 .n (fF (eq (v 8) (i6 7))) [.n (fT (eq (v 8) (i6 8))) [.n (fT (eq (v 9) (i6 0))) [.n (fT (eq (v 10) (.str []))) [.n (fT (eq (ln1 (v 11)) (i6 0))) [.l (rM "own" (ur ah) [8,9,10,11])],
 .n (fF (eq (ln1 (v 11)) (i6 0))) [.l (rM "ownN" (dy ah) [8,9,10,11])]],
 .n (fF (eq (v 10) (.str []))) [.l (rM "ownN" (dy ah) [8,9,10,11])]],
 .n (fF (eq (v 9) (i6 0))) [.l (rM "ownN" (dy ah) [8,9,10,11])]],
 .n (fF (eq (v 8) (i6 8))) [.n (fT (eq (v 8) (i6 9))) [.n (fT (eq (v 9) (i6 0))) [.n (fT (eq (v 10) (.str []))) [.n (fT (eq (ln1 (v 11)) (i6 2))) [.l (rM "own" (ur ah) [8,9,10,11])],
 .n (fF (eq (ln1 (v 11)) (i6 2))) [.l (rM "ownN" (dy ah) [8,9,10,11])]],
 .n (fF (eq (v 10) (.str []))) [.l (rM "ownN" (dy ah) [8,9,10,11])]],
 .n (fF (eq (v 9) (i6 0))) [.l (rM "ownN" (dy ah) [8,9,10,11])]],
 .n (fF (eq (v 8) (i6 9))) [.l (rM "ownN" (dy ah) [8,9,10,11])]]]]]]]]]]] cQ cR (λ_=>by kernel_rfl) (by
  repeat' (first|exact bB|apply bC|apply cI|refine cJ (aB ?_)|refine cH (aB ?_) ?_)
  all_goals intro E h
  all_goals first|(simp only[<-ft]at h;obtain⟨h,w⟩:=h;obtain⟨t,a,d,c,e,b⟩:=ow w;simp only[ft]at h;obtain⟨A,I⟩:=h;exact A ⟨t,a,b.2 (by omega)⟩)|(simp only[<-ft]at h;obtain⟨h,w⟩:=h;obtain⟨t,a,d,c,e,b⟩:=ow w;simp only[ft]at h;obtain⟨A,I⟩:=h;simp only[wf1,mI,mA,mN]at c;refine A ⟨t,a,λf=>?_⟩;have:=b.1 f;first|omega|grind)
  )
set_option maxRecDepth 100000 in
set_option maxHeartbeats 4000000 in
theorem Pv:∀N,O (a4o N)
  |0=>hD
  |N+1=>bE [.n (rP "itmL" (pW ah (N+1)) [10,11,12,13,14,16]) [.n (rP "ty" (Abs.bM (.int .i64)) [10]) [.n (rP "ty" (Abs.bM (.int .i64)) [11]) [.n (rP "ty" (Abs.bM .str) [12]) [.n (rP "ty" (Abs.bM (.sl ah)) [13]) [.n (fT (eq (v 10) (i6 9))) [.l (rR "out" Abs.jg [i6 0,ln1 (v 13)]),
 .l (rP "grow" (Abs.eL 4 56 1) [16,14]),
 .n (fI (v 14) (pl (v 14) (i6 1))) [.l (rR "out" Abs.jg [i6 1,ln1 (v 13)]),
 .l (rQ "itmL" (pW ah N) [ld 0 (v 13) (i6 1),ld 1 (v 13) (i6 1),ld 2 (v 13) (i6 1),ld 3 (v 13) (i6 1),pl (v 14) (i6 1),s4 (tk 4 (v 16) (v 14)) (ld 0 (v 13) (i6 0)) (ld 1 (v 13) (i6 0)) (ld 2 (v 13) (i6 0)) (ld 3 (v 13) (i6 0))]),
 .n (rR "itmo" (nU ah) [ld 0 (v 13) (i6 1),ld 1 (v 13) (i6 1),ld 2 (v 13) (i6 1),ld 3 (v 13) (i6 1),pl (v 14) (i6 1),s4 (tk 4 (v 16) (v 14)) (ld 0 (v 13) (i6 0)) (ld 1 (v 13) (i6 0)) (ld 2 (v 13) (i6 0)) (ld 3 (v 13) (i6 0)),v 20]) [.l (rM "itmo" (nU ah) [10,11,12,13,14,16,20])],
 .n (rR "itmoN" (jd ah) [ld 0 (v 13) (i6 1),ld 1 (v 13) (i6 1),ld 2 (v 13) (i6 1),ld 3 (v 13) (i6 1),pl (v 14) (i6 1),s4 (tk 4 (v 16) (v 14)) (ld 0 (v 13) (i6 0)) (ld 1 (v 13) (i6 0)) (ld 2 (v 13) (i6 0)) (ld 3 (v 13) (i6 0))]) [.l (rM "itmoN" (jd ah) [10,11,12,13,14,16])]]],
 .n (fF (eq (v 10) (i6 9))) [.n (fT (eq (v 10) (i6 8))) [.l (rP "short" (Abs.dq 4) [16,14]),
 .n (rP "frz" (Abs.eI ah 4) [17,16,14]) [.l (rM "itmo" (nU ah) [10,11,12,13,14,16,17])]],
 .n (fF (eq (v 10) (i6 8))) [.l (rP "short" (Abs.dq 4) [16,14]),
 .l (rP "short" (Abs.dq 4) [16,14]),
 .n (rP "frz" (Abs.eI ah 4) [17,16,14]) [.l (rM "itmoN" (jd ah) [10,11,12,13,14,16])]]]]]]]]] cQ (aM (Pv N) cR) (λ_=>by kernel_rfl) (by
  repeat' (first|exact bB|apply bC|apply cI|refine cJ (aB ?_)|refine cH (aB ?_) ?_)
  all_goals intro E h
  all_goals first|(obtain⟨A,h6,i0,i1,t,l,c,f,d,j,k⟩:=h;exact ie d (by omega) A)|(obtain⟨A, -,h6,i0,i1,t,l,c,f,d,j,k⟩:=h;obtain⟨a,b,u,e,g0,g1,g2,g3,m,o,g,w,i⟩:=Zr d h6 c f;subst e;rw[Oo]at j k;have:=size_pos (t:=a);refine A ⟨g0,g1,g2,g3,by rw[o];exact rfl,by omega,by omega,b,_,m,i,by rw[o];exact g,by omega,by omega⟩)|(obtain⟨A,⟨-, -, -, -, -,J,G,p,s,y⟩, -,h6,i0,i1,t,l,c,f,d,j,k⟩:=h;obtain⟨a,b,u,e,g0,g1,g2,g3,m,o,g,w,i⟩:=Zr d h6 c f;subst e;rw[o]at s;have z:=br m p;have H:=cZ g s;subst z;subst H;exact A ⟨l,a::G,c,d,by simpa using y⟩)|(obtain⟨A,⟨-, -, -, -, -,t1,p,B⟩, -,h6,i0,i1,t,l,c,f,d,j,k⟩:=h;obtain⟨a,b,u,e,g0,g1,g2,g3,m,o,g,w,i⟩:=Zr d h6 c f;subst e;have z:=br m p;subst z;refine A ⟨_,c,λl r=>?_⟩;cases l with|nil=>cases r|cons x l=>exact B l (by injection r with _ _ _ r;injection r with _ r;injection r))|(obtain⟨⟨A,I⟩,h6,i0,i1,t,l,c,f,d,j,k⟩:=h;obtain⟨a,b,u,e,g0,g1,g2,g3,m,o,g,w,i⟩:=Zr d h6 c f;subst e;have q:ln _=((2:Nat):Int):=(wS c).2;omega)|(obtain⟨⟨A,I⟩, -,h6,i0,i1,t,l,c,f,d,j,k⟩:=h;obtain⟨a,b,u,e,g0,g1,g2,g3,m,o,g,w,i⟩:=Zr d h6 c f;subst e;have q:ln _=((2:Nat):Int):=(wS c).2;omega)|(obtain⟨A,D,F,i0,i1,t,l,c,f,d,j,k⟩:=h;exact eO d A)|(obtain⟨A,C,D,F,i0,i1,t,l,c,f,d,j,k⟩:=h;have e:=it8 (by omega) c f;subst e;exact A ⟨l,[],c,d,by simpa using iB C d⟩)|(obtain⟨A, -,D,F,i0,i1,t,l,c,f,d,j,k⟩:=h;exact A ⟨t,c,Py (by omega) (by omega) c⟩)
  )
set_option maxRecDepth 100000 in
set_option maxHeartbeats 4000000 in
theorem a3a:O a6X:=bE [.n (rP "rep" (vz ah) [8,9,10,11]) [.n (fT (eq (v 8) (i6 9))) [.l (rR "out" Abs.jg [i6 0,ln1 (v 11)]),
 .l (rR "out" Abs.jg [i6 1,ln1 (v 11)]),
 .l (rQ "itmL" (pW ah 20000) [ld 0 (v 11) (i6 1),ld 1 (v 11) (i6 1),ld 2 (v 11) (i6 1),ld 3 (v 11) (i6 1),i6 1,s4 n4 (ld 0 (v 11) (i6 0)) (ld 1 (v 11) (i6 0)) (ld 2 (v 11) (i6 0)) (ld 3 (v 11) (i6 0))]),
 .n (rR "itmo" (nU ah) [ld 0 (v 11) (i6 1),ld 1 (v 11) (i6 1),ld 2 (v 11) (i6 1),ld 3 (v 11) (i6 1),i6 1,s4 n4 (ld 0 (v 11) (i6 0)) (ld 1 (v 11) (i6 0)) (ld 2 (v 11) (i6 0)) (ld 3 (v 11) (i6 0)),v 16]) [.l (rM "itm" (zx ah) [8,9,10,11,16])],
 .n (rR "itmoN" (jd ah) [ld 0 (v 11) (i6 1),ld 1 (v 11) (i6 1),ld 2 (v 11) (i6 1),ld 3 (v 11) (i6 1),i6 1,s4 n4 (ld 0 (v 11) (i6 0)) (ld 1 (v 11) (i6 0)) (ld 2 (v 11) (i6 0)) (ld 3 (v 11) (i6 0))]) [.l (rM "itmN" (nV ah) [8,9,10,11])]],
 .n (fF (eq (v 8) (i6 9))) [.n (fT (eq (v 8) (i6 8))) [.l (rQ "itm" (zx ah) [v 8,v 9,v 10,v 11,ns])],
 .n (fF (eq (v 8) (i6 8))) [.l (rM "itmN" (nV ah) [8,9,10,11])]]]] cQ (aM (Pv 20000) cR) (λ_=>by kernel_rfl) (by
  repeat' (first|exact bB|apply bC|apply cI|refine cJ (aB ?_)|refine cH (aB ?_) ?_)
  all_goals intro E h
  all_goals first|(obtain⟨A,h6,t,c,d,m⟩:=h;obtain⟨a,b,r,e,g0,g1,g2,g3,i,j,o,s,f⟩:=it9 h6 c d;subst e;have C:=gv (Tm.mk 9 0 [] [a,b]);rw[Oo]at C;refine A ⟨g0,g1,g2,g3,by rw[j];exact rfl,by decide,by decide,b,[a],i,f,by rw[j];exact o,by omega,by omega⟩)|(obtain⟨A,⟨-, -, -, -, -,l,D,g,p,u⟩,h6,t,c,d,m⟩:=h;obtain⟨a,b,r,e,g0,g1,g2,g3,i,j,o,s,f⟩:=it9 h6 c d;subst e;rw[j]at p;have w:=br i g;have F:=cZ o p;subst w;subst F;exact A ⟨a::D,c,u⟩)|(obtain⟨A,⟨-, -, -, -, -,t1,g,y⟩,h6,t,c,d,m⟩:=h;obtain⟨a,b,r,e,g0,g1,g2,g3,i,j,o,s,f⟩:=it9 h6 c d;subst e;have w:=br i g;subst w;refine A ⟨_,c,λl k=>?_⟩;cases l with|nil=>cases k|cons x l=>exact y l (by injection k with _ _ _ k;injection k with _ k;injection k))|(obtain⟨⟨A,I⟩,h6,t,c,d,m⟩:=h;obtain⟨a,b,r,e,g0,g1,g2,g3,i,j,o,s,f⟩:=it9 h6 c d;subst e;have q:ln _=((2:Nat):Int):=(wS c).2;omega)|(obtain⟨A,z,B,t,c,d,m⟩:=h;exact A ⟨t,c,Py z B c⟩)|(obtain⟨A,z,B,t,c,d,m⟩:=h;have e:=it8 z c d;subst e;exact A ⟨[],c,iQ⟩)
  )
set_option maxRecDepth 100000 in
set_option maxHeartbeats 4000000 in
theorem Qi:∀N,O (a4r N)
  |0=>hD
  |N+1=>bE [.n (rP "cutL" (sT (N+1)) [8,9]) [.n (fI (v 9) (pl (ln1 (v 8)) (i6 1))) [.n (fT (lq (ln1 (v 8)) (i6 4200))) [.n (rP "ty" (Abs.bM (.int .i64)) [9]) [.n (rP "ty" (Abs.bM .str) [8]) [.n (fT (lt (v 9) (ln1 (v 8)))) [.n (fT (eq (ix (v 8) (v 9)) (u8 32))) [.l (rQ "cutR" qI [v 8,a6 (v 8) (i6 0) (v 9),a6 (v 8) (pl (v 9) (i6 1)) (ln1 (v 8))])],
 .n (fF (eq (ix (v 8) (v 9)) (u8 32))) [.l (rQ "in" Abs.ee [pl (v 9) (i6 1),pl (ln1 (v 8)) (i6 1)]),
 .l (rQ "cutL" (sT N) [v 8,pl (v 9) (i6 1)]),
 .n (rP "cutR" qI [8,10,11]) [.l (rM "cutR" qI [8,10,11])],
 .n (rP "cutRN" lL [8]) [.l (rM "cutRN" lL [8])]]],
 .n (fF (lt (v 9) (ln1 (v 8)))) [.l (rM "cutRN" lL [8])]]]]]]] cQ (aM (Qi N) cR) (λ_=>by kernel_rfl) (by
  repeat' (first|exact bB|apply bC|apply cI|refine cJ (aB ?_)|refine cH (aB ?_) ?_)
  all_goals intro E h
  all_goals first|omega|grind (ematch:=4) (splits:=6) [a19,a18,a2a]
  )
set_option maxRecDepth 100000 in
set_option maxHeartbeats 4000000 in
theorem Pd:∀N,O (a4l N)
  |0=>hD
  |N+1=>bE [.n (rP "noRL" (vB (N+1)) [8,9,10]) [.n (fI (v 10) (pl (ln1 (v 8)) (i6 1))) [.n (fT (lq (ln1 (v 8)) (i6 4200))) [.n (rP "ty" (Abs.bM (.int .i64)) [10]) [.n (rP "ty" (Abs.bM (.int .i64)) [9]) [.n (rP "ty" (Abs.bM .str) [8]) [.n (fT (lt (v 10) (ln1 (v 8)))) [.n (fT (lt (ix (v 8) (v 10)) (u8 48))) [.l (rM "noRN" eY [8])],
 .n (fF (lt (ix (v 8) (v 10)) (u8 48))) [.n (fT (gt (ix (v 8) (v 10)) (u8 57))) [.l (rM "noRN" eY [8])],
 .n (fF (gt (ix (v 8) (v 10)) (u8 57))) [.l (rQ "in" Abs.ee [pl (v 10) (i6 1),pl (ln1 (v 8)) (i6 1)]),
 .l (rQ "noRL" (vB N) [v 8,pl (mu (i6 10) (v 9)) (.a1 (.conv .i64) (mi (ix (v 8) (v 10)) (u8 48))),pl (v 10) (i6 1)]),
 .n (rP "noR" mx [8,11]) [.l (rM "noR" mx [8,11])],
 .n (rP "noRN" eY [8]) [.l (rM "noRN" eY [8])]]]],
 .n (fF (lt (v 10) (ln1 (v 8)))) [.n (fT (lq (v 9) (i6 1073741824))) [.l (rM "noR" mx [8,9])],
 .n (fF (lq (v 9) (i6 1073741824))) [.l (rM "noRN" eY [8])]]]]]]]]] cQ (aM (Pd N) cR) (λ_=>by kernel_rfl) (by
  repeat' (first|exact bB|apply bC|apply cI|refine cJ (aB ?_)|refine cH (aB ?_) ?_)
  all_goals intro E h
  all_goals first|omega|grind (ematch:=4) (splits:=6) [a42,mN]|(obtain⟨A,I,W, -, -, -, -, -,D,h5, -⟩:=h;exact A (a13 D (by omega) h5 (by rw[mN];omega)))|(obtain⟨A,I,W,D,h5,h6,h7,i,j,e,f,g,k,m⟩:=h;obtain⟨a,b,c,d⟩:=a7K i e h6.1 D (by omega) (by omega) f g;exact A ⟨by omega,h7,i,j,a,b,c,d,by omega⟩)|(obtain⟨A,I,W,D,h5,h7,i,j,e,f,g⟩:=h;exact A (a4Z h7 e j (by omega) f (by rw[mN];omega)))
  )
set_option maxRecDepth 100000 in
set_option maxHeartbeats 4000000 in
theorem a2Q:O a6Q:=bE [.n (fT (lq (ln1 (v 8)) (i6 4200))) [.n (rP "ty" (Abs.bM .str) [8]) [.n (fT (eq (v 8) (.str []))) [.l (rM "noRN" eY [8])],
 .n (fF (eq (v 8) (.str []))) [.n (fT (gt (ln1 (v 8)) (i6 10))) [.l (rM "noRN" eY [8])],
 .n (fF (gt (ln1 (v 8)) (i6 10))) [.n (fT (gt (ln1 (v 8)) (i6 1))) [.l (rR "out" Abs.jg [i6 0,ln1 (v 8)]),
 .n (fT (eq (ix (v 8) (i6 0)) (u8 48))) [.l (rM "noRN" eY [8])],
 .n (fF (eq (ix (v 8) (i6 0)) (u8 48))) [.l (rQ "in" Abs.ee [i6 0,pl (ln1 (v 8)) (i6 1)]),
 .l (rQ "noRL" (vB 5000) [v 8,i6 0,i6 0]),
 .n (rP "noR" mx [8,9]) [.l (rM "noR" mx [8,9])],
 .n (rP "noRN" eY [8]) [.l (rM "noRN" eY [8])]]],
 .n (fF (gt (ln1 (v 8)) (i6 1))) [.l (rQ "in" Abs.ee [i6 0,pl (ln1 (v 8)) (i6 1)]),
 .l (rQ "noRL" (vB 5000) [v 8,i6 0,i6 0]),
 .n (rP "noR" mx [8,9]) [.l (rM "noR" mx [8,9])],
 .n (rP "noRN" eY [8]) [.l (rM "noRN" eY [8])]]]]]]] cQ (aM (Pd 5000) cR) (λ_=>by kernel_rfl) (by
  repeat' (first|exact bB|apply bC|apply cI|refine cJ (aB ?_)|refine cH (aB ?_) ?_)
  all_goals intro E h
  all_goals first|omega|grind (ematch:=4) (splits:=6) [a16,a15,a14,a8t,Mw]
  )
end Go.Proofs.YtokipodjggomfaaGreatDoor
