/- A part of the proof of ScriptParses: K3. Conditions: those of each theorem. -/
import Derived.Test.YtokipodjggomfaaGreatDoorScrK2
set_option linter.unusedVariables false
set_option linter.unusedSimpArgs false
set_option linter.unusedSimpArgs false
set_option linter.unusedVariables false
namespace Go.Proofs.YtokipodjggomfaaGreatDoor
open Go Go.Proofs.YtokipodjggomfaaGreatDoor.Txt
set_option maxRecDepth 100000 in
set_option maxHeartbeats 4000000 in
theorem a4D(N:Nat)(a:O (xz N))(A:O (H7 N)):O (a1H N):=bE [.n (rP "ms" (ms N) [9,10]) [.n (fI (v 10) (pl (ln1 (v 9)) (i6 1))) [.n (fT (lq (ln1 (v 9)) (i6 4200))) [.n (rP "ty" (Abs.bM .str) [9]) [.n (rP "ty" (Abs.bM (.int .i64)) [10]) [.n (fI (v 11) (pl (ln1 (v 9)) (i6 1))) [.n (rR "is" gm [v 9,v 10,.str [125],v 11]) [.l (rQ "all" (Jt ah (gA true (PT true) (PR true) [125])) [v 9,v 10,v 11,ns])]],
 .n (rR "isN" cj [v 9,v 10,.str [125]]) [.l (rM "ms" (ms N) [9,10]),
 .n (fI (v 15) (pl (ln1 (v 9)) (i6 1))) [.n (rP "trm" (ir ah (PT true)) [9,10,15,11,12,13,14]) [.l (rQ "seqL" (nH ah N) [v 9,v 15,i6 1,s4 n4 (v 11) (v 12) (v 13) (v 14)]),
 .n (fI (v 18) (pl (ln1 (v 9)) (i6 1))) [.n (rR "allo" (wi ah (λl=>bU true l [125])) [v 9,v 15,i6 1,s4 n4 (v 11) (v 12) (v 13) (v 14),v 18,v 17]) [.l (rM "all" (Jt ah (gA true (PT true) (PR true) [125])) [9,10,18,17])]],
 .n (rR "alloN" (lM ah (λl=>bU true l [125])) [v 9,v 15,i6 1,s4 n4 (v 11) (v 12) (v 13) (v 14)]) [.l (rM "allN" (yJ (gA true (PT true) (PR true) [125])) [9,10])]]],
 .n (rP "trmN" (hE (PT true)) [9,10]) [.l (rM "allN" (yJ (gA true (PT true) (PR true) [125])) [9,10])]]]]]]]] cQ (aM rf (aM a (aM A cR))) (λ_=>by kernel_rfl) (by
  repeat' (first|exact bB|apply bC|apply cI|refine cJ (aB ?_)|refine cH (aB ?_) ?_)
  all_goals intro E h
  all_goals first|omega|grind (ematch:=4) (splits:=6) [wG,x3,GG,lD,ic,qc,sP,ie,eO,jF,->iB,->cZ,->eA,->hi,->br,fM,iQ,->bA,->dD]
  )
set_option maxRecDepth 100000 in
set_option maxHeartbeats 4000000 in
theorem a2W(N:Nat)(a:O (xz N))(A:O (H4 N)):O (a1F N):=bE [.n (rP "ms" (ms N) [9,10]) [.n (fI (v 10) (pl (ln1 (v 9)) (i6 1))) [.n (fT (lq (ln1 (v 9)) (i6 4200))) [.n (rP "ty" (Abs.bM .str) [9]) [.n (rP "ty" (Abs.bM (.int .i64)) [10]) [.n (fI (v 13) (pl (ln1 (v 9)) (i6 1))) [.n (rR "is" gm [v 9,v 10,.str [93],v 13]) [.l (rQ "lst" (ir ah (e7 (PT true) (PR true))) [v 9,v 10,v 13,i6 8,i6 0,.str [],ns])]],
 .n (rR "isN" cj [v 9,v 10,.str [93]]) [.l (rM "ms" (ms N) [9,10]),
 .n (fI (v 17) (pl (ln1 (v 9)) (i6 1))) [.n (rP "trm" (ir ah (PT true)) [9,10,17,13,14,15,16]) [.l (rQ "seqL" (nH ah N) [v 9,v 17,i6 1,s4 n4 (v 13) (v 14) (v 15) (v 16)]),
 .n (fI (v 23) (pl (ln1 (v 9)) (i6 1))) [.n (rR "lsto" (sN ah (bo true)) [v 9,v 17,i6 1,s4 n4 (v 13) (v 14) (v 15) (v 16),v 23,v 19,v 20,v 21,v 22]) [.l (rM "lst" (ir ah (e7 (PT true) (PR true))) [9,10,23,19,20,21,22])]],
 .n (rR "lstoN" (mJ ah (bo true)) [v 9,v 17,i6 1,s4 n4 (v 13) (v 14) (v 15) (v 16)]) [.l (rM "lstN" (hE (e7 (PT true) (PR true))) [9,10])]]],
 .n (rP "trmN" (hE (PT true)) [9,10]) [.l (rM "lstN" (hE (e7 (PT true) (PR true))) [9,10])]]]]]]]] cQ (aM rf (aM a (aM A (aM Vs cR)))) (λ_=>by kernel_rfl) (by
  repeat' (first|exact bB|apply bC|apply cI|refine cJ (aB ?_)|refine cH (aB ?_) ?_)
  all_goals intro E h
  all_goals first|omega|grind (ematch:=4) (splits:=6) [Es,BW,JH,um,pd,lD,ic,qc,sP,ie,eO,jF,->iB,->cZ,->eA,->hi,->br,fM,iQ,->bA,->dD]
  )
set_option maxRecDepth 100000 in
set_option maxHeartbeats 4000000 in
theorem a3p(N:Nat)(a:O (xz N))(A:O (H5 N)):O (a1G N):=bE [.n (rP "ms" (ms N) [9,10]) [.n (fI (v 10) (pl (ln1 (v 9)) (i6 1))) [.n (fT (lq (ln1 (v 9)) (i6 4200))) [.n (rP "ty" (Abs.bM .str) [9]) [.n (rP "ty" (Abs.bM (.int .i64)) [10]) [.n (fI (v 13) (pl (ln1 (v 9)) (i6 1))) [.n (rR "num" dE [v 9,v 10,i6 0,i6 1073741824,v 13,v 12]) [.n (fI (v 15) (pl (ln1 (v 9)) (i6 1))) [.n (rR "is" gm [v 9,v 13,.str [44],v 15]) [.l (rM "ms" (ms N) [9,15]),
 .n (fI (v 20) (pl (ln1 (v 9)) (i6 1))) [.n (rP "trm" (ir ah (PT true)) [9,15,20,16,17,18,19]) [.l (rQ "seqL" (nH ah N) [v 9,v 20,i6 1,s4 n4 (v 16) (v 17) (v 18) (v 19)]),
 .n (fI (v 28) (pl (ln1 (v 9)) (i6 1))) [.n (rR "funo" (wg ah) [v 9,v 20,v 12,i6 1,s4 n4 (v 16) (v 17) (v 18) (v 19),v 28,v 24,v 25,v 26,v 27]) [.l (rM "fun" (ir ah (gT true (PR true))) [9,10,28,24,25,26,27])]],
 .n (rR "funoN" (lK ah) [v 9,v 20,v 12,i6 1,s4 n4 (v 16) (v 17) (v 18) (v 19)]) [.l (rM "funN" (hE (gT true (PR true))) [9,10])]]],
 .n (rP "trmN" (hE (PT true)) [9,15]) [.l (rM "funN" (hE (gT true (PR true))) [9,10])]]],
 .n (rR "isN" cj [v 9,v 13,.str [44]]) [.n (fI (v 15) (pl (ln1 (v 9)) (i6 1))) [.n (rR "is" gm [v 9,v 13,.str [62],v 15]) [.l (rQ "fun" (ir ah (gT true (PR true))) [v 9,v 10,v 15,i6 5,v 12,.str [],ns])]],
 .n (rR "isN" cj [v 9,v 13,.str [62]]) [.l (rM "funN" (hE (gT true (PR true))) [9,10])]]]],
 .n (rR "numN" bu [v 9,v 10,i6 0,i6 1073741824]) [.l (rM "funN" (hE (gT true (PR true))) [9,10])]]]]]]] cQ (aM ya (aM rf (aM a (aM A cR)))) (λ_=>by kernel_rfl) (by
  repeat' (first|exact bB|apply bC|apply cI|refine cJ (aB ?_)|refine cH (aB ?_) ?_)
  all_goals intro E h
  all_goals first|grind (ematch:=4) (splits:=6) [->BZ,->JI,NV,A3,Ff,Fg,->qT,mN,lD,ic,qc,sP,ie,eO,jF,->iB,->cZ,->eA,->hi,->br,fM,iQ,->bA,->dD]|(refine h.1 ⟨_,um,?_⟩;grind (ematch:=4) (splits:=6) [->BZ,->JI,NV,A3,Ff,Fg,->qT,mN,lD,ic,qc,sP,ie,eO,jF,->iB,->cZ,->eA,->hi,->br,fM,iQ,->bA,->dD])
  )
set_option maxRecDepth 100000 in
set_option maxHeartbeats 4000000 in
theorem a0z(N:Nat)(a:O (xz N))(A:O (H7 N)):O (H7 (N+1)):=bE [.n (rP "seqL" (nH ah (N+1)) [10,11,12,14]) [.n (fI (v 11) (pl (ln1 (v 10)) (i6 1))) [.n (fT (lq (ln1 (v 10)) (i6 4200))) [.n (rP "ty" (Abs.bM .str) [10]) [.n (rP "ty" (Abs.bM (.int .i64)) [11]) [.n (fI (v 15) (pl (ln1 (v 10)) (i6 1))) [.n (rR "is" gm [v 10,v 11,.str [44],v 15]) [.l (rM "ms" (ms N) [10,15]),
 .n (fI (v 20) (pl (ln1 (v 10)) (i6 1))) [.n (rP "trm" (ir ah (PT true)) [10,15,20,16,17,18,19]) [.l (rP "grow" (Abs.eL 4 56 1) [14,12]),
 .n (fI (v 12) (pl (v 12) (i6 1))) [.l (rQ "seqL" (nH ah N) [v 10,v 20,pl (v 12) (i6 1),s4 (tk 4 (v 14) (v 12)) (v 16) (v 17) (v 18) (v 19)]),
 .n (fI (v 25) (pl (ln1 (v 10)) (i6 1))) [.n (rR "allo" (wi ah (λl=>bU true l [125])) [v 10,v 20,pl (v 12) (i6 1),s4 (tk 4 (v 14) (v 12)) (v 16) (v 17) (v 18) (v 19),v 25,v 24]) [.l (rM "allo" (wi ah (λl=>bU true l [125])) [10,11,12,14,25,24])]],
 .n (rR "alloN" (lM ah (λl=>bU true l [125])) [v 10,v 20,pl (v 12) (i6 1),s4 (tk 4 (v 14) (v 12)) (v 16) (v 17) (v 18) (v 19)]) [.l (rM "alloN" (lM ah (λl=>bU true l [125])) [10,11,12,14])]]]],
 .n (rP "trmN" (hE (PT true)) [10,15]) [.l (rM "alloN" (lM ah (λl=>bU true l [125])) [10,11,12,14])]]],
 .n (rR "isN" cj [v 10,v 11,.str [44]]) [.n (fI (v 15) (pl (ln1 (v 10)) (i6 1))) [.n (rR "is" gm [v 10,v 11,.str [125],v 15]) [.n (fT (gt (v 12) (i6 64))) [.l (rM "alloN" (lM ah (λl=>bU true l [125])) [10,11,12,14])],
 .n (fF (gt (v 12) (i6 64))) [.l (rP "short" (Abs.dq 4) [14,12]),
 .n (rP "frz" (Abs.eI ah 4) [16,14,12]) [.l (rM "allo" (wi ah (λl=>bU true l [125])) [10,11,12,14,15,16])]]]],
 .n (rR "isN" cj [v 10,v 11,.str [125]]) [.l (rM "alloN" (lM ah (λl=>bU true l [125])) [10,11,12,14])]]]]]]]] cQ (aM rf (aM a (aM A cR))) (λ_=>by kernel_rfl) (by
  repeat' (first|exact bB|apply bC|apply cI|refine cJ (aB ?_)|refine cH (aB ?_) ?_)
  all_goals intro E h
  all_goals first|omega|grind (ematch:=4) (splits:=6) [a06,TP,a2c,TN,XR,lD,ic,qc,sP,ie,eO,jF,->iB,->cZ,->eA,->hi,->br,fM,iQ,->bA,->dD]
  )
set_option maxRecDepth 100000 in
set_option maxHeartbeats 4000000 in
theorem Zf(N:Nat)(a:O (xz N))(A:O (H4 N)):O (H4 (N+1)):=bE [.n (rP "seqL" (nH ah (N+1)) [12,13,14,16]) [.n (fI (v 13) (pl (ln1 (v 12)) (i6 1))) [.n (fT (lq (ln1 (v 12)) (i6 4200))) [.n (rP "ty" (Abs.bM .str) [12]) [.n (rP "ty" (Abs.bM (.int .i64)) [13]) [.n (fI (v 17) (pl (ln1 (v 12)) (i6 1))) [.n (rR "is" gm [v 12,v 13,.str [44],v 17]) [.l (rM "ms" (ms N) [12,17]),
 .n (fI (v 22) (pl (ln1 (v 12)) (i6 1))) [.n (rP "trm" (ir ah (PT true)) [12,17,22,18,19,20,21]) [.l (rP "grow" (Abs.eL 4 56 1) [16,14]),
 .n (fI (v 14) (pl (v 14) (i6 1))) [.l (rQ "seqL" (nH ah N) [v 12,v 22,pl (v 14) (i6 1),s4 (tk 4 (v 16) (v 14)) (v 18) (v 19) (v 20) (v 21)]),
 .n (fI (v 30) (pl (ln1 (v 12)) (i6 1))) [.n (rR "lsto" (sN ah (bo true)) [v 12,v 22,pl (v 14) (i6 1),s4 (tk 4 (v 16) (v 14)) (v 18) (v 19) (v 20) (v 21),v 30,v 26,v 27,v 28,v 29]) [.l (rM "lsto" (sN ah (bo true)) [12,13,14,16,30,26,27,28,29])]],
 .n (rR "lstoN" (mJ ah (bo true)) [v 12,v 22,pl (v 14) (i6 1),s4 (tk 4 (v 16) (v 14)) (v 18) (v 19) (v 20) (v 21)]) [.l (rM "lstoN" (mJ ah (bo true)) [12,13,14,16])]]]],
 .n (rP "trmN" (hE (PT true)) [12,17]) [.l (rM "lstoN" (mJ ah (bo true)) [12,13,14,16])]]],
 .n (rR "isN" cj [v 12,v 13,.str [44]]) [.n (fI (v 18) (pl (ln1 (v 12)) (i6 1))) [.n (rR "is" gm [v 12,v 13,.str [124],v 18]) [.l (rM "ms" (ms N) [12,18]),
 .n (fI (v 23) (pl (ln1 (v 12)) (i6 1))) [.n (rP "trm" (ir ah (PT true)) [12,18,23,19,20,21,22]) [.n (fT (eq (v 19) (i6 9))) [.l (rM "lstoN" (mJ ah (bo true)) [12,13,14,16])],
 .n (fF (eq (v 19) (i6 9))) [.n (fT (eq (v 19) (i6 8))) [.l (rM "lstoN" (mJ ah (bo true)) [12,13,14,16])],
 .n (fF (eq (v 19) (i6 8))) [.n (fI (v 24) (pl (ln1 (v 12)) (i6 1))) [.n (rR "is" gm [v 12,v 23,.str [93],v 24]) [.l (rM "mklM" (Lr ah) [14,16,19,20,21,22]),
 .n (rP "mkl" (L3 ah) [14,16,19,20,21,22,25,26,27,28]) [.l (rM "lsto" (sN ah (bo true)) [12,13,14,16,24,25,26,27,28])]]],
 .n (rR "isN" cj [v 12,v 23,.str [93]]) [.l (rM "lstoN" (mJ ah (bo true)) [12,13,14,16])]]]]],
 .n (rP "trmN" (hE (PT true)) [12,18]) [.l (rM "lstoN" (mJ ah (bo true)) [12,13,14,16])]]],
 .n (rR "isN" cj [v 12,v 13,.str [124]]) [.n (fI (v 18) (pl (ln1 (v 12)) (i6 1))) [.n (rR "is" gm [v 12,v 13,.str [93],v 18]) [.l (rQ "mklL" (vC ah 20000) [v 14,v 16,mi (v 14) (i6 1),i6 8,i6 0,.str [],ns]),
 .n (rR "mklo" (s5 ah) [v 16,mi (v 14) (i6 1),i6 8,i6 0,.str [],ns,v 24,v 25,v 26,v 27]) [.l (rM "lsto" (sN ah (bo true)) [12,13,14,16,18,24,25,26,27])]]],
 .n (rR "isN" cj [v 12,v 13,.str [93]]) [.l (rM "lstoN" (mJ ah (bo true)) [12,13,14,16])]]]]]]]]] cQ (aM rf (aM a (aM A (aM Vs (aM (G3 20000) cR))))) (λ_=>by kernel_rfl) (by
  repeat' (first|exact bB|apply bC|apply cI|refine cJ (aB ?_)|refine cH (aB ?_) ?_)
  all_goals intro E h
  all_goals first|omega|grind (ematch:=4) (splits:=6) [a0X,Tu,Tt,Fe,vb,Fc,Tv,Lp,pd,um,Tm.k,lD,ic,qc,sP,ie,eO,jF,->iB,->cZ,->eA,->hi,->br,fM,iQ,->bA,->dD,T5]
  )
set_option maxRecDepth 100000 in
set_option maxHeartbeats 4000000 in
theorem ZG(N:Nat)(b:O (xz N))(A:O (H5 N)):O (H5 (N+1)):=bE [.n (rP "seqL" (nH ah (N+1)) [12,13,14,16]) [.n (fI (v 13) (pl (ln1 (v 12)) (i6 1))) [.n (fT (lq (ln1 (v 12)) (i6 4200))) [.n (rP "ty" (Abs.bM (.int .i64)) [17]) [.n (rP "ty" (Abs.bM .str) [12]) [.n (rP "ty" (Abs.bM (.int .i64)) [13]) [.n (fI (v 18) (pl (ln1 (v 12)) (i6 1))) [.n (rR "is" gm [v 12,v 13,.str [44],v 18]) [.l (rM "ms" (ms N) [12,18]),
 .n (fI (v 23) (pl (ln1 (v 12)) (i6 1))) [.n (rP "trm" (ir ah (PT true)) [12,18,23,19,20,21,22]) [.l (rP "grow" (Abs.eL 4 56 1) [16,14]),
 .n (fI (v 14) (pl (v 14) (i6 1))) [.l (rQ "seqL" (nH ah N) [v 12,v 23,pl (v 14) (i6 1),s4 (tk 4 (v 16) (v 14)) (v 19) (v 20) (v 21) (v 22)]),
 .n (fI (v 31) (pl (ln1 (v 12)) (i6 1))) [.n (rR "funo" (wg ah) [v 12,v 23,v 17,pl (v 14) (i6 1),s4 (tk 4 (v 16) (v 14)) (v 19) (v 20) (v 21) (v 22),v 31,v 27,v 28,v 29,v 30]) [.l (rM "funo" (wg ah) [12,13,17,14,16,31,27,28,29,30])]],
 .n (rR "funoN" (lK ah) [v 12,v 23,v 17,pl (v 14) (i6 1),s4 (tk 4 (v 16) (v 14)) (v 19) (v 20) (v 21) (v 22)]) [.l (rM "funoN" (lK ah) [12,13,17,14,16])]]]],
 .n (rP "trmN" (hE (PT true)) [12,18]) [.l (rM "funoN" (lK ah) [12,13,17,14,16])]]],
 .n (rR "isN" cj [v 12,v 13,.str [44]]) [.n (fI (v 18) (pl (ln1 (v 12)) (i6 1))) [.n (rR "is" gm [v 12,v 13,.str [62],v 18]) [.n (fT (gt (v 14) (i6 64))) [.l (rM "funoN" (lK ah) [12,13,17,14,16])],
 .n (fF (gt (v 14) (i6 64))) [.l (rP "short" (Abs.dq 4) [16,14]),
 .n (rP "frz" (Abs.eI ah 4) [19,16,14]) [.l (rQ "funo" (wg ah) [v 12,v 13,v 17,v 14,v 16,v 18,i6 5,v 17,.str [],v 19])]]]],
 .n (rR "isN" cj [v 12,v 13,.str [62]]) [.l (rM "funoN" (lK ah) [12,13,17,14,16])]]]]]]]]] cQ (aM rf (aM b (aM A cR))) (λ_=>by kernel_rfl) (by
  repeat' (first|exact bB|apply bC|apply cI|refine cJ (aB ?_)|refine cH (aB ?_) ?_)
  all_goals intro E h
  all_goals first|omega|grind (ematch:=4) (splits:=6) [NV,A3,Ff,Fg,XQ,ni,lD,ic,qc,sP,ie,eO,jF,->iB,->cZ,->eA,->hi,->br,fM,iQ,->bA,->dD]|(obtain⟨A,c,W,D, -,h5, -, -, -, -, -,l,a⟩:=h;exact A ⟨l,_,a,ni (iB c a),Ff h5 D (by have:=dD a;omega)⟩)
  )
set_option maxRecDepth 100000 in
set_option maxHeartbeats 4000000 in
theorem a2k(N:Nat)(a:O (a1H N))(A:O (a1F N))(I:O (a1G N)):O (xz (N+1)):=bE [.n (rP "ms" (ms (N+1)) [9,10]) [.n (fI (v 10) (pl (ln1 (v 9)) (i6 1))) [.n (fT (lq (ln1 (v 9)) (i6 4200))) [.n (rP "ty" (Abs.bM .str) [9]) [.n (rP "ty" (Abs.bM (.int .i64)) [10]) [.n (fI (v 12) (pl (ln1 (v 9)) (i6 1))) [.n (rR "is" gm [v 9,v 10,.str [123],v 12]) [.l (rM "ms" (ms N) [9,12]),
 .n (fI (v 14) (pl (ln1 (v 9)) (i6 1))) [.n (rP "all" (Jt ah (gA true (PT true) (PR true) [125])) [9,12,14,13]) [.l (rQ "trm" (ir ah (PT true)) [v 9,v 10,v 14,i6 7,i6 0,.str [],v 13])]],
 .n (rP "allN" (yJ (gA true (PT true) (PR true) [125])) [9,12]) [.l (rM "trmN" (hE (PT true)) [9,10])]]],
 .n (rR "isN" cj [v 9,v 10,.str [123]]) [.n (fI (v 12) (pl (ln1 (v 9)) (i6 1))) [.n (rR "is" gm [v 9,v 10,.str [91],v 12]) [.l (rM "ms" (ms N) [9,12]),
 .n (fI (v 17) (pl (ln1 (v 9)) (i6 1))) [.n (rP "lst" (ir ah (e7 (PT true) (PR true))) [9,12,17,13,14,15,16]) [.l (rM "trm" (ir ah (PT true)) [9,10,17,13,14,15,16])]],
 .n (rP "lstN" (hE (e7 (PT true) (PR true))) [9,12]) [.l (rM "trmN" (hE (PT true)) [9,10])]]],
 .n (rR "isN" cj [v 9,v 10,.str [91]]) [.n (fI (v 12) (pl (ln1 (v 9)) (i6 1))) [.n (rR "is" gm [v 9,v 10,.str [39],v 12]) [.l (rQ "in" Abs.ee [mi (v 12) (i6 1),pl (ln1 (v 9)) (i6 1)]),
 .l (rQ "tr" Abs.dk [lq (mi (v 12) (i6 1)) (v 12)]),
 .n (fI (v 14) (pl (ln1 (v 9)) (i6 1))) [.n (rR "qq" kE [v 9,mi (v 12) (i6 1),v 14,v 13]) [.l (rQ "trm" (ir ah (PT true)) [v 9,v 10,v 14,i6 2,i6 0,v 13,ns])]],
 .n (rR "qqN" gl [v 9,mi (v 12) (i6 1)]) [.l (rM "trmN" (hE (PT true)) [9,10])]]],
 .n (rR "isN" cj [v 9,v 10,.str [39]]) [.n (fI (v 12) (pl (ln1 (v 9)) (i6 1))) [.n (rR "is" gm [v 9,v 10,.str [35,82,101,102,60],v 12]) [.n (fI (v 14) (pl (ln1 (v 9)) (i6 1))) [.n (rR "nmb" Gq [v 9,v 12,.str [62],v 14,v 13]) [.l (rQ "trm" (ir ah (PT true)) [v 9,v 10,v 14,i6 3,v 13,.str [],ns])]],
 .n (rR "nmbN" s3 [v 9,v 12,.str [62]]) [.l (rM "trmN" (hE (PT true)) [9,10])]]],
 .n (rR "isN" cj [v 9,v 10,.str [35,82,101,102,60]]) [.n (fI (v 12) (pl (ln1 (v 9)) (i6 1))) [.n (rR "is" gm [v 9,v 10,.str [35,84,105,100,60],v 12]) [.n (fI (v 14) (pl (ln1 (v 9)) (i6 1))) [.n (rR "nmb" Gq [v 9,v 12,.str [62],v 14,v 13]) [.l (rQ "trm" (ir ah (PT true)) [v 9,v 10,v 14,i6 4,v 13,.str [],ns])]],
 .n (rR "nmbN" s3 [v 9,v 12,.str [62]]) [.l (rM "trmN" (hE (PT true)) [9,10])]]],
 .n (rR "isN" cj [v 9,v 10,.str [35,84,105,100,60]]) [.n (fI (v 12) (pl (ln1 (v 9)) (i6 1))) [.n (rR "is" gm [v 9,v 10,.str [60,48,46],v 12]) [.n (fI (v 14) (pl (ln1 (v 9)) (i6 1))) [.n (rR "nmb" Gq [v 9,v 12,.str [46,48,62],v 14,v 13]) [.l (rQ "trm" (ir ah (PT true)) [v 9,v 10,v 14,i6 6,v 13,.str [],ns])]],
 .n (rR "nmbN" s3 [v 9,v 12,.str [46,48,62]]) [.l (rM "trmN" (hE (PT true)) [9,10])]]],
 .n (rR "isN" cj [v 9,v 10,.str [60,48,46]]) [.n (fI (v 12) (pl (ln1 (v 9)) (i6 1))) [.n (rR "is" gm [v 9,v 10,.str [35,70,117,110,60],v 12]) [.l (rM "ms" (ms N) [9,12]),
 .n (fI (v 17) (pl (ln1 (v 9)) (i6 1))) [.n (rP "fun" (ir ah (gT true (PR true))) [9,12,17,13,14,15,16]) [.l (rM "trm" (ir ah (PT true)) [9,10,17,13,14,15,16])]],
 .n (rP "funN" (hE (gT true (PR true))) [9,12]) [.l (rM "trmN" (hE (PT true)) [9,10])]]],
 .n (rR "isN" cj [v 9,v 10,.str [35,70,117,110,60]]) [.n (fT (lt (v 10) (ln1 (v 9)))) [.n (rR "sml" Gn [ix (v 9) (v 10)]) [.n (fI (v 13) (pl (ln1 (v 9)) (i6 1))) [.n (rP "cpl" oW [9,10,13,12]) [.l (rQ "trm" (ir ah (PT true)) [v 9,v 10,v 13,i6 2,i6 0,v 12,ns])]],
 .n (rP "cplN" pY [9,10]) [.l (rM "trmN" (hE (PT true)) [9,10])]],
 .n (rR "smlN" sZ [ix (v 9) (v 10)]) [.n (fI (v 13) (pl (ln1 (v 9)) (i6 1))) [.n (rR "num" dE [v 9,v 10,i6 (-576460752303423488),i6 576460752303423487,v 13,v 12]) [.l (rQ "trm" (ir ah (PT true)) [v 9,v 10,v 13,i6 1,v 12,.str [],ns])]],
 .n (rR "numN" bu [v 9,v 10,i6 (-576460752303423488),i6 576460752303423487]) [.l (rM "trmN" (hE (PT true)) [9,10])]]],
 .n (fF (lt (v 10) (ln1 (v 9)))) [.n (fI (v 13) (pl (ln1 (v 9)) (i6 1))) [.n (rR "num" dE [v 9,v 10,i6 (-576460752303423488),i6 576460752303423487,v 13,v 12]) [.l (rQ "trm" (ir ah (PT true)) [v 9,v 10,v 13,i6 1,v 12,.str [],ns])]],
 .n (rR "numN" bu [v 9,v 10,i6 (-576460752303423488),i6 576460752303423487]) [.l (rM "trmN" (hE (PT true)) [9,10])]]]]]]]]]]]]]]] cQ (aM rf (aM a (aM A (aM a3F (aM a2S (aM I (aM LM (aM a3G (aM ya cR))))))))) (λ_=>by kernel_rfl) (by
  repeat' (first|exact bB|apply bC|apply cI|refine cJ (aB ?_)|refine cH (aB ?_) ?_)
  all_goals intro E h
  all_goals first|omega|grind (ematch:=4) (splits:=6) [a1V,S5,XG,XF,a1U,S4,a1T,S3,a1S,S1,a1R,XE,Lh,I0,F0,Ec,MO,MN,MP,Co,zD,mN,mI,mA]|(refine h.1 ⟨_,um,?_⟩;grind (ematch:=4) (splits:=6) [a1V,S5,XG,XF,a1U,S4,a1T,S3,a1S,S1,a1R,XE,Lh,I0,F0,Ec,MO,MN,MP,Co,zD,mN,mI,mA])|(obtain⟨_,b,c⟩:=h.2.1;refine h.1 ⟨_,ni b,?_⟩;grind (ematch:=4) (splits:=6) [a1V,S5,XG,XF,a1U,S4,a1T,S3,a1S,S1,a1R,XE,Lh,I0,F0,Ec,MO,MN,MP,Co,zD,mN,mI,mA])
  )
theorem tP:∀N,O (xz N)/\O (H7 N)/\O (H4 N)/\O (H5 N)
 |0=>⟨hD,hD,hD,hD⟩
 |N+1=>by
  obtain⟨a,b,c,d⟩:=tP N;have e:=a4D N a b;have f:=a2W N a c;have g:=a3p N a d;exact⟨a2k N e f g,a0z N a b,Zf N a c,ZG N a d⟩
theorem a2l(N:Nat):O (xz N):=(tP N).1
end Go.Proofs.YtokipodjggomfaaGreatDoor
