/- A part of the proof of ScriptParses: K8. Conditions: those of each theorem. -/
import Derived.Test.YtokipodjggomfaaGreatDoorScrK7
set_option linter.unusedVariables false
set_option linter.unusedSimpArgs false
set_option linter.unusedSimpArgs false
set_option linter.unusedVariables false
namespace Go.Proofs.YtokipodjggomfaaGreatDoor
open Go Go.Proofs.YtokipodjggomfaaGreatDoor.Txt
set_option maxRecDepth 100000 in
set_option maxHeartbeats 4000000 in
theorem Yp(N:Nat)(a:O (W0 (N+1)))(A:O (QJ N))(I:O (WZ (N+1))):O (uY (N+1)):=bE [.n (rP "ms" (ms (N+1)) [9,10]) [.n (fI (v 10) (pl (ln1 (v 9)) (i6 1))) [.n (fT (lq (ln1 (v 9)) (i6 4200))) [.n (rP "ty" (Abs.bM .str) [9]) [.n (rP "ty" (Abs.bM (.int .i64)) [10]) [.n (fT (gq (v 10) (ln1 (v 9)))) [.n (rR "is" gm [v 9,v 10,.str [35,82,101,102,60],pl (v 10) (ln1 (.str [35,82,101,102,60]))]) [.n (fI (v 13) (pl (ln1 (v 9)) (i6 1))) [.n (rR "ngd" BJ [v 9,v 10,.str [35,82,101,102,60],.str [62],v 13,v 12]) [.l (rQ "rtm" (ir ah (PT false)) [v 9,v 10,v 13,i6 3,v 12,.str [],ns])]],
 .n (rR "ngdN" nT [v 9,v 10,.str [35,82,101,102,60],.str [62],v 12]) [.l (rQ "rtmN" (b8 ah (PT false)) [v 9,v 10,i6 3,v 12,.str [],ns])]],
 .n (rR "isN" cj [v 9,v 10,.str [35,82,101,102,60]]) [.n (rR "is" gm [v 9,v 10,.str [35,84,105,100,60],pl (v 10) (ln1 (.str [35,84,105,100,60]))]) [.n (fI (v 13) (pl (ln1 (v 9)) (i6 1))) [.n (rR "ngd" BJ [v 9,v 10,.str [35,84,105,100,60],.str [62],v 13,v 12]) [.l (rQ "rtm" (ir ah (PT false)) [v 9,v 10,v 13,i6 4,v 12,.str [],ns])]],
 .n (rR "ngdN" nT [v 9,v 10,.str [35,84,105,100,60],.str [62],v 12]) [.l (rQ "rtmN" (b8 ah (PT false)) [v 9,v 10,i6 4,v 12,.str [],ns])]],
 .n (rR "isN" cj [v 9,v 10,.str [35,84,105,100,60]]) [.n (rR "is" gm [v 9,v 10,.str [35,70,117,110,60],pl (v 10) (ln1 (.str [35,70,117,110,60]))]) [.l (rM "ms" (ms (N+1)) [9,10]),
 .n (fI (v 16) (pl (ln1 (v 9)) (i6 1))) [.n (rP "rfn" (ir ah va) [9,10,16,12,13,14,15]) [.l (rM "rtm" (ir ah (PT false)) [9,10,16,12,13,14,15])]],
 .n (rP "rfnN" (b8 ah va) [9,10,12,13,14,15]) [.l (rM "rtmN" (b8 ah (PT false)) [9,10,12,13,14,15])]],
 .n (rR "isN" cj [v 9,v 10,.str [35,70,117,110,60]]) [.l (rQ "rtmN" (b8 ah (PT false)) [v 9,v 10,i6 0,i6 0,.str [],ns])]]]],
 .n (fF (gq (v 10) (ln1 (v 9)))) [.n (fT (eq (ix (v 9) (v 10)) (u8 45))) [.l (rQ "rng" Du [i6 (-576460752303423488),i6 576460752303423487]),
 .n (fI (v 13) (pl (ln1 (v 9)) (i6 1))) [.n (rR "num" dE [v 9,v 10,i6 (-576460752303423488),i6 576460752303423487,v 13,v 12]) [.l (rQ "rtm" (ir ah (PT false)) [v 9,v 10,v 13,i6 1,v 12,.str [],ns])]],
 .n (rR "numN" bu [v 9,v 10,i6 (-576460752303423488),i6 576460752303423487]) [.l (rQ "rtmN" (b8 ah (PT false)) [v 9,v 10,i6 1,i6 0,.str [],ns])]],
 .n (fF (eq (ix (v 9) (v 10)) (u8 45))) [.n (rR "win" uq [ix (v 9) (v 10),u8 48,u8 57]) [.l (rQ "rng" Du [i6 (-576460752303423488),i6 576460752303423487]),
 .n (fI (v 13) (pl (ln1 (v 9)) (i6 1))) [.n (rR "num" dE [v 9,v 10,i6 (-576460752303423488),i6 576460752303423487,v 13,v 12]) [.l (rQ "rtm" (ir ah (PT false)) [v 9,v 10,v 13,i6 1,v 12,.str [],ns])]],
 .n (rR "numN" bu [v 9,v 10,i6 (-576460752303423488),i6 576460752303423487]) [.l (rQ "rtmN" (b8 ah (PT false)) [v 9,v 10,i6 1,i6 0,.str [],ns])]],
 .n (rR "winN" kM [ix (v 9) (v 10),u8 48,u8 57]) [.n (fT (eq (ix (v 9) (v 10)) (u8 39))) [.n (fI (v 13) (pl (ln1 (v 9)) (i6 1))) [.n (rP "qq" kE [9,10,13,12]) [.l (rQ "rtm" (ir ah (PT false)) [v 9,v 10,v 13,i6 2,i6 0,v 12,ns])]],
 .n (rP "qqN" cW [9,10,12]) [.l (rQ "rtmN" (b8 ah (PT false)) [v 9,v 10,i6 2,i6 0,v 12,ns])]],
 .n (fF (eq (ix (v 9) (v 10)) (u8 39))) [.n (rR "win" uq [ix (v 9) (v 10),u8 97,u8 122]) [.n (fI (v 13) (pl (ln1 (v 9)) (i6 1))) [.n (rP "cpl" oW [9,10,13,12]) [.l (rQ "rtm" (ir ah (PT false)) [v 9,v 10,v 13,i6 2,i6 0,v 12,ns])]],
 .n (rP "cplN" kF [9,10,12]) [.l (rQ "rtmN" (b8 ah (PT false)) [v 9,v 10,i6 2,i6 0,v 12,ns])]],
 .n (rR "winN" kM [ix (v 9) (v 10),u8 97,u8 122]) [.n (fT (eq (ix (v 9) (v 10)) (u8 60))) [.n (fI (v 13) (pl (ln1 (v 9)) (i6 1))) [.n (rR "ngd" BJ [v 9,v 10,.str [60,48,46],.str [46,48,62],v 13,v 12]) [.l (rQ "rtm" (ir ah (PT false)) [v 9,v 10,v 13,i6 6,v 12,.str [],ns])]],
 .n (rR "ngdN" nT [v 9,v 10,.str [60,48,46],.str [46,48,62],v 12]) [.l (rQ "rtmN" (b8 ah (PT false)) [v 9,v 10,i6 6,v 12,.str [],ns])]],
 .n (fF (eq (ix (v 9) (v 10)) (u8 60))) [.n (rR "is" gm [v 9,v 10,.str [35,82,101,102,60],pl (v 10) (ln1 (.str [35,82,101,102,60]))]) [.n (fI (v 13) (pl (ln1 (v 9)) (i6 1))) [.n (rR "ngd" BJ [v 9,v 10,.str [35,82,101,102,60],.str [62],v 13,v 12]) [.l (rQ "rtm" (ir ah (PT false)) [v 9,v 10,v 13,i6 3,v 12,.str [],ns])]],
 .n (rR "ngdN" nT [v 9,v 10,.str [35,82,101,102,60],.str [62],v 12]) [.l (rQ "rtmN" (b8 ah (PT false)) [v 9,v 10,i6 3,v 12,.str [],ns])]],
 .n (rR "isN" cj [v 9,v 10,.str [35,82,101,102,60]]) [.n (rR "is" gm [v 9,v 10,.str [35,84,105,100,60],pl (v 10) (ln1 (.str [35,84,105,100,60]))]) [.n (fI (v 13) (pl (ln1 (v 9)) (i6 1))) [.n (rR "ngd" BJ [v 9,v 10,.str [35,84,105,100,60],.str [62],v 13,v 12]) [.l (rQ "rtm" (ir ah (PT false)) [v 9,v 10,v 13,i6 4,v 12,.str [],ns])]],
 .n (rR "ngdN" nT [v 9,v 10,.str [35,84,105,100,60],.str [62],v 12]) [.l (rQ "rtmN" (b8 ah (PT false)) [v 9,v 10,i6 4,v 12,.str [],ns])]],
 .n (rR "isN" cj [v 9,v 10,.str [35,84,105,100,60]]) [.n (rR "is" gm [v 9,v 10,.str [35,70,117,110,60],pl (v 10) (ln1 (.str [35,70,117,110,60]))]) [.l (rM "ms" (ms (N+1)) [9,10]),
 .n (fI (v 16) (pl (ln1 (v 9)) (i6 1))) [.n (rP "rfn" (ir ah va) [9,10,16,12,13,14,15]) [.l (rM "rtm" (ir ah (PT false)) [9,10,16,12,13,14,15])]],
 .n (rP "rfnN" (b8 ah va) [9,10,12,13,14,15]) [.l (rM "rtmN" (b8 ah (PT false)) [9,10,12,13,14,15])]],
 .n (rR "isN" cj [v 9,v 10,.str [35,70,117,110,60]]) [.n (fT (eq (ix (v 9) (v 10)) (u8 123))) [.n (fI (v 12) (pl (ln1 (v 9)) (i6 1))) [.n (rR "is" gm [v 9,v 10,.str [123],v 12]) [.l (rQ "msE" (msE N) [v 9,v 12,.str [125]]),
 .n (fI (v 14) (pl (ln1 (v 9)) (i6 1))) [.n (rR "amg" (DB ah) [v 9,v 12,.str [125],v 14,v 13]) [.l (rQ "rtm" (ir ah (PT false)) [v 9,v 10,v 14,i6 7,i6 0,.str [],v 13])]],
 .n (rR "amgN" qJ [v 9,v 12,.str [125]]) [.l (rQ "rtmN" (b8 ah (PT false)) [v 9,v 10,i6 7,i6 0,.str [],ns])]]],
 .n (rR "isN" cj [v 9,v 10,.str [123]]) [.l (rQ "rtmN" (b8 ah (PT false)) [v 9,v 10,i6 7,i6 0,.str [],ns])]],
 .n (fF (eq (ix (v 9) (v 10)) (u8 123))) [.n (fT (eq (ix (v 9) (v 10)) (u8 91))) [.l (rM "ms" (ms (N+1)) [9,10]),
 .n (fI (v 16) (pl (ln1 (v 9)) (i6 1))) [.n (rP "rls" (ir ah uj) [9,10,16,12,13,14,15]) [.l (rM "rtm" (ir ah (PT false)) [9,10,16,12,13,14,15])]],
 .n (rP "rlsN" (b8 ah uj) [9,10,12,13,14,15]) [.l (rM "rtmN" (b8 ah (PT false)) [9,10,12,13,14,15])]],
 .n (fF (eq (ix (v 9) (v 10)) (u8 91))) [.l (rQ "rtmN" (b8 ah (PT false)) [v 9,v 10,i6 0,i6 0,.str [],ns])]]]]]]]]]]]]]]]]] cQ (aM A9 (aM F5 (aM Yr (aM Yy (aM a2T (aM ud (aM a (aM uP (aM A (aM I cR)))))))))) (λ_=>by kernel_rfl) (by
  repeat' (first|exact bB|apply bC|apply cI|refine cJ (aB ?_)|refine cH (aB ?_) ?_)
  all_goals intro E h
  all_goals first|omega|grind (ematch:=4) (splits:=6) [OH,OD,OE,OG,OC,OB,OJ,OA,OI,Jr,OK,pQ,b123,b91,MO,MN,MP,Co,zD,mN,mI,mA]|(refine h.1 ⟨_,um,?_⟩;grind (ematch:=4) (splits:=6) [OH,OD,OE,OG,OC,OB,OJ,OA,OI,Jr,OK,pQ,b123,b91,MO,MN,MP,Co,zD,mN,mI,mA])|(refine h.1 ⟨?_,_,um⟩;grind (ematch:=4) (splits:=6) [OH,OD,OE,OG,OC,OB,OJ,OA,OI,Jr,OK,pQ,b123,b91,MO,MN,MP,Co,zD,mN,mI,mA])|(obtain⟨_,b,c⟩:=h.2.1;refine h.1 ⟨_,ni b,?_⟩;grind (ematch:=4) (splits:=6) [OH,OD,OE,OG,OC,OB,OJ,OA,OI,Jr,OK,pQ,b123,b91,MO,MN,MP,Co,zD,mN,mI,mA])
  )
theorem tR:∀N,O (uY N)/\O (H6 N)/\O (AP N)/\O (QJ N)
 |0=>⟨hD,hD,hD,hD⟩
 |N+1=>by
  obtain⟨a,b,c,d⟩:=tR N;have e:=YB N d;have f:=YA N a c;have g:=Yp N e d f;exact⟨g,a0y N g b,UA N g c,a4B N g b⟩
theorem Yq(N:Nat):O (uY N):=(tR N).1
end Go.Proofs.YtokipodjggomfaaGreatDoor
