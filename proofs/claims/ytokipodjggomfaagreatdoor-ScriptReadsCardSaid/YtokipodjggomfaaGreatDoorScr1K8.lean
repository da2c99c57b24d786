/- A part of the proof of ScriptReads: 1K8. Conditions: those of each theorem. -/
import Derived.Test.YtokipodjggomfaaGreatDoorScr1K7
set_option linter.unusedVariables false
set_option linter.unusedSimpArgs false
namespace Go.Proofs.YtokipodjggomfaaGreatDoor
open Go.Proofs.YtokipodjggomfaaGreatDoor.Txt
set_option maxRecDepth 100000
set_option maxHeartbeats 4000000
theorem a2E(N:Nat)(a:O (a1s (N+1)))(I:O (Vc N))(Y:O (a1r (N+1))):O (Ai (N+1)):=b6 [aC (ms (N+1)) [9,10] [bW af (pl cj aw) [aU (lq cj aE) [aC iE [9] [aC fE [10] [aU (gq af cj) [aP iy [aH,af,.str [35,82,101,102,60],pl af (ln1 (.str [35,82,101,102,60]))] [bW aq (pl cj aw) [aP vR [aH,af,.str [35,82,101,102,60],.str [62],aq,ar] [az (jq ag (PT false)) [aH,af,aq,i_3,ar,.str [],ns]]],
 aP lu [aH,af,.str [35,82,101,102,60],.str [62],ar] [az (cK ag (PT false)) [aH,af,i_3,ar,.str [],ns]]],
 aP cY [aH,af,.str [35,82,101,102,60]] [aP iy [aH,af,.str [35,84,105,100,60],pl af (ln1 (.str [35,84,105,100,60]))] [bW aq (pl cj aw) [aP vR [aH,af,.str [35,84,105,100,60],.str [62],aq,ar] [az (jq ag (PT false)) [aH,af,aq,i_4,ar,.str [],ns]]],
 aP lu [aH,af,.str [35,84,105,100,60],.str [62],ar] [az (cK ag (PT false)) [aH,af,i_4,ar,.str [],ns]]],
 aP cY [aH,af,.str [35,84,105,100,60]] [aP iy [aH,af,.str [35,70,117,110,60],pl af (ln1 (.str [35,70,117,110,60]))] [ay (ms (N+1)) [9,10],
 bW aB (pl cj aw) [aC (jq ag Aq) [9,10,16,12,13,14,15] [ay (jq ag (PT false)) [9,10,16,12,13,14,15]]],
 aC (cK ag Aq) [9,10,12,13,14,15] [ay (cK ag (PT false)) [9,10,12,13,14,15]]],
 aP cY [aH,af,.str [35,70,117,110,60]] [az (cK ag (PT false)) [aH,af,aG,aG,.str [],ns]]]]],
 a8 (gq af cj) [aU (eq (ix aH af) El) [az xQ [i6 (-576460752303423488),bV],
 bW aq (pl cj aw) [aP eu [aH,af,i6 (-576460752303423488),bV,aq,ar] [az (jq ag (PT false)) [aH,af,aq,aw,ar,.str [],ns]]],
 aP bU [aH,af,i6 (-576460752303423488),bV] [az (cK ag (PT false)) [aH,af,aw,aG,.str [],ns]]],
 a8 (eq (ix aH af) El) [aP rL [ix aH af,oP,AU] [az xQ [i6 (-576460752303423488),bV],
 bW aq (pl cj aw) [aP eu [aH,af,i6 (-576460752303423488),bV,aq,ar] [az (jq ag (PT false)) [aH,af,aq,aw,ar,.str [],ns]]],
 aP bU [aH,af,i6 (-576460752303423488),bV] [az (cK ag (PT false)) [aH,af,aw,aG,.str [],ns]]],
 aP jB [ix aH af,oP,AU] [aU (eq (ix aH af) sT) [bW aq (pl cj aw) [aC lV [9,10,13,12] [az (jq ag (PT false)) [aH,af,aq,fZ,aG,ar,ns]]],
 aC dp [9,10,12] [az (cK ag (PT false)) [aH,af,fZ,aG,ar,ns]]],
 a8 (eq (ix aH af) sT) [aP rL [ix aH af,FX,Dz] [bW aq (pl cj aw) [aC om [9,10,13,12] [az (jq ag (PT false)) [aH,af,aq,fZ,aG,ar,ns]]],
 aC iz [9,10,12] [az (cK ag (PT false)) [aH,af,fZ,aG,ar,ns]]],
 aP jB [ix aH af,FX,Dz] [aU (eq (ix aH af) a9V) [bW aq (pl cj aw) [aP vR [aH,af,.str [60,48,46],.str [46,48,62],aq,ar] [az (jq ag (PT false)) [aH,af,aq,i_6,ar,.str [],ns]]],
 aP lu [aH,af,.str [60,48,46],.str [46,48,62],ar] [az (cK ag (PT false)) [aH,af,i_6,ar,.str [],ns]]],
 a8 (eq (ix aH af) a9V) [aP iy [aH,af,.str [35,82,101,102,60],pl af (ln1 (.str [35,82,101,102,60]))] [bW aq (pl cj aw) [aP vR [aH,af,.str [35,82,101,102,60],.str [62],aq,ar] [az (jq ag (PT false)) [aH,af,aq,i_3,ar,.str [],ns]]],
 aP lu [aH,af,.str [35,82,101,102,60],.str [62],ar] [az (cK ag (PT false)) [aH,af,i_3,ar,.str [],ns]]],
 aP cY [aH,af,.str [35,82,101,102,60]] [aP iy [aH,af,.str [35,84,105,100,60],pl af (ln1 (.str [35,84,105,100,60]))] [bW aq (pl cj aw) [aP vR [aH,af,.str [35,84,105,100,60],.str [62],aq,ar] [az (jq ag (PT false)) [aH,af,aq,i_4,ar,.str [],ns]]],
 aP lu [aH,af,.str [35,84,105,100,60],.str [62],ar] [az (cK ag (PT false)) [aH,af,i_4,ar,.str [],ns]]],
 aP cY [aH,af,.str [35,84,105,100,60]] [aP iy [aH,af,.str [35,70,117,110,60],pl af (ln1 (.str [35,70,117,110,60]))] [ay (ms (N+1)) [9,10],
 bW aB (pl cj aw) [aC (jq ag Aq) [9,10,16,12,13,14,15] [ay (jq ag (PT false)) [9,10,16,12,13,14,15]]],
 aC (cK ag Aq) [9,10,12,13,14,15] [ay (cK ag (PT false)) [9,10,12,13,14,15]]],
 aP cY [aH,af,.str [35,70,117,110,60]] [aU (eq (ix aH af) a5v) [bW ar (pl cj aw) [aP iy [aH,af,.str [123],ar] [az (Uk N) [aH,ar,.str [125]],
 bW au (pl cj aw) [aP (xV ag) [aH,ar,.str [125],au,aq] [az (jq ag (PT false)) [aH,af,au,i_7,aG,.str [],aq]]],
 aP nL [aH,ar,.str [125]] [az (cK ag (PT false)) [aH,af,i_7,aG,.str [],ns]]]],
 aP cY [aH,af,.str [123]] [az (cK ag (PT false)) [aH,af,i_7,aG,.str [],ns]]],
 a8 (eq (ix aH af) a5v) [aU (eq (ix aH af) a9U) [ay (ms (N+1)) [9,10],
 bW aB (pl cj aw) [aC (jq ag zn) [9,10,16,12,13,14,15] [ay (jq ag (PT false)) [9,10,16,12,13,14,15]]],
 aC (cK ag zn) [9,10,12,13,14,15] [ay (cK ag (PT false)) [9,10,12,13,14,15]]],
 a8 (eq (ix aH af) a9U) [az (cK ag (PT false)) [aH,af,aG,aG,.str [],ns]]]]]]]]]]]]]]]]]] dw (ba FR (ba Lh (ba a2G (ba a2N (ba a7m (ba zg (ba a (ba zX (ba I (ba Y dy)))))))))) (by
  repeat' first|exact b4|apply du|refine cr ?_ ?_
  all_goals intro E h
  all_goals first|omega|grind (ematch:=4) (splits:=6) [TZ,TW,TX,TY,TV,TU,T1,TT,T0,On,T2,vc,b123,b91,R8,R7,R9,He,EB,mN,mI,mA]|(refine h.1 ⟨_,zp,?_⟩;grind (ematch:=4) (splits:=6) [TZ,TW,TX,TY,TV,TU,T1,TT,T0,On,T2,vc,b123,b91,R8,R7,R9,He,EB,mN,mI,mA])|(refine h.1 ⟨?_,_,zp⟩;grind (ematch:=4) (splits:=6) [TZ,TW,TX,TY,TV,TU,T1,TT,T0,On,T2,vc,b123,b91,R8,R7,R9,He,EB,mN,mI,mA])|(obtain⟨_,b,c⟩:=h.2.1;refine h.1 ⟨_,rK b,?_⟩;grind (ematch:=4) (splits:=6) [TZ,TW,TX,TY,TV,TU,T1,TT,T0,On,T2,vc,b123,b91,R8,R7,R9,He,EB,mN,mI,mA])
  )
theorem tR:∀N,O (Ai N)/\O (MY N)/\O (FB N)/\O (Vc N)
 |0=>⟨jE,jE,jE,jE⟩
 |N+1=>by
  obtain⟨a,b,c,d⟩:=tR N;have e:=a2Q N d;have f:=a2P N a c;have g:=a2E N e d f;exact⟨g,a4R N g b,Y0 N g c,a83 N g b⟩
theorem a2F(N:Nat):O (Ai N):=(tR N).1
end Go.Proofs.YtokipodjggomfaaGreatDoor
