/- A part of the proof of ScriptParses: K9. Conditions: those of each theorem. -/
import Derived.Test.YtokipodjggomfaaGreatDoorScrK8
set_option linter.unusedVariables false
set_option linter.unusedSimpArgs false
set_option linter.unusedSimpArgs false
set_option linter.unusedVariables false
namespace Go.Proofs.YtokipodjggomfaaGreatDoor
open Go Go.Proofs.YtokipodjggomfaaGreatDoor.Txt
set_option maxRecDepth 100000 in
set_option maxHeartbeats 4000000 in
theorem a2F(N:Nat)(i:O (H3 N 20000)):O (W1 (N+1)):=bE [.n (rP "repM" (pR ah (N+1)) [8,9,10,11]) [.l (rM "rep" (vz ah) [8,9,10,11]),
 .n (rP "own" (ur ah) [8,9,10,11]) [.l (rQ "in" Abs.ee [i6 0,pl (ln1 (v 11)) (i6 1)]),
 .l (rQ "prtL" (yA ah N 20000) [v 8,v 9,v 10,v 11,i6 0]),
 .n (rR "prto" (wa ah) [v 8,v 9,v 10,v 11,i6 0]) [.l (rM "prt" (Js ah) [8,9,10,11])],
 .n (rR "prtoN" (oV ah) [v 8,v 9,v 10,v 11,i6 0]) [.l (rM "prtN" (wb ah) [8,9,10,11])]],
 .n (rP "ownN" (dy ah) [8,9,10,11]) [.l (rM "prtN" (wb ah) [8,9,10,11])]]] cQ (aM a2H (aM i cR)) (λ_=>by kernel_rfl) (by
  repeat' (first|exact bB|apply bC|apply cI|refine cJ (aB ?_)|refine cH (aB ?_) ?_)
  all_goals intro E h
  all_goals first|(obtain⟨A,t,a,d,c,g⟩:=h;exact A ⟨t,a,d,c⟩)|(obtain⟨A,⟨t1,b,f⟩,t,a,d,c,g⟩:=h;have e:=br a b;subst e;have q:=wS a;have j:=tf c;exact A ⟨q.1,by omega,by rw[q.2,eg (by omega)];omega⟩)|(obtain⟨A,⟨t1,b,f⟩,t,a,d,c,g⟩:=h;have e:=br a b;subst e;have j:=tf c;exact A ⟨t,a,d,c,g,f,rfl,by omega⟩)|(obtain⟨A,I, -⟩:=h;exact A I)|(obtain⟨A,⟨t,a,f⟩, -⟩:=h;exact A ⟨t,a,ZJ f⟩)
  )
set_option maxRecDepth 100000 in
set_option maxHeartbeats 4000000 in
theorem YQ(N:Nat)(M:Nat)(c:O (W1 N))(A:O (H3 N M)):O (H3 N (M+1)):=bE [.n (rP "prtL" (yA ah N (M+1)) [9,10,11,12,13]) [.n (fI (v 13) (pl (ln1 (v 12)) (i6 1))) [.n (rP "ty" (Abs.bM (.int .i64)) [9]) [.n (rP "ty" (Abs.bM (.int .i64)) [10]) [.n (rP "ty" (Abs.bM .str) [11]) [.n (rP "ty" (Abs.bM (.sl ah)) [12]) [.n (rP "ty" (Abs.bM (.int .i64)) [13]) [.n (fT (lt (v 13) (ln1 (v 12)))) [.l (rQ "repM" (pR ah N) [ld 0 (v 12) (v 13),ld 1 (v 12) (v 13),ld 2 (v 12) (v 13),ld 3 (v 12) (v 13)]),
 .n (rR "prt" (Js ah) [ld 0 (v 12) (v 13),ld 1 (v 12) (v 13),ld 2 (v 12) (v 13),ld 3 (v 12) (v 13)]) [.l (rQ "in" Abs.ee [pl (v 13) (i6 1),pl (ln1 (v 12)) (i6 1)]),
 .l (rQ "prtL" (yA ah N M) [v 9,v 10,v 11,v 12,pl (v 13) (i6 1)]),
 .n (rR "prto" (wa ah) [v 9,v 10,v 11,v 12,pl (v 13) (i6 1)]) [.l (rM "prto" (wa ah) [9,10,11,12,13])],
 .n (rR "prtoN" (oV ah) [v 9,v 10,v 11,v 12,pl (v 13) (i6 1)]) [.l (rM "prtoN" (oV ah) [9,10,11,12,13])]],
 .n (rR "prtN" (wb ah) [ld 0 (v 12) (v 13),ld 1 (v 12) (v 13),ld 2 (v 12) (v 13),ld 3 (v 12) (v 13)]) [.l (rM "prtoN" (oV ah) [9,10,11,12,13])]],
 .n (fF (lt (v 13) (ln1 (v 12)))) [.l (rM "prto" (wa ah) [9,10,11,12,13])]]]]]]]]] cQ (aM c (aM A cR)) (λ_=>by kernel_rfl) (by
  repeat' (first|exact bB|apply bC|apply cI|refine cJ (aB ?_)|refine cH (aB ?_) ?_)
  all_goals intro E h
  all_goals first|(obtain⟨A,I, -⟩:=h;exact A I)|(obtain⟨A,V,⟨-,c, -⟩,t,b,f,g,s,p,a,x⟩:=h;obtain⟨u,w,g0,g1,g2,g3,r,i,j,o,y,d⟩:=itE V c b f g;exact A ⟨g0,g1,g2,g3,u,r,i,j,by omega⟩)|(obtain⟨A,⟨-, -, -, -,t1,k,m⟩,V,⟨-,c, -⟩,t,b,f,g,s,p,a,x⟩:=h;obtain⟨u,w,g0,g1,g2,g3,r,i,j,o,y,d⟩:=itE V c b f g;exact A ⟨V.1,by rw[eg (by omega)];omega,by rw[eg (by omega),eg (by omega)];omega⟩)|(obtain⟨A,⟨-, -, -, -,t1,k,m⟩,V,⟨-,c, -⟩,t,b,f,g,s,p,a,x⟩:=h;obtain⟨u,w,g0,g1,g2,g3,r,i,j,o,y,d⟩:=itE V c b f g;have e:=br r k;subst e;refine A ⟨t,b,f,g,s,p,?_,by rw[eg (by omega)];omega⟩;rw[eg (by omega),Int.toNat_add c (by decide)];exact M3 a w m)|(obtain⟨A,⟨-, -, -, -,t1,k,m⟩,V,⟨-,c, -⟩,t,b,f,g,s,p,a,x⟩:=h;obtain⟨u,w,g0,g1,g2,g3,r,i,j,o,y,d⟩:=itE V c b f g;have e:=br r k;subst e;refine A ⟨t,b,?_⟩;cases z:t.fits with|false=>rfl|true=>exact absurd (CH.1 z).2 (by rw[V6 w m];simp))|(obtain⟨A,⟨-,I⟩,⟨B,c,W⟩,t,b,f,g,s,p,a,x⟩:=h;have q:=wS b;exact A ⟨t,b,CH.2 ⟨p,by rwa [fv (by omega)]at a⟩⟩)
  )
set_option maxRecDepth 100000 in
set_option maxHeartbeats 4000000 in
theorem a2g(N:Nat)(j:O (H2 N 20000)):O (WX (N+1)):=bE [.n (rP "repM" (pR ah (N+1)) [8,9,10,11]) [.n (fT (eq (v 8) (i6 5))) [.l (rQ "in" Abs.ee [i6 0,pl (ln1 (v 11)) (i6 1)]),
 .l (rQ "wdsL" (sS ah N 20000) [v 8,v 9,v 10,v 11,i6 2,i6 0]),
 .n (fT (lq (v 13) (i6 10000))) [.n (rR "wdso" (qH ah) [v 8,v 9,v 10,v 11,i6 2,i6 0,v 13]) [.l (rM "wds" (BI ah) [8,9,10,11,13])]]],
 .n (fF (eq (v 8) (i6 5))) [.n (fT (eq (v 8) (i6 7))) [.l (rQ "in" Abs.ee [i6 0,pl (ln1 (v 11)) (i6 1)]),
 .l (rQ "wdsL" (sS ah N 20000) [v 8,v 9,v 10,v 11,i6 2,i6 0]),
 .n (fT (lq (v 13) (i6 10000))) [.n (rR "wdso" (qH ah) [v 8,v 9,v 10,v 11,i6 2,i6 0,v 13]) [.l (rM "wds" (BI ah) [8,9,10,11,13])]]],
 .n (fF (eq (v 8) (i6 7))) [.n (fT (eq (v 8) (i6 9))) [.l (rQ "in" Abs.ee [i6 0,pl (ln1 (v 11)) (i6 1)]),
 .l (rQ "wdsL" (sS ah N 20000) [v 8,v 9,v 10,v 11,i6 1,i6 0]),
 .n (fT (lq (v 13) (i6 10000))) [.n (rR "wdso" (qH ah) [v 8,v 9,v 10,v 11,i6 1,i6 0,v 13]) [.l (rM "wds" (BI ah) [8,9,10,11,13])]]],
 .n (fF (eq (v 8) (i6 9))) [.l (rQ "wds" (BI ah) [v 8,v 9,v 10,v 11,i6 1]),
 .l (rQ "tr" Abs.dk [lq (i6 1) (i6 10000)])]]]]] cQ (aM j cR) (λ_=>by kernel_rfl) (by
  repeat' (first|exact bB|apply bC|apply cI|refine cJ (aB ?_)|refine cH (aB ?_) ?_)
  all_goals intro E h
  all_goals first|omega|(obtain⟨A,I, -⟩:=h;exact A I)|(obtain⟨A,Z,t,a,c,b,d⟩:=h;have q:=wS a;have f:=tf b;exact A ⟨q.1,by omega,by rw[q.2,eg (by omega)];omega⟩)|(obtain⟨A,Z,t,a,c,b,d⟩:=h;have f:=tf b;have g:=hi a;refine A ⟨t,a,c,b,d,?_,by omega⟩;rw[tZ,g];split<;>omega)|(obtain⟨A,Z,e,t,a,c,b,d⟩:=h;have q:=wS a;have f:=tf b;exact A ⟨q.1,by omega,by rw[q.2,eg (by omega)];omega⟩)|(obtain⟨A,Z,e,t,a,c,b,d⟩:=h;have f:=tf b;have g:=hi a;refine A ⟨t,a,c,b,d,?_,by omega⟩;rw[tZ,g];split<;>omega)|(obtain⟨A,Z,e,i,t,a,c,b,d⟩:=h;have q:=wS a;have f:=tf b;exact A ⟨q.1,by omega,by rw[q.2,eg (by omega)];omega⟩)|(obtain⟨A,Z,e,i,t,a,c,b,d⟩:=h;have f:=tf b;have g:=hi a;refine A ⟨t,a,c,b,d,?_,by omega⟩;rw[tZ,g];split<;>omega)|(obtain⟨A,k,h7,h5,t,a,c,b,d⟩:=h;exact A ⟨t,a,a7o k h7 h5 a c⟩)
  )
set_option maxRecDepth 100000 in
set_option maxHeartbeats 4000000 in
theorem XT(N:Nat)(M:Nat)(a:O (WX N))(A:O (H2 N M)):O (H2 N (M+1)):=bE [.n (rP "wdsL" (sS ah N (M+1)) [9,10,11,12,13,14]) [.n (fI (v 14) (pl (ln1 (v 12)) (i6 1))) [.n (rP "ty" (Abs.bM (.int .i64)) [9]) [.n (rP "ty" (Abs.bM (.int .i64)) [10]) [.n (rP "ty" (Abs.bM .str) [11]) [.n (rP "ty" (Abs.bM (.sl ah)) [12]) [.n (rP "ty" (Abs.bM (.int .i64)) [14]) [.n (rP "ty" (Abs.bM (.int .i64)) [13]) [.n (fT (lt (v 14) (ln1 (v 12)))) [.l (rQ "repM" (pR ah N) [ld 0 (v 12) (v 14),ld 1 (v 12) (v 14),ld 2 (v 12) (v 14),ld 3 (v 12) (v 14)]),
 .n (fT (lq (v 15) (i6 10000))) [.n (rR "wds" (BI ah) [ld 0 (v 12) (v 14),ld 1 (v 12) (v 14),ld 2 (v 12) (v 14),ld 3 (v 12) (v 14),v 15]) [.l (rQ "in" Abs.ee [pl (v 14) (i6 1),pl (ln1 (v 12)) (i6 1)]),
 .l (rQ "wdsL" (sS ah N M) [v 9,v 10,v 11,v 12,pl (v 13) (v 15),pl (v 14) (i6 1)]),
 .n (fT (lq (v 16) (i6 10000))) [.n (rR "wdso" (qH ah) [v 9,v 10,v 11,v 12,pl (v 13) (v 15),pl (v 14) (i6 1),v 16]) [.l (rM "wdso" (qH ah) [9,10,11,12,13,14,16])]]]]],
 .n (fF (lt (v 14) (ln1 (v 12)))) [.l (rM "wdso" (qH ah) [9,10,11,12,13,14,13]),
 .l (rQ "tr" Abs.dk [lq (v 13) (i6 10000)])]]]]]]]]]] cQ (aM a (aM A cR)) (λ_=>by kernel_rfl) (by
  repeat' (first|exact bB|apply bC|apply cI|refine cJ (aB ?_)|refine cH (aB ?_) ?_)
  all_goals intro E h
  all_goals first|(obtain⟨A,I, -⟩:=h;exact A I)|(obtain⟨A,V,⟨-,a, -⟩,t,b,f,c,k,d,r⟩:=h;obtain⟨u,w,g0,g1,g2,g3,s,i,j,m,x,g⟩:=itE V a b f c;exact A ⟨g0,g1,g2,g3,u,s,i,j,by omega⟩)|(obtain⟨A,⟨-, -, -, -,t1,o,p⟩,y,V,⟨-,a, -⟩,t,b,f,c,k,d,r⟩:=h;obtain⟨u,w,g0,g1,g2,g3,s,i,j,m,x,g⟩:=itE V a b f c;exact A ⟨V.1,by rw[eg (by omega)];omega,by rw[eg (by omega),eg (by omega)];omega⟩)|(obtain⟨A,⟨-, -, -, -,t1,o,p⟩,y,V,⟨-,a, -⟩,t,b,f,c,k,d,r⟩:=h;obtain⟨u,w,g0,g1,g2,g3,s,i,j,m,x,g⟩:=itE V a b f c;have e:=br s o;subst e;have z:=IA w;have B:=a5i c d;refine A ⟨t,b,f,c,k,?_,by rw[eg (by omega)];omega⟩;rw[eg (by omega),eg (by omega),Int.toNat_add a (by decide),show(1:Int).toNat=1 from rfl,z,d,p];omega)|(obtain⟨A,⟨-,I⟩,⟨C,a,W⟩,t,b,f,c,k,d,r⟩:=h;have q:=wS b;rw[fv (by omega)]at d;exact A ⟨t,b,a7n d⟩)|(obtain⟨A,⟨-,I⟩,⟨C,a,W⟩,t,b,f,c,k,d,r⟩:=h;have B:=a5i c d;omega)
  )
theorem UT:∀N,O (W1 N)
 |0=>hD
 |N+1=>by
  have h:=UT N;have a:∀M,O (H3 N M):=λM=>by
   induction M with
   |zero=>exact hD
   |succ M b=>exact YQ N M h b
  exact a2F N (a 20000)
theorem TV:∀N,O (WX N)
 |0=>hD
 |N+1=>by
  have h:=TV N;have a:∀M,O (H2 N M):=λM=>by
   induction M with
   |zero=>exact hD
   |succ M b=>exact XT N M h b
  exact a2g N (a 20000)
set_option maxRecDepth 100000 in
set_option maxHeartbeats 4000000 in
theorem UJ:O a6K:=bE [.n (fT (lq (ln1 (v 8)) (i6 4200))) [.n (rP "ty" (Abs.bM .str) [8]) [.l (rQ "in" Abs.ee [i6 0,pl (ln1 (v 8)) (i6 1)]),
 .l (rQ "ms" (ms 5000) [v 8,i6 0]),
 .n (fI (v 15) (pl (ln1 (v 8)) (i6 1))) [.n (rR "rtm" (ir ah (PT false)) [v 8,i6 0,v 15,v 11,v 12,v 13,v 14]) [.n (fT (lt (v 15) (ln1 (v 8)))) [.l (rM "rdN" mw [8])],
 .n (fF (lt (v 15) (ln1 (v 8)))) [.l (rM "repM" (pR ah 20000) [11,12,13,14]),
 .n (rP "prt" (Js ah) [11,12,13,14]) [.l (rM "repM" (pR ah 20000) [11,12,13,14]),
 .n (fT (lq (v 18) (i6 10000))) [.n (rP "wds" (BI ah) [11,12,13,14,18]) [.l (rM "rd" (Gp ah) [8,11,12,13,14])]]],
 .n (rP "prtN" (wb ah) [11,12,13,14]) [.l (rM "rdN" mw [8])]]]],
 .n (rR "rtmN" (b8 ah (PT false)) [v 8,i6 0,v 11,v 12,v 13,v 14]) [.l (rM "rdN" mw [8])]]]] cQ (aM (Yq 5000) (aM (UT 20000) (aM (TV 20000) cR))) (λ_=>by kernel_rfl) (by
  repeat' (first|exact bB|apply bC|apply cI|refine cJ (aB ?_)|refine cH (aB ?_) ?_)
  all_goals intro E h
  all_goals first|omega|(exact h.1 (Jo h.2.1.1))|(obtain⟨A,I,⟨t,b,a⟩,W,D⟩:=h;exact A (Ge a (a1A (by omega) I)))|(obtain⟨A,I,⟨t,b,a⟩,W,D⟩:=h;have q:=Xp a;have z:=gv t;exact A ⟨t,b,q.1,by omega,by omega⟩)|(obtain⟨A, -,I,⟨t,b,a⟩,W,D⟩:=h;have q:=Xp a;have z:=gv t;exact A ⟨t,b,q.1,by omega,by omega⟩)|(obtain⟨A, -, -,⟨t1,c,d⟩,I,⟨t,b,a⟩,W,D⟩:=h;have e:=br b c;subst e;rw[M9 (by omega)]at a;exact A ⟨t,b,by rw[Jp a,d];rfl⟩)|(obtain⟨A,⟨t1,c,d⟩,I,⟨t,b,a⟩,W,D⟩:=h;have e:=br b c;subst e;rw[M9 (by omega)]at a;exact A (by rw[Jp a,d];rfl))
  )
set_option maxRecDepth 100000 in
set_option maxHeartbeats 4000000 in
theorem On:∀N,O (a4c N)
  |0=>hD
  |N+1=>bE [.n (rP "nmdL" (gh (N+1)) [9,10]) [.n (fI (v 10) (pl (ln1 (v 9)) (i6 1))) [.n (fT (lq (ln1 (v 9)) (i6 4200))) [.n (rP "ty" (Abs.bM (.int .i64)) [10]) [.n (rP "ty" (Abs.bM .str) [9]) [.n (fT (lt (v 10) (ln1 (v 9)))) [.n (fT (ne (ix (v 9) (v 10)) (u8 32))) [.l (rQ "in" Abs.ee [pl (v 10) (i6 1),pl (ln1 (v 9)) (i6 1)]),
 .l (rQ "nmdL" (gh N) [v 9,pl (v 10) (i6 1)]),
 .n (rP "nmd" (eZ ah) [9,11,12]) [.l (rM "nmd" (eZ ah) [9,11,12])],
 .n (rP "nmdN" df [9]) [.l (rM "nmdN" df [9])]],
 .n (fF (ne (ix (v 9) (v 10)) (u8 32))) [.l (rQ "tr" Abs.dk [lq (ln1 (a6 (v 9) (i6 0) (v 10))) (i6 4200)]),
 .n (rR "rd" (Gp ah) [a6 (v 9) (i6 0) (v 10),v 11,v 12,v 13,v 14]) [.l (rQ "tr" Abs.dk [lq (ln1 (a6 (v 9) (pl (v 10) (i6 1)) (ln1 (v 9)))) (i6 4200)]),
 .n (rR "rd" (Gp ah) [a6 (v 9) (pl (v 10) (i6 1)) (ln1 (v 9)),v 16,v 17,v 18,v 19]) [.l (rM "rep" (vz ah) [16,17,18,19]),
 .n (rP "itm" (zx ah) [16,17,18,19,21]) [.n (fT (eq (v 11) (i6 2))) [.l (rM "nmd" (eZ ah) [9,13,21])],
 .n (fF (eq (v 11) (i6 2))) [.l (rQ "in" Abs.ee [pl (v 10) (i6 1),pl (ln1 (v 9)) (i6 1)]),
 .l (rQ "nmdL" (gh N) [v 9,pl (v 10) (i6 1)]),
 .n (rP "nmd" (eZ ah) [9,22,23]) [.l (rM "nmd" (eZ ah) [9,22,23])],
 .n (rP "nmdN" df [9]) [.l (rM "nmdN" df [9])]]],
 .n (rP "itmN" (nV ah) [16,17,18,19]) [.n (fT (eq (v 11) (i6 2))) [.l (rQ "in" Abs.ee [pl (v 10) (i6 1),pl (ln1 (v 9)) (i6 1)]),
 .l (rQ "nmdL" (gh N) [v 9,pl (v 10) (i6 1)]),
 .n (rP "nmd" (eZ ah) [9,22,23]) [.l (rM "nmd" (eZ ah) [9,22,23])],
 .n (rP "nmdN" df [9]) [.l (rM "nmdN" df [9])]],
 .n (fF (eq (v 11) (i6 2))) [.l (rQ "in" Abs.ee [pl (v 10) (i6 1),pl (ln1 (v 9)) (i6 1)]),
 .l (rQ "nmdL" (gh N) [v 9,pl (v 10) (i6 1)]),
 .n (rP "nmd" (eZ ah) [9,22,23]) [.l (rM "nmd" (eZ ah) [9,22,23])],
 .n (rP "nmdN" df [9]) [.l (rM "nmdN" df [9])]]]],
 .n (rR "rdN" mw [a6 (v 9) (pl (v 10) (i6 1)) (ln1 (v 9))]) [.l (rQ "in" Abs.ee [pl (v 10) (i6 1),pl (ln1 (v 9)) (i6 1)]),
 .l (rQ "nmdL" (gh N) [v 9,pl (v 10) (i6 1)]),
 .n (rP "nmd" (eZ ah) [9,18,19]) [.l (rM "nmd" (eZ ah) [9,18,19])],
 .n (rP "nmdN" df [9]) [.l (rM "nmdN" df [9])]]],
 .n (rR "rdN" mw [a6 (v 9) (i6 0) (v 10)]) [.l (rQ "tr" Abs.dk [lq (ln1 (a6 (v 9) (pl (v 10) (i6 1)) (ln1 (v 9)))) (i6 4200)]),
 .n (rR "rd" (Gp ah) [a6 (v 9) (pl (v 10) (i6 1)) (ln1 (v 9)),v 12,v 13,v 14,v 15]) [.l (rM "rep" (vz ah) [12,13,14,15]),
 .n (rP "itm" (zx ah) [12,13,14,15,17]) [.l (rQ "in" Abs.ee [pl (v 10) (i6 1),pl (ln1 (v 9)) (i6 1)]),
 .l (rQ "nmdL" (gh N) [v 9,pl (v 10) (i6 1)]),
 .n (rP "nmd" (eZ ah) [9,18,19]) [.l (rM "nmd" (eZ ah) [9,18,19])],
 .n (rP "nmdN" df [9]) [.l (rM "nmdN" df [9])]],
 .n (rP "itmN" (nV ah) [12,13,14,15]) [.l (rQ "in" Abs.ee [pl (v 10) (i6 1),pl (ln1 (v 9)) (i6 1)]),
 .l (rQ "nmdL" (gh N) [v 9,pl (v 10) (i6 1)]),
 .n (rP "nmd" (eZ ah) [9,18,19]) [.l (rM "nmd" (eZ ah) [9,18,19])],
 .n (rP "nmdN" df [9]) [.l (rM "nmdN" df [9])]]],
 .n (rR "rdN" mw [a6 (v 9) (pl (v 10) (i6 1)) (ln1 (v 9))]) [.l (rQ "in" Abs.ee [pl (v 10) (i6 1),pl (ln1 (v 9)) (i6 1)]),
 .l (rQ "nmdL" (gh N) [v 9,pl (v 10) (i6 1)]),
 .n (rP "nmd" (eZ ah) [9,14,15]) [.l (rM "nmd" (eZ ah) [9,14,15])],
 .n (rP "nmdN" df [9]) [.l (rM "nmdN" df [9])]]]]],
 .n (fF (lt (v 10) (ln1 (v 9)))) [.l (rM "nmdN" df [9])]]]]]]] cQ (aM (On N) (aM UJ (aM a3a cR))) (λ_=>by kernel_rfl) (by
  repeat' (first|exact bB|apply bC|apply cI|refine cJ (aB ?_)|refine cH (aB ?_) ?_)
  all_goals intro E h
  all_goals first|omega|grind (ematch:=4) (splits:=6) [S7,Ll,Lk,Lj,Li,S6,S8,->hi,->Gf,->YF,Ah,->br]|(obtain⟨_,a,b⟩:=h.2.1;refine h.1 ⟨_,a,?_⟩;grind (ematch:=4) (splits:=6) [S7,Ll,Lk,Lj,Li,S6,S8,->hi,->Gf,->YF,Ah,->br])
  )
set_option maxRecDepth 100000 in
set_option maxHeartbeats 4000000 in
theorem a2s:O a6I:=bE [.n (fT (lq (ln1 (v 8)) (i6 4200))) [.n (rP "ty" (Abs.bM .str) [8]) [.l (rQ "in" Abs.ee [i6 0,pl (ln1 (v 8)) (i6 1)]),
 .l (rQ "nmdL" (gh 5000) [v 8,i6 0]),
 .n (rP "nmd" (eZ ah) [8,10,11]) [.l (rM "nmd" (eZ ah) [8,10,11])],
 .n (rP "nmdN" df [8]) [.l (rM "nmdN" df [8])]]]] cQ (aM (On 5000) cR) (λ_=>by kernel_rfl) (by
  repeat' (first|exact bB|apply bC|apply cI|refine cJ (aB ?_)|refine cH (aB ?_) ?_)
  all_goals intro E h
  all_goals first|omega|grind (ematch:=4) (splits:=6) [a0H]
  )
set_option maxRecDepth 100000 in
set_option maxHeartbeats 4000000 in
theorem YR:O a4i:=bE [.n (fT (lq (ln1 (v 8)) (i6 4200))) [.n (rP "ty" (Abs.bM .str) [8]) [.n (fT (gt (ln1 (v 8)) (i6 4000))) [.l (rM "prsL" nS [8])],
 .n (fF (gt (ln1 (v 8)) (i6 4000))) [.l (rQ "in" Abs.ee [i6 0,pl (ln1 (v 8)) (i6 1)]),
 .l (rQ "cutL" (sT 5000) [v 8,i6 0]),
 .n (rP "cutR" qI [8,10,11]) [.n (fT (eq (.str [115,112,97,119,110]) (v 10))) [.l (rQ "tr" Abs.dk [lq (ln1 (v 11)) (i6 4200)]),
 .n (rP "nmd" (eZ ah) [11,32,33]) [.l (rM "prsS" (mK ah) [8,32,33])],
 .n (rP "nmdN" df [11]) [.l (rM "prsB" aR [8])]],
 .n (fF (eq (.str [115,112,97,119,110]) (v 10))) [.n (fT (eq (.str [115,116,101,112]) (v 10))) [.l (rQ "tr" Abs.dk [lq (ln1 (v 11)) (i6 4200)]),
 .n (rP "noR" mx [11,32]) [.l (rQ "prsN" gj [v 8,i6 2,v 32])],
 .n (rP "noRN" eY [11]) [.l (rM "prsB" aR [8])]],
 .n (fF (eq (.str [115,116,101,112]) (v 10))) [.n (fT (eq (.str [115,101,110,100]) (v 10))) [.l (rQ "tr" Abs.dk [lq (ln1 (v 11)) (i6 4200)]),
 .l (rQ "in" Abs.ee [i6 0,pl (ln1 (v 11)) (i6 1)]),
 .l (rQ "cutL" (sT 5000) [v 11,i6 0]),
 .n (rP "cutR" qI [11,32,33]) [.l (rQ "tr" Abs.dk [lq (ln1 (v 32)) (i6 4200)]),
 .n (rP "noR" mx [32,34]) [.l (rQ "tr" Abs.dk [lq (ln1 (v 33)) (i6 4200)]),
 .n (rP "rd" (Gp ah) [33,35,36,37,38]) [.l (rQ "prsT" (kN ah) [v 8,i6 3,v 34,v 35,v 36,v 37,v 38])],
 .n (rP "rdN" mw [33]) [.l (rM "prsB" aR [8])]],
 .n (rP "noRN" eY [32]) [.l (rQ "tr" Abs.dk [lq (ln1 (v 33)) (i6 4200)]),
 .n (rP "rd" (Gp ah) [33,35,36,37,38]) [.l (rM "prsB" aR [8])],
 .n (rP "rdN" mw [33]) [.l (rM "prsB" aR [8])]]],
 .n (rP "cutRN" lL [11]) [.l (rQ "tr" Abs.dk [lq (ln1 (v 11)) (i6 4200)]),
 .n (rP "noR" mx [11,32]) [.l (rM "prsB" aR [8])],
 .n (rP "noRN" eY [11]) [.l (rM "prsB" aR [8])]]],
 .n (fF (eq (.str [115,101,110,100]) (v 10))) [.n (fT (eq (.str [101,120,105,116]) (v 10))) [.l (rQ "tr" Abs.dk [lq (ln1 (v 11)) (i6 4200)]),
 .l (rQ "in" Abs.ee [i6 0,pl (ln1 (v 11)) (i6 1)]),
 .l (rQ "cutL" (sT 5000) [v 11,i6 0]),
 .n (rP "cutR" qI [11,32,33]) [.l (rQ "tr" Abs.dk [lq (ln1 (v 32)) (i6 4200)]),
 .n (rP "noR" mx [32,34]) [.l (rQ "tr" Abs.dk [lq (ln1 (v 33)) (i6 4200)]),
 .n (rP "rd" (Gp ah) [33,35,36,37,38]) [.l (rQ "prsT" (kN ah) [v 8,i6 4,v 34,v 35,v 36,v 37,v 38])],
 .n (rP "rdN" mw [33]) [.l (rM "prsB" aR [8])]],
 .n (rP "noRN" eY [32]) [.l (rQ "tr" Abs.dk [lq (ln1 (v 33)) (i6 4200)]),
 .n (rP "rd" (Gp ah) [33,35,36,37,38]) [.l (rM "prsB" aR [8])],
 .n (rP "rdN" mw [33]) [.l (rM "prsB" aR [8])]]],
 .n (rP "cutRN" lL [11]) [.l (rQ "tr" Abs.dk [lq (ln1 (v 11)) (i6 4200)]),
 .n (rP "noR" mx [11,32]) [.l (rM "prsB" aR [8])],
 .n (rP "noRN" eY [11]) [.l (rM "prsB" aR [8])]]],
 .n (fF (eq (.str [101,120,105,116]) (v 10))) [.n (fT (eq (.str [99,111,108,108,101,99,116]) (v 10))) [.l (rQ "tr" Abs.dk [lq (ln1 (v 11)) (i6 4200)]),
 .n (rP "noR" mx [11,32]) [.l (rQ "prsN" gj [v 8,i6 5,v 32])],
 .n (rP "noRN" eY [11]) [.l (rM "prsB" aR [8])]],
 .n (fF (eq (.str [99,111,108,108,101,99,116]) (v 10))) [.n (fT (eq (.str [112,97,115,115]) (v 10))) [.l (rQ "tr" Abs.dk [lq (ln1 (v 11)) (i6 4200)]),
 .n (rP "noR" mx [11,32]) [.l (rQ "prsN" gj [v 8,i6 6,v 32])],
 .n (rP "noRN" eY [11]) [.l (rM "prsB" aR [8])]],
 .n (fF (eq (.str [112,97,115,115]) (v 10))) [.n (fT (eq (.str [114,111,117,110,100]) (v 10))) [.l (rQ "tr" Abs.dk [lq (ln1 (v 11)) (i6 4200)]),
 .n (rP "noR" mx [11,32]) [.l (rQ "prsN" gj [v 8,i6 7,v 32])],
 .n (rP "noRN" eY [11]) [.l (rM "prsB" aR [8])]],
 .n (fF (eq (.str [114,111,117,110,100]) (v 10))) [.n (fT (eq (.str [114,117,110]) (v 10))) [.l (rQ "tr" Abs.dk [lq (ln1 (v 11)) (i6 4200)]),
 .n (rP "noR" mx [11,32]) [.l (rQ "prsN" gj [v 8,i6 8,v 32])],
 .n (rP "noRN" eY [11]) [.l (rM "prsB" aR [8])]],
 .n (fF (eq (.str [114,117,110]) (v 10))) [.n (fT (eq (.str [115,101,116,116,108,101]) (v 10))) [.l (rQ "tr" Abs.dk [lq (ln1 (v 11)) (i6 4200)]),
 .n (rP "noR" mx [11,32]) [.l (rQ "prsN" gj [v 8,i6 9,v 32])],
 .n (rP "noRN" eY [11]) [.l (rM "prsB" aR [8])]],
 .n (fF (eq (.str [115,101,116,116,108,101]) (v 10))) [.l (rM "prsM" lJ [8])]]]]]]]]]],
 .n (rP "cutRN" lL [8]) [.n (fT (eq (.str [115,112,97,119,110]) (v 8))) [.l (rM "prsB" aR [8])],
 .n (fF (eq (.str [115,112,97,119,110]) (v 8))) [.n (fT (eq (.str [115,116,101,112]) (v 8))) [.l (rM "prsB" aR [8])],
 .n (fF (eq (.str [115,116,101,112]) (v 8))) [.n (fT (eq (.str [115,101,110,100]) (v 8))) [.l (rM "prsB" aR [8])],
 .n (fF (eq (.str [115,101,110,100]) (v 8))) [.n (fT (eq (.str [101,120,105,116]) (v 8))) [.l (rM "prsB" aR [8])],
 .n (fF (eq (.str [101,120,105,116]) (v 8))) [.n (fT (eq (.str [99,111,108,108,101,99,116]) (v 8))) [.l (rM "prsB" aR [8])],
 .n (fF (eq (.str [99,111,108,108,101,99,116]) (v 8))) [.n (fT (eq (.str [112,97,115,115]) (v 8))) [.l (rM "prsB" aR [8])],
 .n (fF (eq (.str [112,97,115,115]) (v 8))) [.n (fT (eq (.str [114,111,117,110,100]) (v 8))) [.l (rM "prsB" aR [8])],
 .n (fF (eq (.str [114,111,117,110,100]) (v 8))) [.n (fT (eq (.str [114,117,110]) (v 8))) [.l (rM "prsB" aR [8])],
 .n (fF (eq (.str [114,117,110]) (v 8))) [.n (fT (eq (.str [115,101,116,116,108,101]) (v 8))) [.l (rM "prsB" aR [8])],
 .n (fF (eq (.str [115,101,116,116,108,101]) (v 8))) [.l (rM "prsM" lJ [8])]]]]]]]]]]]]]] cQ (aM (Qi 5000) (aM a2s (aM a2Q (aM UJ cR)))) (λ_=>by kernel_rfl) (by
  repeat' (first|exact bB|apply bC|apply cI|refine cJ (aB ?_)|refine cH (aB ?_) ?_)
  all_goals intro E h
  all_goals first|omega|(exact h.1 ⟨TG,by omega⟩)|(obtain⟨A,I⟩:=h;revert I;simp only[aT,aU];intros;have b:=‹Lib.cut (gs E 8) [32]=_›;have e:=aO b;have d:=‹¬(4000:Int)<_›;(first|have a:=‹Lib.cut (gs E 11) [32]=_›;have c:=aO a|skip);exact A (by omega))|(obtain⟨A,I⟩:=h;revert I;simp only[aT,aU];intros;have b:=‹Lib.cut (gs E 8) [32]=_›;have e:=aO b;have d:=‹¬(4000:Int)<_›;(first|have a:=‹Lib.cut (gs E 11) [32]=_›;have c:=aO a|skip);exact A ⟨TG,by omega⟩)|(obtain⟨A,I⟩:=h;revert I;simp only[aT,aU];intros;have b:=‹Lib.cut (gs E 8) [32]=_›;have e:=aO b;have d:=‹¬(4000:Int)<_›;(first|have a:=‹Lib.cut (gs E 11) [32]=_›;have c:=aO a|skip);exact A ⟨by decide,by rw[eg (by omega)];omega⟩)|(obtain⟨A,I⟩:=h;revert I;simp only[aT,aU];intros;have b:=‹Lib.cut (gs E 8) [32]=_›;have e:=aO b;have d:=‹¬(4000:Int)<_›;(first|have a:=‹Lib.cut (gs E 11) [32]=_›;have c:=aO a|skip);exact A (pb d b (by rw[<-‹_::_=gs E 10›];decide) (.inr (.inl ⟨(by rw[<-‹_::_=gs E 10›];decide),(by assumption)⟩))))|(obtain⟨A,I⟩:=h;revert I;simp only[aT,aU];intros;have b:=‹Lib.cut (gs E 8) [32]=_›;have e:=aO b;have d:=‹¬(4000:Int)<_›;(first|have a:=‹Lib.cut (gs E 11) [32]=_›;have c:=aO a|skip);exact A (pb d b (by rw[<-‹_::_=gs E 10›];decide) (.inr (.inr (.inl ⟨(by rw[<-‹_::_=gs E 10›];decide),nt1 a⟩)))))|(obtain⟨A,I⟩:=h;revert I;simp only[aT,aU];intros;have b:=‹Lib.cut (gs E 8) [32]=_›;have e:=aO b;have d:=‹¬(4000:Int)<_›;(first|have a:=‹Lib.cut (gs E 11) [32]=_›;have c:=aO a|skip);exact A (pb d b (by rw[<-‹_::_=gs E 10›];decide) (.inr (.inr (.inl ⟨(by rw[<-‹_::_=gs E 10›];decide),nt3 a (by assumption)⟩)))))|(obtain⟨A,I⟩:=h;revert I;simp only[aT,aU];intros;have b:=‹Lib.cut (gs E 8) [32]=_›;have e:=aO b;have d:=‹¬(4000:Int)<_›;(first|have a:=‹Lib.cut (gs E 11) [32]=_›;have c:=aO a|skip);exact A (pb d b (by rw[<-‹_::_=gs E 10›];decide) (.inr (.inr (.inl ⟨(by rw[<-‹_::_=gs E 10›];decide),nt2 a (by assumption)⟩)))))|(obtain⟨A,I⟩:=h;revert I;simp only[aT,aU];intros;have b:=‹Lib.cut (gs E 8) [32]=_›;have e:=aO b;have d:=‹¬(4000:Int)<_›;(first|have a:=‹Lib.cut (gs E 11) [32]=_›;have c:=aO a|skip);exact A (pb d b (by rw[<-‹_::_=gs E 10›];decide) (.inr (.inr (.inr ⟨(by rw[<-‹_::_=gs E 10›];decide),(by rw[<-‹_::_=gs E 10›];decide),(by rw[<-‹_::_=gs E 10›];decide),(by assumption)⟩)))))|(obtain⟨A,I⟩:=h;revert I;simp only[aT,aU];intros;have b:=‹Lib.cut (gs E 8) [32]=_›;have e:=aO b;have d:=‹¬(4000:Int)<_›;(first|have a:=‹Lib.cut (gs E 11) [32]=_›;have c:=aO a|skip);exact A (pn d b (by rw[<-‹_::_=gs E 10›];decide) (by assumption)))|(obtain⟨A,I⟩:=h;revert I;simp only[aT,aU];intros;have b:=‹Lib.cut (gs E 8) [32]=_›;have e:=aO b;have d:=‹¬(4000:Int)<_›;(first|have a:=‹Lib.cut (gs E 11) [32]=_›;have c:=aO a|skip);exact A (pt d b (by rw[<-‹_::_=gs E 10›];decide) a (by assumption) ⟨_,by assumption,by assumption⟩))|(obtain⟨A,I⟩:=h;revert I;simp only[aT,aU];intros;have b:=‹Lib.cut (gs E 8) [32]=_›;have e:=aO b;have d:=‹¬(4000:Int)<_›;(first|have a:=‹Lib.cut (gs E 11) [32]=_›;have c:=aO a|skip);exact A (ps d b (by rw[<-‹_::_=gs E 10›];decide) ⟨_,by assumption,by assumption⟩))|(obtain⟨A,I⟩:=h;revert I;simp only[aT,aU];intros;have b:=‹Lib.cut (gs E 8) [32]=_›;have e:=aO b;have d:=‹¬(4000:Int)<_›;(first|have a:=‹Lib.cut (gs E 11) [32]=_›;have c:=aO a|skip);exact A (lw0 (by simp only[n7,bQ,eE,er];grind) d b))|(obtain⟨A,I⟩:=h;revert I;simp only[aT,aU];intros;have b:=‹Lib.cut (gs E 8) [32]=_›;have e:=aO b;have d:=‹¬(4000:Int)<_›;(first|have a:=‹Lib.cut (gs E 11) [32]=_›;have c:=aO a|skip);exact A (pb d b (by rw[<-‹_::_=gs E 8›];decide) (.inl rfl)))
  )
end Go.Proofs.YtokipodjggomfaaGreatDoor
