/- A part of the proof of ScriptParses: K4. Conditions: those of each theorem. -/
import Derived.Test.YtokipodjggomfaaGreatDoorScrK3
import Derived.Test.YtokipodjggomfaaGreatDoorScrChk
set_option linter.unusedVariables false
set_option linter.unusedSimpArgs false
set_option linter.unusedSimpArgs false
set_option linter.unusedVariables false
namespace Go.Proofs.YtokipodjggomfaaGreatDoor
open Go Go.Proofs.YtokipodjggomfaaGreatDoor.Txt
set_option maxRecDepth 100000 in
set_option maxHeartbeats 4000000 in
theorem a1e:O a8p:=bE [.n (fT (lq (ln1 (v 8)) (i6 4200))) [.n (rP "ty" (Abs.bM .str) [8]) [.l (rQ "in" Abs.ee [i6 0,pl (ln1 (v 8)) (i6 1)]),
 .l (rQ "ms" (ms 5000) [v 8,i6 0]),
 .n (fI (v 17) (pl (ln1 (v 8)) (i6 1))) [.n (rR "trm" (ir ah (PT true)) [v 8,i6 0,v 17,v 13,v 14,v 15,v 16]) [.n (fT (eq (v 17) (ln1 (v 8)))) [.l (rM "term" (Abs.kO kK ah kB) [13,14,15,16]),
 .l (rM "sound" Abs.lT [13,14,15,16]),
 .l (rM "rd" (Gp ah) [8,13,14,15,16])],
 .n (fF (eq (v 17) (ln1 (v 8)))) [.l (rM "rdN" mw [8])]]],
 .n (rR "trmN" (hE (PT true)) [v 8,i6 0]) [.l (rM "rdN" mw [8])]]]] cQ (aM (a2l 5000) (aM a38 cR)) (λ_=>by kernel_rfl) (by
  repeat' (first|exact bB|apply bC|apply cI|refine cJ (aB ?_)|refine cH (aB ?_) ?_)
  all_goals intro E h
  all_goals first|omega|grind (ematch:=4) (splits:=6) [a2x,a2y,a5H]|(obtain⟨A, -,⟨t,I,W⟩, -,D⟩:=h;exact A (a6D iN kBe W D I))|(obtain⟨A, -,⟨t,I,W⟩, -,D⟩:=h;exact A (a6E W I))
  )
set_option maxRecDepth 100000 in
set_option maxHeartbeats 4000000 in
theorem Px:∀N,O (a4p N)
  |0=>hD
  |N+1=>bE [.n (rP "itmL" (pW ah (N+1)) [10,11,12,13,14,16]) [.n (rP "ty" (Abs.bM (.int .i64)) [10]) [.n (rP "ty" (Abs.bM (.int .i64)) [11]) [.n (rP "ty" (Abs.bM .str) [12]) [.n (rP "ty" (Abs.bM (.sl ah)) [13]) [.n (fT (eq (v 10) (i6 9))) [.n (fT (eq (ln1 (v 13)) (i6 2))) [.l (rR "out" Abs.jg [i6 0,ln1 (v 13)]),
 .l (rP "grow" (Abs.eL 4 56 1) [16,14]),
 .n (fI (v 14) (pl (v 14) (i6 1))) [.l (rR "out" Abs.jg [i6 1,ln1 (v 13)]),
 .l (rQ "itmL" (pW ah N) [ld 0 (v 13) (i6 1),ld 1 (v 13) (i6 1),ld 2 (v 13) (i6 1),ld 3 (v 13) (i6 1),pl (v 14) (i6 1),s4 (tk 4 (v 16) (v 14)) (ld 0 (v 13) (i6 0)) (ld 1 (v 13) (i6 0)) (ld 2 (v 13) (i6 0)) (ld 3 (v 13) (i6 0))]),
 .n (rR "itmo" (nU ah) [ld 0 (v 13) (i6 1),ld 1 (v 13) (i6 1),ld 2 (v 13) (i6 1),ld 3 (v 13) (i6 1),pl (v 14) (i6 1),s4 (tk 4 (v 16) (v 14)) (ld 0 (v 13) (i6 0)) (ld 1 (v 13) (i6 0)) (ld 2 (v 13) (i6 0)) (ld 3 (v 13) (i6 0)),v 20]) [.l (rM "itmo" (nU ah) [10,11,12,13,14,16,20])],
 .n (rR "itmoN" (jd ah) [ld 0 (v 13) (i6 1),ld 1 (v 13) (i6 1),ld 2 (v 13) (i6 1),ld 3 (v 13) (i6 1),pl (v 14) (i6 1),s4 (tk 4 (v 16) (v 14)) (ld 0 (v 13) (i6 0)) (ld 1 (v 13) (i6 0)) (ld 2 (v 13) (i6 0)) (ld 3 (v 13) (i6 0))]) [.l (rM "itmoN" (jd ah) [10,11,12,13,14,16])]]],
 .n (fF (eq (ln1 (v 13)) (i6 2))) [.l (rM "itmoN" (jd ah) [10,11,12,13,14,16])]],
 .n (fF (eq (v 10) (i6 9))) [.n (fT (ne (v 10) (i6 8))) [.l (rM "itmoN" (jd ah) [10,11,12,13,14,16])],
 .n (fF (ne (v 10) (i6 8))) [.l (rP "short" (Abs.dq 4) [16,14]),
 .n (rP "frz" (Abs.eI ah 4) [17,16,14]) [.l (rM "itmo" (nU ah) [10,11,12,13,14,16,17])]]]]]]]]] cQ (aM (Px N) cR) (λ_=>by kernel_rfl) (by
  repeat' (first|exact bB|apply bC|apply cI|refine cJ (aB ?_)|refine cH (aB ?_) ?_)
  all_goals intro E h
  all_goals first|omega|(obtain⟨A, -,h6,i0,i1,t,l,c,f,d,j,k⟩:=h;exact ie d (by omega) A)|(obtain⟨A, -, -,h6,i0,i1,t,l,c,f,d,j,k⟩:=h;obtain⟨a,b,s,e,g0,g1,g2,g3,o,p,g,u,i⟩:=Zr d h6 c f;subst e;rw[Oo]at j k;have:=size_pos (t:=a);refine A ⟨g0,g1,g2,g3,by rw[p];exact rfl,by omega,by omega,b,_,o,i,by rw[p];exact g,by omega,by omega⟩)|(obtain⟨A,⟨-, -, -, -, -,H,F,m,r,w⟩, -, -,h6,i0,i1,t,l,c,f,d,j,k⟩:=h;obtain⟨a,b,s,e,g0,g1,g2,g3,o,p,g,u,i⟩:=Zr d h6 c f;subst e;rw[p]at r;have y:=br o m;have G:=cZ g r;subst y;subst G;exact A ⟨l,a::F,c,d,by simpa using w⟩)|(obtain⟨A,⟨-, -, -, -, -,t1,m,z⟩, -, -,h6,i0,i1,t,l,c,f,d,j,k⟩:=h;obtain⟨a,b,s,e,g0,g1,g2,g3,o,p,g,u,i⟩:=Zr d h6 c f;subst e;have y:=br o m;subst y;refine A ⟨_,c,λl q=>?_⟩;cases l with|nil=>cases q|cons x l=>exact z l (by injection q with _ _ _ q;injection q with _ q;injection q))|(obtain⟨A,⟨-,I⟩,h6,i0,i1,t,l,c,f,d,j,k⟩:=h;obtain⟨a,b,s,e,g0,g1,g2,g3,o,p,g,u,i⟩:=Zr d h6 c f;subst e;exact I (wS c).2)|(obtain⟨A,C,D,i0,i1,t,l,c,f,d,j,k⟩:=h;exact A ⟨t,c,Py (by omega) (by omega) c⟩)|(obtain⟨A,C,D,i0,i1,t,l,c,f,d,j,k⟩:=h;exact eO d A)|(obtain⟨A,B,C,D,i0,i1,t,l,c,f,d,j,k⟩:=h;have e:=it8 (by omega) c f;subst e;exact A ⟨l,[],c,d,by simpa using iB B d⟩)
  )
set_option maxRecDepth 100000 in
set_option maxHeartbeats 4000000 in
theorem a3b:O a6Y:=bE [.n (rP "rep" (vz ah) [8,9,10,11]) [.n (fT (eq (v 8) (i6 9))) [.n (fT (eq (ln1 (v 11)) (i6 2))) [.l (rR "out" Abs.jg [i6 0,ln1 (v 11)]),
 .l (rR "out" Abs.jg [i6 1,ln1 (v 11)]),
 .l (rQ "itmL" (pW ah 20000) [ld 0 (v 11) (i6 1),ld 1 (v 11) (i6 1),ld 2 (v 11) (i6 1),ld 3 (v 11) (i6 1),i6 1,s4 n4 (ld 0 (v 11) (i6 0)) (ld 1 (v 11) (i6 0)) (ld 2 (v 11) (i6 0)) (ld 3 (v 11) (i6 0))]),
 .n (rR "itmo" (nU ah) [ld 0 (v 11) (i6 1),ld 1 (v 11) (i6 1),ld 2 (v 11) (i6 1),ld 3 (v 11) (i6 1),i6 1,s4 n4 (ld 0 (v 11) (i6 0)) (ld 1 (v 11) (i6 0)) (ld 2 (v 11) (i6 0)) (ld 3 (v 11) (i6 0)),v 16]) [.l (rM "itm" (zx ah) [8,9,10,11,16])],
 .n (rR "itmoN" (jd ah) [ld 0 (v 11) (i6 1),ld 1 (v 11) (i6 1),ld 2 (v 11) (i6 1),ld 3 (v 11) (i6 1),i6 1,s4 n4 (ld 0 (v 11) (i6 0)) (ld 1 (v 11) (i6 0)) (ld 2 (v 11) (i6 0)) (ld 3 (v 11) (i6 0))]) [.l (rM "itmN" (nV ah) [8,9,10,11])]],
 .n (fF (eq (ln1 (v 11)) (i6 2))) [.l (rM "itmN" (nV ah) [8,9,10,11])]],
 .n (fF (eq (v 8) (i6 9))) [.n (fT (ne (v 8) (i6 8))) [.l (rM "itmN" (nV ah) [8,9,10,11])],
 .n (fF (ne (v 8) (i6 8))) [.l (rQ "itm" (zx ah) [v 8,v 9,v 10,v 11,ns])]]]] cQ (aM (Px 20000) cR) (λ_=>by kernel_rfl) (by
  repeat' (first|exact bB|apply bC|apply cI|refine cJ (aB ?_)|refine cH (aB ?_) ?_)
  all_goals intro E h
  all_goals first|omega|(obtain⟨A, -,h6,t,c,d,m⟩:=h;obtain⟨a,b,q,e,g0,g1,g2,g3,i,j,o,r,f⟩:=it9 h6 c d;subst e;have B:=gv (Tm.mk 9 0 [] [a,b]);rw[Oo]at B;refine A ⟨g0,g1,g2,g3,by rw[j];exact rfl,by decide,by decide,b,[a],i,f,by rw[j];exact o,by omega,by omega⟩)|(obtain⟨A,⟨-, -, -, -, -,l,C,g,p,s⟩, -,h6,t,c,d,m⟩:=h;obtain⟨a,b,q,e,g0,g1,g2,g3,i,j,o,r,f⟩:=it9 h6 c d;subst e;rw[j]at p;have u:=br i g;have D:=cZ o p;subst u;subst D;exact A ⟨a::C,c,s⟩)|(obtain⟨A,⟨-, -, -, -, -,t1,g,w⟩, -,h6,t,c,d,m⟩:=h;obtain⟨a,b,q,e,g0,g1,g2,g3,i,j,o,r,f⟩:=it9 h6 c d;subst e;have u:=br i g;subst u;refine A ⟨_,c,λl k=>?_⟩;cases l with|nil=>cases k|cons x l=>exact w l (by injection k with _ _ _ k;injection k with _ k;injection k))|(obtain⟨A,⟨-,I⟩,h6,t,c,d,m⟩:=h;obtain⟨a,b,q,e,g0,g1,g2,g3,i,j,o,r,f⟩:=it9 h6 c d;subst e;exact I (wS c).2)|(obtain⟨A,y,z,t,c,d,m⟩:=h;exact A ⟨t,c,Py y z c⟩)|(obtain⟨A,y,z,t,c,d,m⟩:=h;have e:=it8 y c d;subst e;exact A ⟨[],c,iQ⟩)
  )
set_option maxRecDepth 100000 in
set_option maxHeartbeats 4000000 in
theorem Pe:∀N,O (a4m N)
  |0=>hD
  |N+1=>bE [.n (rP "nmdL" (gh (N+1)) [9,10]) [.n (fI (v 10) (pl (ln1 (v 9)) (i6 1))) [.n (fT (lq (ln1 (v 9)) (i6 4200))) [.n (rP "ty" (Abs.bM (.int .i64)) [10]) [.n (rR "ty" (Abs.bM (.int .i64)) [ln1 (v 9)]) [.n (rP "ty" (Abs.bM .str) [9]) [.n (rP "ty" (Abs.bM .str) [9]) [.n (fT (lt (v 10) (ln1 (v 9)))) [.n (fT (ne (ix (v 9) (v 10)) (u8 32))) [.l (rQ "in" Abs.ee [pl (v 10) (i6 1),pl (ln1 (v 9)) (i6 1)]),
 .l (rQ "nmdL" (gh N) [v 9,pl (v 10) (i6 1)]),
 .n (rP "nmd" (eZ ah) [9,11,12]) [.l (rM "nmd" (eZ ah) [9,11,12])],
 .n (rP "nmdN" df [9]) [.l (rM "nmdN" df [9])]],
 .n (fF (ne (ix (v 9) (v 10)) (u8 32))) [.l (rQ "tr" Abs.dk [lq (ln1 (a6 (v 9) (i6 0) (v 10))) (i6 4200)]),
 .n (rR "rd" (Gp ah) [a6 (v 9) (i6 0) (v 10),v 11,v 12,v 13,v 14]) [.l (rQ "tr" Abs.dk [lq (ln1 (a6 (v 9) (pl (v 10) (i6 1)) (ln1 (v 9)))) (i6 4200)]),
 .n (rR "rd" (Gp ah) [a6 (v 9) (pl (v 10) (i6 1)) (ln1 (v 9)),v 16,v 17,v 18,v 19]) [.n (fT (ne (v 11) (i6 2))) [.l (rQ "in" Abs.ee [pl (v 10) (i6 1),pl (ln1 (v 9)) (i6 1)]),
 .l (rQ "nmdL" (gh N) [v 9,pl (v 10) (i6 1)]),
 .n (rP "nmd" (eZ ah) [9,21,22]) [.l (rM "nmd" (eZ ah) [9,21,22])],
 .n (rP "nmdN" df [9]) [.l (rM "nmdN" df [9])]],
 .n (fF (ne (v 11) (i6 2))) [.l (rM "rep" (vz ah) [16,17,18,19]),
 .n (rP "itm" (zx ah) [16,17,18,19,21]) [.l (rM "nmd" (eZ ah) [9,13,21])],
 .n (rP "itmN" (nV ah) [16,17,18,19]) [.l (rQ "in" Abs.ee [pl (v 10) (i6 1),pl (ln1 (v 9)) (i6 1)]),
 .l (rQ "nmdL" (gh N) [v 9,pl (v 10) (i6 1)]),
 .n (rP "nmd" (eZ ah) [9,22,23]) [.l (rM "nmd" (eZ ah) [9,22,23])],
 .n (rP "nmdN" df [9]) [.l (rM "nmdN" df [9])]]]],
 .n (rR "rdN" mw [a6 (v 9) (pl (v 10) (i6 1)) (ln1 (v 9))]) [.l (rQ "in" Abs.ee [pl (v 10) (i6 1),pl (ln1 (v 9)) (i6 1)]),
 .l (rQ "nmdL" (gh N) [v 9,pl (v 10) (i6 1)]),
 .n (rP "nmd" (eZ ah) [9,17,18]) [.l (rM "nmd" (eZ ah) [9,17,18])],
 .n (rP "nmdN" df [9]) [.l (rM "nmdN" df [9])]]],
 .n (rR "rdN" mw [a6 (v 9) (i6 0) (v 10)]) [.l (rQ "tr" Abs.dk [lq (ln1 (a6 (v 9) (pl (v 10) (i6 1)) (ln1 (v 9)))) (i6 4200)]),
 .n (rR "rd" (Gp ah) [a6 (v 9) (pl (v 10) (i6 1)) (ln1 (v 9)),v 12,v 13,v 14,v 15]) [.l (rQ "in" Abs.ee [pl (v 10) (i6 1),pl (ln1 (v 9)) (i6 1)]),
 .l (rQ "nmdL" (gh N) [v 9,pl (v 10) (i6 1)]),
 .n (rP "nmd" (eZ ah) [9,17,18]) [.l (rM "nmd" (eZ ah) [9,17,18])],
 .n (rP "nmdN" df [9]) [.l (rM "nmdN" df [9])]],
 .n (rR "rdN" mw [a6 (v 9) (pl (v 10) (i6 1)) (ln1 (v 9))]) [.l (rQ "in" Abs.ee [pl (v 10) (i6 1),pl (ln1 (v 9)) (i6 1)]),
 .l (rQ "nmdL" (gh N) [v 9,pl (v 10) (i6 1)]),
 .n (rP "nmd" (eZ ah) [9,13,14]) [.l (rM "nmd" (eZ ah) [9,13,14])],
 .n (rP "nmdN" df [9]) [.l (rM "nmdN" df [9])]]]]],
 .n (fF (lt (v 10) (ln1 (v 9)))) [.l (rM "nmdN" df [9])]]]]]]]]] cQ (aM (Pe N) (aM a1e (aM a3b cR))) (λ_=>by kernel_rfl) (by
  repeat' (first|exact bB|apply bC|apply cI|refine cJ (aB ?_)|refine cH (aB ?_) ?_)
  all_goals intro E h
  all_goals first|omega|grind (ematch:=4) (splits:=6) [S7,Ll,Lk,Lj,Li,S6,S8,->hi,->Gf,->a5F,->a5E,->br]
  )
set_option maxRecDepth 100000 in
set_option maxHeartbeats 4000000 in
theorem a2R:O a6R:=bE [.n (fT (lq (ln1 (v 8)) (i6 4200))) [.n (rP "ty" (Abs.bM .str) [8]) [.l (rQ "in" Abs.ee [i6 0,pl (ln1 (v 8)) (i6 1)]),
 .l (rQ "nmdL" (gh 5000) [v 8,i6 0]),
 .n (rP "nmd" (eZ ah) [8,10,11]) [.l (rM "nmd" (eZ ah) [8,10,11])],
 .n (rP "nmdN" df [8]) [.l (rM "nmdN" df [8])]]]] cQ (aM (Pe 5000) cR) (λ_=>by kernel_rfl) (by
  repeat' (first|exact bB|apply bC|apply cI|refine cJ (aB ?_)|refine cH (aB ?_) ?_)
  all_goals intro E h
  all_goals first|omega|grind (ematch:=4) (splits:=6) [a0H]
  )
set_option maxRecDepth 100000 in
set_option maxHeartbeats 4000000 in
theorem a2G:O a6M:=bE [.n (fT (lq (ln1 (v 8)) (i6 4200))) [.n (rP "ty" (Abs.bM .str) [8]) [.n (fT (gt (ln1 (v 8)) (i6 4000))) [.l (rM "prsL" nS [8])],
 .n (fF (gt (ln1 (v 8)) (i6 4000))) [.l (rM "few" Abs.lU [8]),
 .n (rR "cut" Abs.JK [v 8,.str [32],v 10,v 11]) [.n (fT (eq (v 10) (.str [115,112,97,119,110]))) [.l (rQ "tr" Abs.dk [lq (ln1 (v 11)) (i6 4200)]),
 .n (rP "nmd" (eZ ah) [11,15,16]) [.l (rM "prsS" (mK ah) [8,15,16])],
 .n (rP "nmdN" df [11]) [.l (rM "prsB" aR [8])]],
 .n (fF (eq (v 10) (.str [115,112,97,119,110]))) [.n (fT (eq (v 10) (.str [115,116,101,112]))) [.l (rM "few" Abs.lU [11]),
 .n (rP "atoi" Abs.kc [11,15]) [.n (fT (gq (v 15) (i6 0))) [.n (fT (lq (v 15) (i6 1073741824))) [.l (rM "i64" Abs.qR [15]),
 .n (rP "itoa" Abs.kb [15,16]) [.n (fT (eq (v 16) (v 11))) [.l (rQ "prsN" gj [v 8,i6 2,v 15])],
 .n (fF (eq (v 16) (v 11))) [.l (rM "prsB" aR [8])]]],
 .n (fF (lq (v 15) (i6 1073741824))) [.l (rM "prsB" aR [8])]],
 .n (fF (gq (v 15) (i6 0))) [.l (rM "prsB" aR [8])]],
 .n (rP "atoin" Abs.gz [11]) [.l (rM "prsB" aR [8])]],
 .n (fF (eq (v 10) (.str [115,116,101,112]))) [.n (fT (eq (v 10) (.str [115,101,110,100]))) [.l (rM "few" Abs.lU [11]),
 .n (rR "cut" Abs.JK [v 11,.str [32],v 15,v 16]) [.l (rQ "tr" Abs.dk [lq (ln1 (v 16)) (i6 4200)]),
 .n (rP "rd" (Gp ah) [16,17,18,19,20]) [.l (rM "few" Abs.lU [15]),
 .n (rP "atoi" Abs.kc [15,22]) [.n (fT (gq (v 22) (i6 0))) [.n (fT (lq (v 22) (i6 1073741824))) [.l (rM "i64" Abs.qR [22]),
 .n (rP "itoa" Abs.kb [22,23]) [.n (fT (eq (v 23) (v 15))) [.l (rQ "prsT" (kN ah) [v 8,i6 3,v 22,v 17,v 18,v 19,v 20])],
 .n (fF (eq (v 23) (v 15))) [.l (rM "prsB" aR [8])]]],
 .n (fF (lq (v 22) (i6 1073741824))) [.l (rM "prsB" aR [8])]],
 .n (fF (gq (v 22) (i6 0))) [.l (rM "prsB" aR [8])]],
 .n (rP "atoin" Abs.gz [15]) [.l (rM "prsB" aR [8])]],
 .n (rP "rdN" mw [16]) [.l (rM "few" Abs.lU [15]),
 .n (rP "atoi" Abs.kc [15,18]) [.n (fT (gq (v 18) (i6 0))) [.n (fT (lq (v 18) (i6 1073741824))) [.l (rM "i64" Abs.qR [18]),
 .n (rP "itoa" Abs.kb [18,19]) [.n (fT (eq (v 19) (v 15))) [.l (rM "prsB" aR [8])],
 .n (fF (eq (v 19) (v 15))) [.l (rM "prsB" aR [8])]]],
 .n (fF (lq (v 18) (i6 1073741824))) [.l (rM "prsB" aR [8])]],
 .n (fF (gq (v 18) (i6 0))) [.l (rM "prsB" aR [8])]],
 .n (rP "atoin" Abs.gz [15]) [.l (rM "prsB" aR [8])]]],
 .n (rR "cutn" Abs.JL [v 11,.str [32]]) [.l (rM "few" Abs.lU [11]),
 .n (rP "atoi" Abs.kc [11,24]) [.n (fT (gq (v 24) (i6 0))) [.n (fT (lq (v 24) (i6 1073741824))) [.l (rM "i64" Abs.qR [24]),
 .n (rP "itoa" Abs.kb [24,25]) [.n (fT (eq (v 25) (v 11))) [.l (rM "prsB" aR [8])],
 .n (fF (eq (v 25) (v 11))) [.l (rM "prsB" aR [8])]]],
 .n (fF (lq (v 24) (i6 1073741824))) [.l (rM "prsB" aR [8])]],
 .n (fF (gq (v 24) (i6 0))) [.l (rM "prsB" aR [8])]],
 .n (rP "atoin" Abs.gz [11]) [.l (rM "prsB" aR [8])]]],
 .n (fF (eq (v 10) (.str [115,101,110,100]))) [.n (fT (eq (v 10) (.str [101,120,105,116]))) [.l (rM "few" Abs.lU [11]),
 .n (rR "cut" Abs.JK [v 11,.str [32],v 15,v 16]) [.l (rQ "tr" Abs.dk [lq (ln1 (v 16)) (i6 4200)]),
 .n (rP "rd" (Gp ah) [16,17,18,19,20]) [.l (rM "few" Abs.lU [15]),
 .n (rP "atoi" Abs.kc [15,22]) [.n (fT (gq (v 22) (i6 0))) [.n (fT (lq (v 22) (i6 1073741824))) [.l (rM "i64" Abs.qR [22]),
 .n (rP "itoa" Abs.kb [22,23]) [.n (fT (eq (v 23) (v 15))) [.l (rQ "prsT" (kN ah) [v 8,i6 4,v 22,v 17,v 18,v 19,v 20])],
 .n (fF (eq (v 23) (v 15))) [.l (rM "prsB" aR [8])]]],
 .n (fF (lq (v 22) (i6 1073741824))) [.l (rM "prsB" aR [8])]],
 .n (fF (gq (v 22) (i6 0))) [.l (rM "prsB" aR [8])]],
 .n (rP "atoin" Abs.gz [15]) [.l (rM "prsB" aR [8])]],
 .n (rP "rdN" mw [16]) [.l (rM "few" Abs.lU [15]),
 .n (rP "atoi" Abs.kc [15,18]) [.n (fT (gq (v 18) (i6 0))) [.n (fT (lq (v 18) (i6 1073741824))) [.l (rM "i64" Abs.qR [18]),
 .n (rP "itoa" Abs.kb [18,19]) [.n (fT (eq (v 19) (v 15))) [.l (rM "prsB" aR [8])],
 .n (fF (eq (v 19) (v 15))) [.l (rM "prsB" aR [8])]]],
 .n (fF (lq (v 18) (i6 1073741824))) [.l (rM "prsB" aR [8])]],
 .n (fF (gq (v 18) (i6 0))) [.l (rM "prsB" aR [8])]],
 .n (rP "atoin" Abs.gz [15]) [.l (rM "prsB" aR [8])]]],
 .n (rR "cutn" Abs.JL [v 11,.str [32]]) [.l (rM "few" Abs.lU [11]),
 .n (rP "atoi" Abs.kc [11,24]) [.n (fT (gq (v 24) (i6 0))) [.n (fT (lq (v 24) (i6 1073741824))) [.l (rM "i64" Abs.qR [24]),
 .n (rP "itoa" Abs.kb [24,25]) [.n (fT (eq (v 25) (v 11))) [.l (rM "prsB" aR [8])],
 .n (fF (eq (v 25) (v 11))) [.l (rM "prsB" aR [8])]]],
 .n (fF (lq (v 24) (i6 1073741824))) [.l (rM "prsB" aR [8])]],
 .n (fF (gq (v 24) (i6 0))) [.l (rM "prsB" aR [8])]],
 .n (rP "atoin" Abs.gz [11]) [.l (rM "prsB" aR [8])]]],
 .n (fF (eq (v 10) (.str [101,120,105,116]))) [.n (fT (eq (v 10) (.str [99,111,108,108,101,99,116]))) [.l (rM "few" Abs.lU [11]),
 .n (rP "atoi" Abs.kc [11,15]) [.n (fT (gq (v 15) (i6 0))) [.n (fT (lq (v 15) (i6 1073741824))) [.l (rM "i64" Abs.qR [15]),
 .n (rP "itoa" Abs.kb [15,16]) [.n (fT (eq (v 16) (v 11))) [.l (rQ "prsN" gj [v 8,i6 5,v 15])],
 .n (fF (eq (v 16) (v 11))) [.l (rM "prsB" aR [8])]]],
 .n (fF (lq (v 15) (i6 1073741824))) [.l (rM "prsB" aR [8])]],
 .n (fF (gq (v 15) (i6 0))) [.l (rM "prsB" aR [8])]],
 .n (rP "atoin" Abs.gz [11]) [.l (rM "prsB" aR [8])]],
 .n (fF (eq (v 10) (.str [99,111,108,108,101,99,116]))) [.n (fT (eq (v 10) (.str [112,97,115,115]))) [.l (rM "few" Abs.lU [11]),
 .n (rP "atoi" Abs.kc [11,15]) [.n (fT (gq (v 15) (i6 0))) [.n (fT (lq (v 15) (i6 1073741824))) [.l (rM "i64" Abs.qR [15]),
 .n (rP "itoa" Abs.kb [15,16]) [.n (fT (eq (v 16) (v 11))) [.l (rQ "prsN" gj [v 8,i6 6,v 15])],
 .n (fF (eq (v 16) (v 11))) [.l (rM "prsB" aR [8])]]],
 .n (fF (lq (v 15) (i6 1073741824))) [.l (rM "prsB" aR [8])]],
 .n (fF (gq (v 15) (i6 0))) [.l (rM "prsB" aR [8])]],
 .n (rP "atoin" Abs.gz [11]) [.l (rM "prsB" aR [8])]],
 .n (fF (eq (v 10) (.str [112,97,115,115]))) [.n (fT (eq (v 10) (.str [114,111,117,110,100]))) [.l (rM "few" Abs.lU [11]),
 .n (rP "atoi" Abs.kc [11,15]) [.n (fT (gq (v 15) (i6 0))) [.n (fT (lq (v 15) (i6 1073741824))) [.l (rM "i64" Abs.qR [15]),
 .n (rP "itoa" Abs.kb [15,16]) [.n (fT (eq (v 16) (v 11))) [.l (rQ "prsN" gj [v 8,i6 7,v 15])],
 .n (fF (eq (v 16) (v 11))) [.l (rM "prsB" aR [8])]]],
 .n (fF (lq (v 15) (i6 1073741824))) [.l (rM "prsB" aR [8])]],
 .n (fF (gq (v 15) (i6 0))) [.l (rM "prsB" aR [8])]],
 .n (rP "atoin" Abs.gz [11]) [.l (rM "prsB" aR [8])]],
 .n (fF (eq (v 10) (.str [114,111,117,110,100]))) [.n (fT (eq (v 10) (.str [114,117,110]))) [.l (rM "few" Abs.lU [11]),
 .n (rP "atoi" Abs.kc [11,15]) [.n (fT (gq (v 15) (i6 0))) [.n (fT (lq (v 15) (i6 1073741824))) [.l (rM "i64" Abs.qR [15]),
 .n (rP "itoa" Abs.kb [15,16]) [.n (fT (eq (v 16) (v 11))) [.l (rQ "prsN" gj [v 8,i6 8,v 15])],
 .n (fF (eq (v 16) (v 11))) [.l (rM "prsB" aR [8])]]],
 .n (fF (lq (v 15) (i6 1073741824))) [.l (rM "prsB" aR [8])]],
 .n (fF (gq (v 15) (i6 0))) [.l (rM "prsB" aR [8])]],
 .n (rP "atoin" Abs.gz [11]) [.l (rM "prsB" aR [8])]],
 .n (fF (eq (v 10) (.str [114,117,110]))) [.n (fT (eq (v 10) (.str [115,101,116,116,108,101]))) [.l (rM "few" Abs.lU [11]),
 .n (rP "atoi" Abs.kc [11,15]) [.n (fT (gq (v 15) (i6 0))) [.n (fT (lq (v 15) (i6 1073741824))) [.l (rM "i64" Abs.qR [15]),
 .n (rP "itoa" Abs.kb [15,16]) [.n (fT (eq (v 16) (v 11))) [.l (rQ "prsN" gj [v 8,i6 9,v 15])],
 .n (fF (eq (v 16) (v 11))) [.l (rM "prsB" aR [8])]]],
 .n (fF (lq (v 15) (i6 1073741824))) [.l (rM "prsB" aR [8])]],
 .n (fF (gq (v 15) (i6 0))) [.l (rM "prsB" aR [8])]],
 .n (rP "atoin" Abs.gz [11]) [.l (rM "prsB" aR [8])]],
 .n (fF (eq (v 10) (.str [115,101,116,116,108,101]))) [.l (rM "prsM" lJ [8])]]]]]]]]]],
 .n (rR "cutn" Abs.JL [v 8,.str [32]]) [.n (fT (eq (v 8) (.str [115,112,97,119,110]))) [.l (rM "prsB" aR [8])],
 .n (fF (eq (v 8) (.str [115,112,97,119,110]))) [.n (fT (eq (v 8) (.str [115,116,101,112]))) [.l (rM "prsB" aR [8])],
 .n (fF (eq (v 8) (.str [115,116,101,112]))) [.n (fT (eq (v 8) (.str [115,101,110,100]))) [.l (rM "prsB" aR [8])],
 .n (fF (eq (v 8) (.str [115,101,110,100]))) [.n (fT (eq (v 8) (.str [101,120,105,116]))) [.l (rM "prsB" aR [8])],
 .n (fF (eq (v 8) (.str [101,120,105,116]))) [.n (fT (eq (v 8) (.str [99,111,108,108,101,99,116]))) [.l (rM "prsB" aR [8])],
 .n (fF (eq (v 8) (.str [99,111,108,108,101,99,116]))) [.n (fT (eq (v 8) (.str [112,97,115,115]))) [.l (rM "prsB" aR [8])],
 .n (fF (eq (v 8) (.str [112,97,115,115]))) [.n (fT (eq (v 8) (.str [114,111,117,110,100]))) [.l (rM "prsB" aR [8])],
 .n (fF (eq (v 8) (.str [114,111,117,110,100]))) [.n (fT (eq (v 8) (.str [114,117,110]))) [.l (rM "prsB" aR [8])],
 .n (fF (eq (v 8) (.str [114,117,110]))) [.n (fT (eq (v 8) (.str [115,101,116,116,108,101]))) [.l (rM "prsB" aR [8])],
 .n (fF (eq (v 8) (.str [115,101,116,116,108,101]))) [.l (rM "prsM" lJ [8])]]]]]]]]]]]]]] (u7 a1q (u7 Hg (u7 Hf cQ))) (aM a2R (aM a1e cR)) (λ_=>by kernel_rfl) (by
  repeat' (first|exact bB|apply bC|apply cI|refine cJ (aB ?_)|refine cH (aB ?_) ?_)
  all_goals intro E h
  all_goals first|omega|(obtain⟨A,I⟩:=h;revert I;simp only[aT,aU];intros;have b:=‹Lib.cut (gs E 8) [32]=_›;have e:=aO b;have d:=‹¬(4000:Int)<_›;(first|have a:=‹Lib.cut (gs E 11) [32]=_›;have c:=aO a|skip);exact A (by omega))|(obtain⟨A,I⟩:=h;revert I;simp only[aT,aU];intros;have b:=‹Lib.cut (gs E 8) [32]=_›;have e:=aO b;have d:=‹¬(4000:Int)<_›;(first|have a:=‹Lib.cut (gs E 11) [32]=_›;have c:=aO a|skip);exact A (pb d b (by rw[‹gs E 10=_::_›];decide) (.inr (.inl ⟨(by rw[‹gs E 10=_::_›];decide),(by assumption)⟩))))|(obtain⟨A,I⟩:=h;revert I;simp only[aT,aU];intros;have b:=‹Lib.cut (gs E 8) [32]=_›;have e:=aO b;have d:=‹¬(4000:Int)<_›;(first|have a:=‹Lib.cut (gs E 11) [32]=_›;have c:=aO a|skip);exact A (pb d b (by rw[‹gs E 10=_::_›];decide) (.inr (.inr (.inl ⟨(by rw[‹gs E 10=_::_›];decide),nt1 a⟩)))))|(obtain⟨A,I⟩:=h;revert I;simp only[aT,aU];intros;have b:=‹Lib.cut (gs E 8) [32]=_›;have e:=aO b;have d:=‹¬(4000:Int)<_›;(first|have a:=‹Lib.cut (gs E 11) [32]=_›;have c:=aO a|skip);exact A (pb d b (by rw[‹gs E 10=_::_›];decide) (.inr (.inr (.inl ⟨(by rw[‹gs E 10=_::_›];decide),nt3 a (by assumption)⟩)))))|(obtain⟨A,I⟩:=h;revert I;simp only[aT,aU];intros;have b:=‹Lib.cut (gs E 8) [32]=_›;have e:=aO b;have d:=‹¬(4000:Int)<_›;(first|have a:=‹Lib.cut (gs E 11) [32]=_›;have c:=aO a|skip);exact A (pb d b (by rw[‹gs E 10=_::_›];decide) (.inr (.inr (.inl ⟨(by rw[‹gs E 10=_::_›];decide),nt2 a (pN1 (by assumption) (by assumption) (by assumption))⟩)))))|(obtain⟨A,I⟩:=h;revert I;simp only[aT,aU];intros;have b:=‹Lib.cut (gs E 8) [32]=_›;have e:=aO b;have d:=‹¬(4000:Int)<_›;(first|have a:=‹Lib.cut (gs E 11) [32]=_›;have c:=aO a|skip);exact A (pb d b (by rw[‹gs E 10=_::_›];decide) (.inr (.inr (.inl ⟨(by rw[‹gs E 10=_::_›];decide),nt2 a (pN2 (by assumption) (by assumption))⟩)))))|(obtain⟨A,I⟩:=h;revert I;simp only[aT,aU];intros;have b:=‹Lib.cut (gs E 8) [32]=_›;have e:=aO b;have d:=‹¬(4000:Int)<_›;(first|have a:=‹Lib.cut (gs E 11) [32]=_›;have c:=aO a|skip);exact A (pb d b (by rw[‹gs E 10=_::_›];decide) (.inr (.inr (.inl ⟨(by rw[‹gs E 10=_::_›];decide),nt2 a (pN3 (by assumption) (by assumption))⟩)))))|(obtain⟨A,I⟩:=h;revert I;simp only[aT,aU];intros;have b:=‹Lib.cut (gs E 8) [32]=_›;have e:=aO b;have d:=‹¬(4000:Int)<_›;(first|have a:=‹Lib.cut (gs E 11) [32]=_›;have c:=aO a|skip);exact A (pb d b (by rw[‹gs E 10=_::_›];decide) (.inr (.inr (.inl ⟨(by rw[‹gs E 10=_::_›];decide),nt2 a (pN4 (by assumption))⟩)))))|(obtain⟨A,I⟩:=h;revert I;simp only[aT,aU];intros;have b:=‹Lib.cut (gs E 8) [32]=_›;have e:=aO b;have d:=‹¬(4000:Int)<_›;(first|have a:=‹Lib.cut (gs E 11) [32]=_›;have c:=aO a|skip);exact A (pb d b (by rw[‹gs E 10=_::_›];decide) (.inr (.inr (.inr ⟨(by rw[‹gs E 10=_::_›];decide),(by rw[‹gs E 10=_::_›];decide),(by rw[‹gs E 10=_::_›];decide),(pN1 (by assumption) (by assumption) (by assumption))⟩)))))|(obtain⟨A,I⟩:=h;revert I;simp only[aT,aU];intros;have b:=‹Lib.cut (gs E 8) [32]=_›;have e:=aO b;have d:=‹¬(4000:Int)<_›;(first|have a:=‹Lib.cut (gs E 11) [32]=_›;have c:=aO a|skip);exact A (pb d b (by rw[‹gs E 10=_::_›];decide) (.inr (.inr (.inr ⟨(by rw[‹gs E 10=_::_›];decide),(by rw[‹gs E 10=_::_›];decide),(by rw[‹gs E 10=_::_›];decide),(pN2 (by assumption) (by assumption))⟩)))))|(obtain⟨A,I⟩:=h;revert I;simp only[aT,aU];intros;have b:=‹Lib.cut (gs E 8) [32]=_›;have e:=aO b;have d:=‹¬(4000:Int)<_›;(first|have a:=‹Lib.cut (gs E 11) [32]=_›;have c:=aO a|skip);exact A (pb d b (by rw[‹gs E 10=_::_›];decide) (.inr (.inr (.inr ⟨(by rw[‹gs E 10=_::_›];decide),(by rw[‹gs E 10=_::_›];decide),(by rw[‹gs E 10=_::_›];decide),(pN3 (by assumption) (by assumption))⟩)))))|(obtain⟨A,I⟩:=h;revert I;simp only[aT,aU];intros;have b:=‹Lib.cut (gs E 8) [32]=_›;have e:=aO b;have d:=‹¬(4000:Int)<_›;(first|have a:=‹Lib.cut (gs E 11) [32]=_›;have c:=aO a|skip);exact A (pb d b (by rw[‹gs E 10=_::_›];decide) (.inr (.inr (.inr ⟨(by rw[‹gs E 10=_::_›];decide),(by rw[‹gs E 10=_::_›];decide),(by rw[‹gs E 10=_::_›];decide),(pN4 (by assumption))⟩)))))|(obtain⟨A,I⟩:=h;revert I;simp only[aT,aU];intros;have b:=‹Lib.cut (gs E 8) [32]=_›;have e:=aO b;have d:=‹¬(4000:Int)<_›;(first|have a:=‹Lib.cut (gs E 11) [32]=_›;have c:=aO a|skip);exact A (pn d b (by rw[‹gs E 10=_::_›];decide) (py (by assumption) (by assumption) (by assumption) (by assumption))))|(obtain⟨A,I⟩:=h;revert I;simp only[aT,aU];intros;have b:=‹Lib.cut (gs E 8) [32]=_›;have e:=aO b;have d:=‹¬(4000:Int)<_›;(first|have a:=‹Lib.cut (gs E 11) [32]=_›;have c:=aO a|skip);exact A (pt d b (by rw[‹gs E 10=_::_›];decide) a (py (by assumption) (by assumption) (by assumption) (by assumption)) ⟨_,by assumption,by assumption⟩))|(obtain⟨A,I⟩:=h;revert I;simp only[aT,aU];intros;have b:=‹Lib.cut (gs E 8) [32]=_›;have e:=aO b;have d:=‹¬(4000:Int)<_›;(first|have a:=‹Lib.cut (gs E 11) [32]=_›;have c:=aO a|skip);exact A (ps d b (by rw[‹gs E 10=_::_›];decide) ⟨_,by assumption,by assumption⟩))|(obtain⟨A,I⟩:=h;revert I;simp only[aT,aU];intros;have b:=‹Lib.cut (gs E 8) [32]=_›;have e:=aO b;have d:=‹¬(4000:Int)<_›;(first|have a:=‹Lib.cut (gs E 11) [32]=_›;have c:=aO a|skip);exact A (lw0 (by simp only[n7,bQ,eE,er];grind) d b))|(obtain⟨A,I⟩:=h;revert I;simp only[aT,aU];intros;have b:=‹Lib.cut (gs E 8) [32]=_›;have e:=aO b;have d:=‹¬(4000:Int)<_›;(first|have a:=‹Lib.cut (gs E 11) [32]=_›;have c:=aO a|skip);exact A (pb d b (by rw[‹gs E 8=_::_›];decide) (.inl rfl)))
  )
end Go.Proofs.YtokipodjggomfaaGreatDoor
