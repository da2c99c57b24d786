/- A part of the proof of ScriptParses: K2. Conditions: those of each theorem. -/
import Derived.Test.YtokipodjggomfaaGreatDoorScrK1
set_option linter.unusedVariables false
set_option linter.unusedSimpArgs false
set_option linter.unusedSimpArgs false
set_option linter.unusedVariables false
namespace Go.Proofs.YtokipodjggomfaaGreatDoor
open Go Go.Proofs.YtokipodjggomfaaGreatDoor.Txt
set_option maxRecDepth 100000 in
set_option maxHeartbeats 4000000 in
theorem Qk:∀N,O (a4s N)
  |0=>hD
  |N+1=>bE [.n (rP "cquL" (mE (N+1)) [11,13,12,16,14]) [.n (fT (lq (v 13) (v 12))) [.n (fI (v 13) (pl (ln1 (v 11)) (i6 1))) [.n (fI (v 12) (pl (ln1 (v 11)) (i6 1))) [.n (fT (lq (ln1 (v 11)) (i6 4200))) [.n (rP "ty" (Abs.bM .str) [11]) [.n (rP "ty" (Abs.bM (.int .i64)) [12]) [.n (rP "ty" (Abs.bM (.int .i64)) [13]) [.n (fT (gq (v 12) (ln1 (v 11)))) [.l (rM "qqN" gl [11,13])],
 .n (fF (gq (v 12) (ln1 (v 11)))) [.n (fT (eq (ix (v 11) (v 12)) (u8 39))) [.l (rP "short" (Abs.dq 1) [16,14]),
 .n (fT (gt (ln1 (.a1 .bs (tk 1 (v 16) (v 14)))) (i6 64))) [.l (rM "qqN" gl [11,13])],
 .n (fF (gt (ln1 (.a1 .bs (tk 1 (v 16) (v 14)))) (i6 64))) [.l (rQ "tr" Abs.dk [lq (ln1 (.a1 .bs (tk 1 (v 16) (v 14)))) (i6 4200)]),
 .n (rR "pln" jM [.a1 .bs (tk 1 (v 16) (v 14))]) [.l (rM "qqN" gl [11,13])],
 .n (rR "plnN" dL [.a1 .bs (tk 1 (v 16) (v 14))]) [.l (rQ "tr" Abs.dk [lq (ln1 (.a1 .bs (tk 1 (v 16) (v 14)))) (i6 4200)]),
 .n (rR "quo" hO [.a1 .bs (tk 1 (v 16) (v 14)),v 17]) [.n (fT (ne (v 17) (a6 (v 11) (v 13) (pl (v 12) (i6 1))))) [.l (rM "qqN" gl [11,13])],
 .n (fF (ne (v 17) (a6 (v 11) (v 13) (pl (v 12) (i6 1))))) [.l (rQ "qq" kE [v 11,v 13,pl (v 12) (i6 1),.a1 .bs (tk 1 (v 16) (v 14))]),
 .l (rQ "in" Abs.ee [pl (v 12) (i6 1),pl (ln1 (v 11)) (i6 1)])]]]]],
 .n (fF (eq (ix (v 11) (v 12)) (u8 39))) [.n (fT (ne (ix (v 11) (v 12)) (u8 92))) [.l (rP "grow" (Abs.eL 1 1 1) [16,14]),
 .n (fI (v 14) (pl (v 14) (i6 1))) [.l (rQ "in" Abs.ee [pl (v 12) (i6 1),pl (ln1 (v 11)) (i6 1)]),
 .l (rQ "tr" Abs.dk [lq (v 13) (pl (v 12) (i6 1))]),
 .l (rQ "cquL" (mE N) [v 11,v 13,pl (v 12) (i6 1),sn (tk 1 (v 16) (v 14)) (ix (v 11) (v 12)),pl (v 14) (i6 1)]),
 .n (fI (v 21) (pl (ln1 (v 11)) (i6 1))) [.n (rP "qq" kE [11,13,21,20]) [.l (rM "qq" kE [11,13,21,20])]],
 .n (rP "qqN" gl [11,13]) [.l (rM "qqN" gl [11,13])]]],
 .n (fF (ne (ix (v 11) (v 12)) (u8 92))) [.l (rQ "in" Abs.ee [pl (v 12) (i6 1),pl (ln1 (v 11)) (i6 1)]),
 .n (fI (v 17) (pl (ln1 (v 11)) (i6 1))) [.n (rR "is" gm [v 11,pl (v 12) (i6 1),.str [39],v 17]) [.l (rP "grow" (Abs.eL 1 1 1) [16,14]),
 .n (fI (v 14) (pl (v 14) (i6 1))) [.l (rQ "tr" Abs.dk [lq (v 13) (v 17)]),
 .l (rQ "cquL" (mE N) [v 11,v 13,v 17,sn (tk 1 (v 16) (v 14)) (u8 39),pl (v 14) (i6 1)]),
 .n (fI (v 22) (pl (ln1 (v 11)) (i6 1))) [.n (rP "qq" kE [11,13,22,21]) [.l (rM "qq" kE [11,13,22,21])]],
 .n (rP "qqN" gl [11,13]) [.l (rM "qqN" gl [11,13])]]]],
 .n (rR "isN" cj [v 11,pl (v 12) (i6 1),.str [39]]) [.l (rQ "in" Abs.ee [pl (v 12) (i6 1),pl (ln1 (v 11)) (i6 1)]),
 .n (fI (v 17) (pl (ln1 (v 11)) (i6 1))) [.n (rR "is" gm [v 11,pl (v 12) (i6 1),.str [92],v 17]) [.l (rP "grow" (Abs.eL 1 1 1) [16,14]),
 .n (fI (v 14) (pl (v 14) (i6 1))) [.l (rQ "tr" Abs.dk [lq (v 13) (v 17)]),
 .l (rQ "cquL" (mE N) [v 11,v 13,v 17,sn (tk 1 (v 16) (v 14)) (u8 92),pl (v 14) (i6 1)]),
 .n (fI (v 22) (pl (ln1 (v 11)) (i6 1))) [.n (rP "qq" kE [11,13,22,21]) [.l (rM "qq" kE [11,13,22,21])]],
 .n (rP "qqN" gl [11,13]) [.l (rM "qqN" gl [11,13])]]]],
 .n (rR "isN" cj [v 11,pl (v 12) (i6 1),.str [92]]) [.l (rQ "in" Abs.ee [pl (v 12) (i6 1),pl (ln1 (v 11)) (i6 1)]),
 .n (fI (v 17) (pl (ln1 (v 11)) (i6 1))) [.n (rR "is" gm [v 11,pl (v 12) (i6 1),.str [120],v 17]) [.n (fT (gt (pl (v 17) (i6 2)) (ln1 (v 11)))) [.l (rM "qqN" gl [11,13])],
 .n (fF (gt (pl (v 17) (i6 2)) (ln1 (v 11)))) [.n (rR "idx" Abs.Et [.str [48,49,50,51,52,53,54,55,56,57,97,98,99,100,101,102],ix (v 11) (v 17),v 18]) [.n (rR "idx" Abs.Et [.str [48,49,50,51,52,53,54,55,56,57,97,98,99,100,101,102],ix (v 11) (pl (v 17) (i6 1)),v 19]) [.n (fT (lt (v 18) (i6 0))) [.l (rM "qqN" gl [11,13])],
 .n (fF (lt (v 18) (i6 0))) [.n (fT (lt (v 19) (i6 0))) [.l (rM "qqN" gl [11,13])],
 .n (fF (lt (v 19) (i6 0))) [.l (rP "grow" (Abs.eL 1 1 1) [16,14]),
 .n (fI (v 14) (pl (v 14) (i6 1))) [.l (rQ "in" Abs.ee [pl (v 17) (i6 2),pl (ln1 (v 11)) (i6 1)]),
 .l (rQ "tr" Abs.dk [lq (v 13) (pl (v 17) (i6 2))]),
 .l (rQ "cquL" (mE N) [v 11,v 13,pl (v 17) (i6 2),sn (tk 1 (v 16) (v 14)) (.a1 (.conv .u8) (.a2 (.bin .or) (.a2 (.bin .shl) (v 18) (.int .u64 4)) (v 19))),pl (v 14) (i6 1)]),
 .n (fI (v 24) (pl (ln1 (v 11)) (i6 1))) [.n (rP "qq" kE [11,13,24,23]) [.l (rM "qq" kE [11,13,24,23])]],
 .n (rP "qqN" gl [11,13]) [.l (rM "qqN" gl [11,13])]]]]]]]]],
 .n (rR "isN" cj [v 11,pl (v 12) (i6 1),.str [120]]) [.l (rM "qqN" gl [11,13])]]]]]]]]]]]]]]] (u7 VK cQ) (aM (Qk N) (aM rf (aM L4 (aM Gh cR)))) (λ_=>by kernel_rfl) (by
  repeat' (first|exact bB|apply bC|apply cI|refine cJ (aB ?_)|refine cH (aB ?_) ?_)
  all_goals intro E h
  all_goals first|omega|(have e2:=lF (l:=gc E 16) (i:=gi E 14) (by omega);(try simp only[e2]at h);have q:ek (gs E 11) (gi E 13).toNat (gi E 12).toNat (gc E 16):=(by simp only[<-ft]at h;exact h.1.1.1.2);obtain⟨A,I⟩:=h;exact A I.1)|(have e2:=lF (l:=gc E 16) (i:=gi E 14) (by omega);(try simp only[e2]at h);have q:ek (gs E 11) (gi E 13).toNat (gi E 12).toNat (gc E 16):=(by simp only[<-ft]at h;exact h.1.1.1.2);obtain⟨A,I⟩:=h;exact A (Tk q (by omega)))|(have e2:=lF (l:=gc E 16) (i:=gi E 14) (by omega);(try simp only[e2]at h);have q:ek (gs E 11) (gi E 13).toNat (gi E 12).toNat (gc E 16):=(by simp only[<-ft]at h;exact h.1.1.1.2);obtain⟨A,I⟩:=h;exact A (NK q (by omega) (by omega) (by omega) (.inr (.inl (by omega)))))|(have e2:=lF (l:=gc E 16) (i:=gi E 14) (by omega);(try simp only[e2]at h);have q:ek (gs E 11) (gi E 13).toNat (gi E 12).toNat (gc E 16):=(by simp only[<-ft]at h;exact h.1.1.1.2);obtain⟨A,I⟩:=h;exact A (NK q (by omega) (by omega) (by omega) (.inl I.1.2)))|(have e2:=lF (l:=gc E 16) (i:=gi E 14) (by omega);(try simp only[e2]at h);have q:ek (gs E 11) (gi E 13).toNat (gi E 12).toNat (gc E 16):=(by simp only[<-ft]at h;exact h.1.1.1.2);obtain⟨A,I⟩:=h;obtain⟨b,⟨-,f⟩,I⟩:=I;exact A (NK q (by omega) (by omega) (by omega) (.inr (.inr (by rw[<-f];exact b)))))|(have e2:=lF (l:=gc E 16) (i:=gi E 14) (by omega);(try simp only[e2]at h);have q:ek (gs E 11) (gi E 13).toNat (gi E 12).toNat (gc E 16):=(by simp only[<-ft]at h;exact h.1.1.1.2);obtain⟨A,I⟩:=h;obtain⟨b,⟨-,f⟩,⟨-,g⟩,I⟩:=I;exact A ⟨⟨by omega,by omega⟩,a0S q (by omega) (by omega) (by omega) (by omega) (by omega) g (by rw[<-f];exact b)⟩)|(have e2:=lF (l:=gc E 16) (i:=gi E 14) (by omega);(try simp only[e2]at h);have q:ek (gs E 11) (gi E 13).toNat (gi E 12).toNat (gc E 16):=(by simp only[<-ft]at h;exact h.1.1.1.2);obtain⟨A,I⟩:=h;exact A ⟨⟨⟨by omega,by omega⟩,by omega,by omega⟩,by omega,a0T q (by omega) (by omega) (by omega) (by omega),by omega,by omega,by omega⟩)|(have e2:=lF (l:=gc E 16) (i:=gi E 14) (by omega);(try simp only[e2]at h);have q:ek (gs E 11) (gi E 13).toNat (gi E 12).toNat (gc E 16):=(by simp only[<-ft]at h;exact h.1.1.1.2);obtain⟨A,I⟩:=h;exact A ⟨⟨by omega,by omega⟩,by omega,NM q (by omega) (by omega) (by omega) (.inl rfl) I.2.1,by omega,by omega,by omega⟩)|(have e2:=lF (l:=gc E 16) (i:=gi E 14) (by omega);(try simp only[e2]at h);have q:ek (gs E 11) (gi E 13).toNat (gi E 12).toNat (gc E 16):=(by simp only[<-ft]at h;exact h.1.1.1.2);obtain⟨A,I⟩:=h;exact A ⟨⟨by omega,by omega⟩,by omega,NM q (by omega) (by omega) (by omega) (.inr rfl) I.2.1,by omega,by omega,by omega⟩)|(have e2:=lF (l:=gc E 16) (i:=gi E 14) (by omega);(try simp only[e2]at h);have q:ek (gs E 11) (gi E 13).toNat (gi E 12).toNat (gc E 16):=(by simp only[<-ft]at h;exact h.1.1.1.2);obtain⟨A,I⟩:=h;exact A (a0Q q (by omega) (by omega) (by omega) I.2.1 (by omega)))|(have e2:=lF (l:=gc E 16) (i:=gi E 14) (by omega);(try simp only[e2]at h);have q:ek (gs E 11) (gi E 13).toNat (gi E 12).toNat (gc E 16):=(by simp only[<-ft]at h;exact h.1.1.1.2);obtain⟨A,I⟩:=h;obtain⟨b,⟨-,c⟩,⟨-,d⟩,e,a,I⟩:=I;exact A (NL q (by omega) (by omega) (by omega) a e d c (by omega)))|(have e2:=lF (l:=gc E 16) (i:=gi E 14) (by omega);(try simp only[e2]at h);have q:ek (gs E 11) (gi E 13).toNat (gi E 12).toNat (gc E 16):=(by simp only[<-ft]at h;exact h.1.1.1.2);obtain⟨A,I⟩:=h;obtain⟨b,j,⟨-,c⟩,⟨-,d⟩,e,a,I⟩:=I;exact A (NL q (by omega) (by omega) (by omega) a e d c (by omega)))|(have e2:=lF (l:=gc E 16) (i:=gi E 14) (by omega);(try simp only[e2]at h);have q:ek (gs E 11) (gi E 13).toNat (gi E 12).toNat (gc E 16):=(by simp only[<-ft]at h;exact h.1.1.1.2);obtain⟨A,I⟩:=h;obtain⟨-,k,Y,⟨-,c⟩,⟨-,d⟩,e,a,I⟩:=I;exact A ⟨⟨by omega,by omega⟩,by omega,a0R q (by omega) (by omega) (by omega) a e d c Y k,by omega,by omega,by omega⟩)|(have e2:=lF (l:=gc E 16) (i:=gi E 14) (by omega);(try simp only[e2]at h);have q:ek (gs E 11) (gi E 13).toNat (gi E 12).toNat (gc E 16):=(by simp only[<-ft]at h;exact h.1.1.1.2);obtain⟨A,I⟩:=h;obtain⟨a,m,o,I⟩:=I;exact A (Tj q (by omega) (by omega) (by omega) o m a))
  )
set_option maxRecDepth 100000 in
set_option maxHeartbeats 4000000 in
theorem a3F:O a62:=bE [.n (fT (lq (mi (v 10) (i6 1)) (v 10))) [.n (fI (mi (v 10) (i6 1)) (pl (ln1 (v 9)) (i6 1))) [.n (fI (v 10) (pl (ln1 (v 9)) (i6 1))) [.n (fT (lq (ln1 (v 9)) (i6 4200))) [.n (rP "ty" (Abs.bM .str) [9]) [.n (rP "ty" (Abs.bM (.int .i64)) [10]) [.n (fT (gq (v 10) (ln1 (v 9)))) [.l (rQ "qqN" gl [v 9,mi (v 10) (i6 1)])],
 .n (fF (gq (v 10) (ln1 (v 9)))) [.n (fT (eq (ix (v 9) (v 10)) (u8 39))) [.n (fT (ne (.str [39,39]) (a6 (v 9) (mi (v 10) (i6 1)) (pl (v 10) (i6 1))))) [.l (rQ "qqN" gl [v 9,mi (v 10) (i6 1)])],
 .n (fF (ne (.str [39,39]) (a6 (v 9) (mi (v 10) (i6 1)) (pl (v 10) (i6 1))))) [.l (rQ "qq" kE [v 9,mi (v 10) (i6 1),pl (v 10) (i6 1),.str []]),
 .l (rQ "in" Abs.ee [pl (v 10) (i6 1),pl (ln1 (v 9)) (i6 1)])]],
 .n (fF (eq (ix (v 9) (v 10)) (u8 39))) [.n (fT (ne (ix (v 9) (v 10)) (u8 92))) [.l (rQ "in" Abs.ee [pl (v 10) (i6 1),pl (ln1 (v 9)) (i6 1)]),
 .l (rQ "tr" Abs.dk [lq (mi (v 10) (i6 1)) (pl (v 10) (i6 1))]),
 .l (rQ "cquL" (mE 5000) [v 9,mi (v 10) (i6 1),pl (v 10) (i6 1),sn (.a1 (.nl [(.int .u8)]) (.bool true)) (ix (v 9) (v 10)),i6 1]),
 .n (fI (v 16) (pl (ln1 (v 9)) (i6 1))) [.n (rR "qq" kE [v 9,mi (v 10) (i6 1),v 16,v 15]) [.l (rQ "qq" kE [v 9,mi (v 10) (i6 1),v 16,v 15])]],
 .n (rR "qqN" gl [v 9,mi (v 10) (i6 1)]) [.l (rQ "qqN" gl [v 9,mi (v 10) (i6 1)])]],
 .n (fF (ne (ix (v 9) (v 10)) (u8 92))) [.l (rQ "in" Abs.ee [pl (v 10) (i6 1),pl (ln1 (v 9)) (i6 1)]),
 .n (fI (v 12) (pl (ln1 (v 9)) (i6 1))) [.n (rR "is" gm [v 9,pl (v 10) (i6 1),.str [39],v 12]) [.l (rQ "tr" Abs.dk [lq (mi (v 10) (i6 1)) (v 12)]),
 .l (rQ "cquL" (mE 5000) [v 9,mi (v 10) (i6 1),v 12,sn (.a1 (.nl [(.int .u8)]) (.bool true)) (u8 39),i6 1]),
 .n (fI (v 17) (pl (ln1 (v 9)) (i6 1))) [.n (rR "qq" kE [v 9,mi (v 10) (i6 1),v 17,v 16]) [.l (rQ "qq" kE [v 9,mi (v 10) (i6 1),v 17,v 16])]],
 .n (rR "qqN" gl [v 9,mi (v 10) (i6 1)]) [.l (rQ "qqN" gl [v 9,mi (v 10) (i6 1)])]]],
 .n (rR "isN" cj [v 9,pl (v 10) (i6 1),.str [39]]) [.l (rQ "in" Abs.ee [pl (v 10) (i6 1),pl (ln1 (v 9)) (i6 1)]),
 .n (fI (v 12) (pl (ln1 (v 9)) (i6 1))) [.n (rR "is" gm [v 9,pl (v 10) (i6 1),.str [92],v 12]) [.l (rQ "tr" Abs.dk [lq (mi (v 10) (i6 1)) (v 12)]),
 .l (rQ "cquL" (mE 5000) [v 9,mi (v 10) (i6 1),v 12,sn (.a1 (.nl [(.int .u8)]) (.bool true)) (u8 92),i6 1]),
 .n (fI (v 17) (pl (ln1 (v 9)) (i6 1))) [.n (rR "qq" kE [v 9,mi (v 10) (i6 1),v 17,v 16]) [.l (rQ "qq" kE [v 9,mi (v 10) (i6 1),v 17,v 16])]],
 .n (rR "qqN" gl [v 9,mi (v 10) (i6 1)]) [.l (rQ "qqN" gl [v 9,mi (v 10) (i6 1)])]]],
 .n (rR "isN" cj [v 9,pl (v 10) (i6 1),.str [92]]) [.l (rQ "in" Abs.ee [pl (v 10) (i6 1),pl (ln1 (v 9)) (i6 1)]),
 .n (fI (v 12) (pl (ln1 (v 9)) (i6 1))) [.n (rR "is" gm [v 9,pl (v 10) (i6 1),.str [120],v 12]) [.n (fT (gt (pl (v 12) (i6 2)) (ln1 (v 9)))) [.l (rQ "qqN" gl [v 9,mi (v 10) (i6 1)])],
 .n (fF (gt (pl (v 12) (i6 2)) (ln1 (v 9)))) [.n (rR "idx" Abs.Et [.str [48,49,50,51,52,53,54,55,56,57,97,98,99,100,101,102],ix (v 9) (v 12),v 13]) [.n (rR "idx" Abs.Et [.str [48,49,50,51,52,53,54,55,56,57,97,98,99,100,101,102],ix (v 9) (pl (v 12) (i6 1)),v 14]) [.n (fT (lt (v 13) (i6 0))) [.l (rQ "qqN" gl [v 9,mi (v 10) (i6 1)])],
 .n (fF (lt (v 13) (i6 0))) [.n (fT (lt (v 14) (i6 0))) [.l (rQ "qqN" gl [v 9,mi (v 10) (i6 1)])],
 .n (fF (lt (v 14) (i6 0))) [.l (rQ "in" Abs.ee [pl (v 12) (i6 2),pl (ln1 (v 9)) (i6 1)]),
 .l (rQ "tr" Abs.dk [lq (mi (v 10) (i6 1)) (pl (v 12) (i6 2))]),
 .l (rQ "cquL" (mE 5000) [v 9,mi (v 10) (i6 1),pl (v 12) (i6 2),sn (.a1 (.nl [(.int .u8)]) (.bool true)) (.a1 (.conv .u8) (.a2 (.bin .or) (.a2 (.bin .shl) (v 13) (.int .u64 4)) (v 14))),i6 1]),
 .n (fI (v 19) (pl (ln1 (v 9)) (i6 1))) [.n (rR "qq" kE [v 9,mi (v 10) (i6 1),v 19,v 18]) [.l (rQ "qq" kE [v 9,mi (v 10) (i6 1),v 19,v 18])]],
 .n (rR "qqN" gl [v 9,mi (v 10) (i6 1)]) [.l (rQ "qqN" gl [v 9,mi (v 10) (i6 1)])]]]]]]]],
 .n (rR "isN" cj [v 9,pl (v 10) (i6 1),.str [120]]) [.l (rQ "qqN" gl [v 9,mi (v 10) (i6 1)])]]]]]]]]]]]]] (u7 VK cQ) (aM (Qk 5000) (aM rf (aM L4 (aM Gh cR)))) (λ_=>by kernel_rfl) (by
  repeat' (first|exact bB|apply bC|apply cI|refine cJ (aB ?_)|refine cH (aB ?_) ?_)
  all_goals intro E h
  all_goals first|omega|(have q:=kv (S:=gs E 9) (p:=gi E 10) (by omega) (by omega);obtain⟨A,I⟩:=h;exact A I.1)|(have q:=kv (S:=gs E 9) (p:=gi E 10) (by omega) (by omega);obtain⟨A,I⟩:=h;exact A (Tk q (by omega)))|(have q:=kv (S:=gs E 9) (p:=gi E 10) (by omega) (by omega);obtain⟨A,I⟩:=h;exact A (NK q (by omega) (by omega) (by omega) (.inr (.inr (by rw[An];exact I.1)))))|(have q:=kv (S:=gs E 9) (p:=gi E 10) (by omega) (by omega);obtain⟨A,I⟩:=h;exact A (a0S q (by omega) (by omega) (by omega) (by omega) (by decide) rfl (by rw[An];exact I.1)))|(have q:=kv (S:=gs E 9) (p:=gi E 10) (by omega) (by omega);obtain⟨A,I⟩:=h;exact A ⟨⟨by omega,by omega⟩,by omega,a0T q (by omega) (by omega) (by omega) (by omega),by omega,by omega⟩)|(have q:=kv (S:=gs E 9) (p:=gi E 10) (by omega) (by omega);obtain⟨A,I⟩:=h;exact A ⟨by omega,NM q (by omega) (by omega) (by omega) (.inl rfl) I.1,by omega,by omega⟩)|(have q:=kv (S:=gs E 9) (p:=gi E 10) (by omega) (by omega);obtain⟨A,I⟩:=h;exact A ⟨by omega,NM q (by omega) (by omega) (by omega) (.inr rfl) I.1,by omega,by omega⟩)|(have q:=kv (S:=gs E 9) (p:=gi E 10) (by omega) (by omega);obtain⟨A,I⟩:=h;exact A (a0Q q (by omega) (by omega) (by omega) I.2.1 (by omega)))|(have q:=kv (S:=gs E 9) (p:=gi E 10) (by omega) (by omega);obtain⟨A,I⟩:=h;obtain⟨e,⟨-,b⟩,⟨-,c⟩,d,a,I⟩:=I;exact A (NL q (by omega) (by omega) (by omega) a d c b (by omega)))|(have q:=kv (S:=gs E 9) (p:=gi E 10) (by omega) (by omega);obtain⟨A,I⟩:=h;obtain⟨e,f,⟨-,b⟩,⟨-,c⟩,d,a,I⟩:=I;exact A (NL q (by omega) (by omega) (by omega) a d c b (by omega)))|(have q:=kv (S:=gs E 9) (p:=gi E 10) (by omega) (by omega);obtain⟨A,I⟩:=h;obtain⟨g,Y,⟨-,b⟩,⟨-,c⟩,d,a,I⟩:=I;exact A ⟨by omega,a0R q (by omega) (by omega) (by omega) a d c b Y g,by omega,by omega⟩)|(have q:=kv (S:=gs E 9) (p:=gi E 10) (by omega) (by omega);obtain⟨A,I⟩:=h;obtain⟨a,i,j,I⟩:=I;exact A (Tj q (by omega) (by omega) (by omega) j i a))
  )
set_option maxRecDepth 100000 in
set_option maxHeartbeats 4000000 in
theorem G3:∀N,O (a4n N)
  |0=>hD
  |N+1=>bE [.n (rP "mklL" (vC ah (N+1)) [14,16,13,21,22,23,24]) [.n (rP "ty" (Abs.bM (.int .i64)) [21]) [.n (rP "ty" (Abs.bM (.int .i64)) [22]) [.n (rP "ty" (Abs.bM .str) [23]) [.n (rP "ty" (Abs.bM (.sl ah)) [24]) [.n (rP "ty" (Abs.bM (.int .i64)) [13]) [.n (fT (gq (v 13) (i6 0))) [.l (rP "out" Abs.jg [13,14]),
 .l (rP "hole" (Abs.BX 4) [16,13]),
 .n (rR "frz" (Abs.eI ah 4) [v 27,s4 (s4 n4 (.a2 (.at 4 0) (v 16) (v 13)) (.a2 (.at 4 1) (v 16) (v 13)) (.a2 (.at 4 2) (v 16) (v 13)) (.a2 (.at 4 3) (v 16) (v 13))) (v 21) (v 22) (v 23) (v 24),i6 2]) [.l (rQ "mklL" (vC ah N) [v 14,v 16,mi (v 13) (i6 1),i6 9,i6 0,.str [],v 27]),
 .n (rR "mklo" (s5 ah) [v 16,mi (v 13) (i6 1),i6 9,i6 0,.str [],v 27,v 28,v 29,v 30,v 31]) [.l (rM "mklo" (s5 ah) [16,13,21,22,23,24,28,29,30,31])]]],
 .n (fF (gq (v 13) (i6 0))) [.l (rM "mklo" (s5 ah) [16,13,21,22,23,24,21,22,23,24])]]]]]]]] cQ (aM (G3 N) cR) (λ_=>by kernel_rfl) (by
  repeat' (first|exact bB|apply bC|apply cI|refine cJ (aB ?_)|refine cH (aB ?_) ?_)
  all_goals intro E h
  all_goals first|omega|grind (ematch:=4) (splits:=6) [jF,a44,a0W,->cZ,->br]
  )
set_option maxRecDepth 100000 in
set_option maxHeartbeats 4000000 in
theorem Vs:O a6U:=bE [.n (rP "mklM" (Lr ah) [9,11,12,13,14,15]) [.l (rQ "mklL" (vC ah 20000) [v 9,v 11,mi (v 9) (i6 1),v 12,v 13,v 14,v 15]),
 .n (rR "mklo" (s5 ah) [v 11,mi (v 9) (i6 1),v 12,v 13,v 14,v 15,v 21,v 22,v 23,v 24]) [.l (rM "mkl" (L3 ah) [9,11,12,13,14,15,21,22,23,24])]]] cQ (aM (G3 20000) cR) (λ_=>by kernel_rfl) (by
  repeat' (first|exact bB|apply bC|apply cI|refine cJ (aB ?_)|refine cH (aB ?_) ?_)
  all_goals intro E h
  all_goals grind (ematch:=4) (splits:=6) [T5,->cZ,->br]
  )
set_option maxRecDepth 100000 in
set_option maxHeartbeats 4000000 in
theorem a2S:O a6S:=bE [.n (fI (v 12) (pl (ln1 (v 11)) (i6 1))) [.n (fT (lq (ln1 (v 11)) (i6 4200))) [.n (rP "ty" (Abs.bM .str) [11]) [.n (rP "ty" (Abs.bM (.int .i64)) [12]) [.n (rP "ty" (Abs.bM .str) [10]) [.n (rP "ty" (Abs.bM (.int .i64)) [9]) [.n (fI (v 15) (pl (ln1 (v 11)) (i6 1))) [.n (rR "num" dE [v 11,v 12,i6 0,i6 1073741824,v 15,v 14]) [.n (fI (v 17) (pl (ln1 (v 11)) (i6 1))) [.n (rP "is" gm [11,15,10,17]) [.l (rM "nmb" Gq [11,12,10,17,14])]],
 .n (rP "isN" cj [11,15,10]) [.l (rM "nmbN" s3 [11,12,10])]]],
 .n (rR "numN" bu [v 11,v 12,i6 0,i6 1073741824]) [.l (rM "nmbN" s3 [11,12,10])]]]]]]]] cQ (aM ya (aM rf cR)) (λ_=>by kernel_rfl) (by
  repeat' (first|exact bB|apply bC|apply cI|refine cJ (aB ?_)|refine cH (aB ?_) ?_)
  all_goals intro E h
  all_goals grind (ematch:=4) (splits:=6) [a0U,NT,NS,mN,mI,mA]
  )
end Go.Proofs.YtokipodjggomfaaGreatDoor
