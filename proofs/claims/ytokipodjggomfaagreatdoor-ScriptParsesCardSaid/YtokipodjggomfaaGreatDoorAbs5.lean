/- Part 5 of an abstract machine that evaluates programs of the model in the kernel, and of the proofs that its run is the model's. Conditions: those of each theorem. -/
import Derived.Test.YtokipodjggomfaaGreatDoorAbs4
import Derived.Lib.Bytealg
noncomputable section
set_option linter.unusedVariables false
set_option linter.unusedSimpArgs false
namespace Go.Proofs.YtokipodjggomfaaGreatDoor.Abs
open Go
section
variable{C:Ctx}{base:Nat}{E:G}{s:S}{w:World}{nt:Nat}{t:Tr AV}{a:Act}
theorem qN{P:Program}{ay:Nat}:∀(l:List AV)(b:List Value),ax E l=some b->
  (pM l).path (λbs=>∀(acc:List UInt8)(o:Nat),(∀(j:Nat)v,b[j]? =some v->w.cell? ⟨ay,o+j,none⟩=some v)->
    (loadBytes ⟨ay,o,none⟩ (ByteArray.mk ⟨acc⟩) l.length).run P w=.ok (ByteArray.mk ⟨acc++bs⟩) w)
 | [],b,h=>by
   intro acc o _;simp[loadBytes]
 |v::l,b,h=>by
  obtain⟨c,d,g,e,rfl⟩:=av.1 h;cases v with
  |int k n=>
   cases k with
   |u8=>
    cases n with
    |ofNat n=>
     simp only[ag,ar]at g;subst g;refine R.bh _ (qN (P:=P) (ay:=ay) l d e) λbs f=>?_
     intro acc o a;have i:w.cell? ⟨ay,o,none⟩=some (.int .u8 (.ofNat n)):=by simpa using a 0 _ (by simp)
     simp only[bZ,loadBytes,aA,run_load];rw[i];simp only[aP,AQ,addr_add];have:=f (acc++[UInt8.ofNat n]) (o+1) (λj v m=>by
      have:=a (j+1) v (by simpa using m);rw[show o+1+j=o+(j+1) by omega];exact this)
     rw[show acc++UInt8.ofNat n::bs=acc++[UInt8.ofNat n]++bs by simp];exact this
    |negSucc n=>trivial
   |_=>trivial
  |_=>trivial
theorem Step.freeze (q:Rel C base E s w) {b:Nat} {e:TypeId} {cs:Tr AV} {k fz M2:Nat} {fh:List Nat} {F:Loc} (n:s.h.get b=some (.cells e cs k fz fh false false)) (g:E b=some F)
  {vs:Array Value} {lo V SU K:Nat} (ho:w.heap[F.ay]? =some (.cells vs e (lo,V))) (r:SU<=K) (R:K<=F.dl+M2) {M:World}
  (t:M.heap=w.heap.setIfInBounds F.ay (.cells vs e (SU,K))) (S:M.tape=w.tape) (B:M.os=w.os) (u:M.output=w.output):
  Step C base E s w E ⟨s.h.set b (.cells e cs k M2 fh false false),s.next,s.pc⟩ M:=by
 have D:F.ay<w.heap.size:=by grind
 obtain⟨O,o,p,z,U,X,hi1,G,g1,g2,g3,g4,glh⟩:=q.ay b _ n;rw[g]at p;obtain rfl:=ae p;rw[ho]at z;obtain rfl:=ae z;cases G;have c:∀i x li,i≠b->(s.h.set b (.cells e cs k M2 fh false false)).get i=some x->E i=some li->li.ay=F.ay->
   ∃H j k' M2 f m,x=.cells H j k' M2 f true m/\i∈fh/\li.dl+k'<=F.dl+k:=by
  intro i x li V Y a d;rw[Tr.get_set_other _ _ (cm V)]at Y;rcases q.sep i b x _ li F Y n a g V d with h|h
  .cases x<;>simp[fg]at h
  .cases x<;>simp only[fg]at h;obtain⟨A,I,W⟩:=h;subst I;exact⟨_,_,_,_,_,_,rfl,A,W⟩
 refine Step.of ⟨Grow.refl E,?_,⟨by rw[t];simp,S,B,u,?_⟩,?_,aX _,λ_ _ h=>q.lt h,λ_ l h=>.inl ⟨l,h⟩,λid x A _=>by
  simp only[Tr.bm]at A;split at A
  .next h=>subst h;exact⟨_,n⟩
  .exact⟨x,A⟩⟩
 .refine q.xV (N:=.cells e cs k M2 fh false false) (T:=.cells vs e (SU,K)) n g g ⟨rfl,rfl,rfl⟩ rfl (λ_ _=>rfl) ?_ (Tr.get_set_same _ _ _) ?_ ?_ (by rw[t];simp)
    ⟨vs,SU,K,rfl,g1,g2,g3,λ_ off A I=>.inl (by omega),r⟩ ?_ ?_
  .grind[Tr.get_set_other]
  .intro k Z;rw[t];simp[cm Z]
  .rw[t];simp[D]
  .intro i x li V Y a d;obtain⟨H,j,k',v,f,m,rfl,_,y⟩:=c i x li V Y a d;rw[Tr.get_set_other _ _ (cm V)]at Y;obtain⟨l2,o2,L,P,vs2,lo2,hi2,rfl,f1,f2,f3,f4,flh⟩:=q.ay i _ Y;rw[a]at L;obtain rfl:=ae L;rw[d,ho]at P;cases P;exact⟨vs,SU,K,rfl,f1,f2,f3,(λh=>by cases h),r⟩
  .intro i x li V Y a d;obtain⟨H,j,k',v,f,m,rfl,hm,y⟩:=c i x li V Y a d;exact⟨hm,rfl,y⟩
 .intro k o Z hn;have:k≠F.ay:=λh=>hn ⟨b,_,F,n,rfl,g,h.symm⟩
  rw[t];simp[cm this,Z]
 .rintro k ⟨id,x,l,p,z,J,Q⟩ _;simp only[Tr.bm]at p;split at p
  .next h=>subst h;exact⟨_,_,F,n,rfl,g,by rw[g]at J;obtain rfl:=ae J;exact Q⟩
  .exact⟨id,x,l,p,z,J,Q⟩
theorem IC{p n:AV}{b:Nat}{e:SE}(h:FC p n=some (b,e)):∃g,p=.gS b (.int .i64 (.ofNat 0)) g 0/\n=.bS (.int .i64) e:=by
 unfold FC at h;split at h
 .rename_i N i g k;cases k with
  |succ k=>cases h
  |zero=>
   simp only at h;cases V:b5 i (.int .i64 (.ofNat 0))with
   |false=>rw[V]at h;cases h
   |true=>
    rw[V]at h;have V:=aK V;subst V;simp only at h;split at h
    .rename_i q c;cases a:ny q (.int .i64)with
     |false=>rw[a]at h;cases h
     |true=>rw[a]at h;simp only[ar,bK]at h;obtain⟨rfl,rfl⟩:=h;exact⟨g,rfl,by rw[iH a]⟩
    .cases h
 .cases h
theorem qy{P:Program}{ay:Nat}{w:World}:∀(l:List Dt)(acc:List UInt8)(o:Nat),(∀d∈l,∃n,d=.val (.int .u8 n))->(∀(j:Nat)d,l[j]? =some d->w.cell? ⟨ay,o+j,none⟩=some d.v)->
  ∃bs,jq l=some bs/\(loadBytes ⟨ay,o,none⟩ (ByteArray.mk ⟨acc⟩) l.length).run P w=.ok (ByteArray.mk ⟨acc++bs⟩) w
 | [],acc,o,_,_=>⟨[],rfl,by simp[loadBytes]⟩
 |d::l,acc,o,h,a=>by
  obtain⟨n,rfl⟩:=h d aV;obtain⟨bs,A,I⟩:=qy l (acc++[UInt8.ofNat n.toNat]) (o+1) (λx Y=>h x (bk _ Y)) λj d b=>by
   have:=a (j+1) d (by simpa using b)
   rwa [show o+(j+1)=o+1+j by omega]at this
  refine⟨UInt8.ofNat n.toNat::bs,by simp only[jq,A,bX],?_⟩;have c:w.cell? ⟨ay,o,none⟩=some (.int .u8 n):=a 0 _ rfl;simp only[bZ,loadBytes,aA,run_load];rw[c];simp only[aP,AQ,addr_add];rw[show acc++UInt8.ofNat n.toNat::bs=acc++[UInt8.ofNat n.toNat]++bs by simp];exact I
theorem RP(hC:Good C)(q:Rel C base E s w){ty u rt:TypeId}{rest:List TypeId}(X:C.P.underlying ty=some (.pointer u)){b g:Nat}{e:SE}{cp cn:Value}
  (a:ag E (.gS b (.int .i64 (.ofNat 0)) g 0)=some cp) (Y:ag E (.bS (.int .i64) e)=some cn):
  (LD C s u b e).path (dM C base E s w ((VS (Builtin.unsafeString_ ⟨ty::rest⟩ rt ⟨[cp,cn]⟩)).run C.P w)):=by
 obtain⟨d,Z,⟨m,rfl⟩,rfl⟩:=c7 Y;simp only[ag,aj,aW,bW]at a;obtain⟨F,hl,a⟩:=a;have a:(if 0<F.cp then some (Value.pointer (some ⟨F.ay,F.dl+(0*g+0),none⟩))else none)=some cp:=a;split at a
 case isFalse=>cases a
 obtain rfl:=ae a;unfold LD;cases hb:s.h.get b with
 |none=>trivial
 |some x0=>
  cases x0 with
  |vec el v=>
   obtain⟨O,o,q1,q2,vs,lo,V,J,rfl,g1,g2,⟨i',g3,g4,g5,g6,g7⟩,g8,g9⟩:=q.ay b _ hb;rw[hl]at q1;obtain rfl:=ae q1;refine R.bh _ (bY hC el) λi K=>?_
   refine R.bh _ (R.aI _ _) λ_ hg=>?_
   simp only[aw]at hg;obtain⟨e1',e2',e3'⟩:=hg;rw[K.1]at g3;obtain rfl:=ae g3;have r:i.size=1:=aL e1';have hks:=dF e2';refine R.ew q λhn=>?_
   have hbd:0<m/\m.toNat<=J.length/\m<=1099511627776:=by
    rcases na (0<m/\m.toNat<=J.length/\m<=1099511627776)with h|h
    .exact h
    .exact absurd ⟨_,_,_,rfl,h⟩ (h4 hn (vU g1 Z))
   obtain⟨k,rfl⟩:=et (show 0<=m by omega);have hk0:0<k:=by omega
   have hk1:k<=J.length:=by simpa using hbd.2.1
   have x:aj E (.a2 (.tk 1) v e)=some (.ls (aq C el) (J.take k)):=by grind[aj,e2,aq]
   have z:∀d∈J.take k,∃n,d=.val (.int .u8 n):=by intro d X;obtain⟨j,G⟩:=zW X;have l:=eh q.rd _ _ x;have:=(Dt.bG.get (show Dt.bG C w _ (aq C el) 0 (J.take k)from l) G).1;rw[hks]at this;obtain⟨kd,H,hf⟩:=this;simp only[bZ,dv,du,rI,cr,ar]at H;subst H;exact hf
   have htl:(J.take k).length=k:=by rw[cG];omega
   obtain⟨bs,hbs,c⟩:=qy (P:=C.P) (w:=w) (ay:=F.ay) (J.take k) [] F.dl z λj d G=>by
    rw[qk]at G;split at G
    .grind[World.cell?]
    .cases G
   rw[htl]at c;have Kr:F.ay<w.heap.size:=cw.lt q hb hl;have hat:w.heap[F.ay]=.cells vs el (lo,V):=by grind
   have hsh:w.shape? F.ay=some (el,vs.size):=by simp[World.shape?,q2]
   have hcs:=uX (II hC K.1);have p:liesAt C.P C.P.depth el (vs.size/C.P.cellsOf el) F.dl u k=true:=by
    have L:C.P.depth=(2*(C.P.types.size+Made.depth)+1)+1:=rfl;have key:∀D,rowAt C.P (λt=>sameLayout C.P C.P.depth t u) (D+1) el (vs.size/C.P.cellsOf el) F.dl k=true:=by intro D;unfold rowAt;rw[hcs,r];rw[ai (by decide)];simp only[rI,Nat.div_one,fW,aw,nc];refine .inl ⟨⟨rfl,?_⟩,e3'⟩;have:=g5;have:=g6;rw[r,ve]at *;omega
    rw[L];unfold liesAt;rw[fW];left;have kk:=key (2*(C.P.types.size+Made.depth)+1);rw[<-L]at kk;exact kk
   obtain⟨f1,f2,N,hfr⟩:∃f1 f2,f1<=f2/\w.freeze ⟨F.ay,F.dl,none⟩ k={ w with heap:=w.heap.setIfInBounds F.ay (.cells vs el (f1,f2)) }:=by
    refine⟨(if lo==V then(F.dl,F.dl+k)else(min lo F.dl,max V (F.dl+k))).1,(if lo==V then(F.dl,F.dl+k)else(min lo F.dl,max V (F.dl+k))).2,?_,?_⟩
    .split
     .simp only;omega
     .simp only;omega
    .unfold World.freeze;rw[ai (by omega)];congr 1;apply vx;intro j;simp only[Ft,qm];by_cases Q:F.ay=j
     .subst Q;simp[hat,Kr]
     .simp[Q]
   have S:=Step.move q hb hl (y:=.cells el .nil 0 0 [] true false) (T:=.cells vs el (f1,f2)) (M:=w.freeze ⟨F.ay,F.dl,none⟩ k) hfr (λB _=>by
    refine⟨vs,f1,f2,rfl,?_,λi v V=>absurd V (rS _),⟨i,K.1,j0 _,g6,g7⟩,(λh=>by cases h),N⟩;show F.dl+0<=vs.size;omega)
   have st2:=Step.del S.rel s.next;have U:=S.trans st2;refine⟨_,.string ⟨⟨bs⟩⟩,_,?_,dn (d:=.val (.string ⟨⟨bs⟩⟩)) (a7 U.grow _ _ (show aj E (.a1 .bs (.a2 (.tk 1) v e))=_ from by
    show((aj E (.a2 (.tk 1) v e)).bind (e1 .bs))=_;rw[x];simp only[aW,e1,hbs,bX])) ⟨_,rfl⟩ rfl,U⟩
   have A:¬((k:Int)<0):=by omega
   have I:¬((k:Int)>IntKind.i64.max):=by
    have:IntKind.i64.max=9223372036854775807:=by decide
    rw[this];omega
   have W:¬((k:Int)=0):=by omega
   have hel:(elemOf ty).run C.P w=.ok u w:=by unfold elemOf;rw[aG X];rfl
   have hva:(variablesAt ⟨F.ay,F.dl,none⟩ u k).run C.P w=.ok true w:=by simp only[variablesAt,aA,iV,aP,run_shape,hsh,aY,p]
   have f:(loadBytes ⟨F.ay,F.dl,none⟩ .empty k).run C.P w=.ok ⟨⟨bs⟩⟩ w:=c;rw[show F.dl+(0*g+0)=F.dl by omega];have e:Builtin.unsafeString_ ⟨ty::rest⟩ rt ⟨[.pointer (some ⟨F.ay,F.dl,none⟩),.int .i64 (k:Int)]⟩=(Go.asInt (.int .i64 (k:Int))>>=_):=rfl;simp only[VS,Dt.v];rw[e];simp only[aA,I7,aP,jJ,cr,A,I,W,aQ,hel];have htn:(k:Int).toNat=k:=by simp
   simp only[htn,hva,aP,aH,aA,f,run_freeze,aY]
  |_=>trivial
theorem RO(L:Good C)(N:Rel C base E s w)(argTypes:List TypeId)(args:List AV)(a:List Value)(t:ax E args=some a)(rt:TypeId):
  (Dc C s argTypes args).path (dM C base E s w ((VS (Builtin.unsafeString_ ⟨argTypes⟩ rt ⟨a⟩)).run C.P w)):=by
 unfold Dc;split
 case h_2=>trivial
 rename_i p n ty rest;obtain⟨cp,cl1,c,g1,rfl⟩:=av.1 t;obtain⟨cn,cl2,y,g2,rfl⟩:=av.1 g1;simp only[ax,ar]at g2;subst g2;cases Q:FC p n with
 |some x=>
  obtain⟨b,e⟩:=x;obtain⟨g,rfl,rfl⟩:=IC Q;refine R.bh _ (bw L ty) λd S=>?_
  cases d with
  |pointer u=>exact RP L N S c y
  |_=>trivial
 |none=>
 simp only;refine R.bh _ (lS n) λm hm=>?_
 obtain⟨kk,rfl⟩:=hm;simp only[ag,ar]at y;subst y;cases m with
 |zero=>exact R.aJ _ _
 |succ m=>
  cases p with
  |ptr b off=>
   simp only[ag,aN]at c;obtain⟨F,hl,c⟩:=c;refine R.bh _ (bw L ty) λd S=>?_
   cases d with
   |pointer u=>
    show(Ua C s u b off (m+1)).path _;unfold Ua;cases hb:s.h.get b with
    |none=>trivial
    |some q=>
     cases q with
     |cells e cs k fz fh st sg=>
      cases st with
      |true=>trivial
      |false=>
       cases sg with
       |true=>trivial
       |false=>
        refine R.bh _ (R.aI _ _) λ_ hg=>?_
        simp only[aw]at hg;obtain⟨⟨T,U⟩,X⟩:=hg;have Z:off+(m+1)<=k:=bn T;have hm:m+1<=1099511627776:=bn X;obtain⟨O,o,q1,Y,vs,lo,V,hoo,g1,g2,⟨i,g3,g4,g5,qd,g7⟩,g6,glh⟩:=N.ay b _ hb;rw[hl]at q1;obtain rfl:=ae q1;subst hoo;refine R.bh _ (hV g2 (m+1) off Z) λl hl'=>?_
        obtain⟨cl,o1,o2,o3⟩:=hl';refine R.bh _ (qN (P:=C.P) (w:=w) (ay:=F.ay) l cl o1) λbs hbs=>?_
        have f:=hbs [] (F.dl+off) (λj v hj=>by
         have:=o3 j v hj;simp only[World.cell?,Y];simpa using this)
        rw[o2]at f;have D:=uX (II L g3);have G:0<i.size:=by grind
        have z:liesAt C.P C.P.depth e (vs.size/C.P.cellsOf e) (F.dl+off) u (m+1)=true:=by have hdp:C.P.depth=(2*(C.P.types.size+Made.depth)+1)+1:=rfl;rw[hdp];unfold liesAt;rw[fW];left;refine Bu C.P _ e C.P.depth (k/C.P.cellsOf e) _ off _ (m+1) qd (by rw[D,g7]) ?_ U;rw[D];have:(k+qd*i.size)/i.size<=vs.size/i.size:=Fq (by omega);rw[Fs _ _ G]at this;omega
        have hsh:w.shape? F.ay=some (e,vs.size):=by simp[World.shape?,Y]
        have H:∃SU K,SU<=K/\K<=F.dl+max fz (off+(m+1))/\(w.freeze ⟨F.ay,F.dl+off,none⟩ (m+1)).heap=w.heap.setIfInBounds F.ay (.cells vs e (SU,K)):=by
         have Kr:F.ay<w.heap.size:=by grind
         have hat:w.heap[F.ay]=.cells vs e (lo,V):=by grind
         refine⟨(if lo==V then(F.dl+off,F.dl+off+(m+1))else(min lo (F.dl+off),max V (F.dl+off+(m+1)))).1,(if lo==V then(F.dl+off,F.dl+off+(m+1))else(min lo (F.dl+off),max V (F.dl+off+(m+1)))).2,?_,?_,?_⟩
         .split
          .simp only;omega
          .simp only;omega
         .split
          .simp only;omega
          .next Hv=>
           have a8A:lo≠V:=by simpa using Hv
           rcases g6 rfl (V-1) (by omega) (by omega)with h|⟨h,_⟩
           .simp only;omega
           .cases h
         .unfold World.freeze;rw[ai (by omega)];apply vx;intro j;simp only[Ft,qm];by_cases J:F.ay=j
          .subst J;simp[hat,Kr]
          .simp[J]
        obtain⟨SU,K,hf1,hf2,hf3⟩:=H;have B:=Step.freeze N hb hl Y (SU:=SU) (K:=K) (M2:=max fz (off+(m+1))) hf1 hf2 (M:=w.freeze ⟨F.ay,F.dl+off,none⟩ (m+1)) hf3
         (by unfold World.freeze;rw[ai (by omega)]) (by unfold World.freeze;rw[ai (by omega)]) (by unfold World.freeze;rw[ai (by omega)])
        refine⟨E,.string ⟨⟨bs⟩⟩,w.freeze ⟨F.ay,F.dl+off,none⟩ (m+1),?_,rfl,B⟩;rw[<-c];have A:¬((Int.ofNat (m+1))<0):=by simp only[cq];omega
        have I:¬(Int.ofNat (m+1)>IntKind.i64.max):=by
         have:IntKind.i64.max=9223372036854775807:=by decide
         rw[this];simp only[cq];omega
        have W:¬(Int.ofNat (m+1)=0):=by simp only[cq];omega
        have hel:(elemOf ty).run C.P w=.ok u w:=by unfold elemOf;rw[aG S];rfl
        have hva:(variablesAt ⟨F.ay,F.dl+off,none⟩ u (m+1)).run C.P w=.ok true w:=by simp only[variablesAt,aA,iV,aP,run_shape,hsh,aY,z]
        have r:(loadBytes ⟨F.ay,F.dl+off,none⟩ .empty (m+1)).run C.P w=.ok ⟨⟨bs⟩⟩ w:=f;have e:Builtin.unsafeString_ ⟨ty::rest⟩ rt ⟨[.pointer (some ⟨F.ay,F.dl+off,none⟩),.int kk (.ofNat (m+1))]⟩=(Go.asInt (.int kk (.ofNat (m+1)))>>=_):=rfl;simp only[VS];rw[e];simp only[aA,I7,aP,jJ,cr,A,I,W,aQ,hel];have htn:(Int.ofNat (m+1)).toNat=m+1:=rfl;simp only[htn,hva,aP,aH,aA,r,run_freeze,aY]
     |_=>trivial
   |_=>trivial
  |_=>trivial
end
end Go.Proofs.YtokipodjggomfaaGreatDoor.Abs
namespace Go.Proofs.YtokipodjggomfaaGreatDoor.Abs
open Go
section
variable{C:Ctx}{base:Nat}{E:G}{s:S}{w:World}{nt:Nat}{t:Tr AV}{a:Act}
theorem Bs{f:FuncId}{fn:Func}{e:Array Value->Sem Value}(A:C.P.funcs[f]? =some fn)(I:fn.body=none)(W:(fn.name== "runtime.NumGoroutine")=false)(D:Extern.findNext fn=none)
  (h5:Extern.find fn=some e) (args:Array Value):(callFunc f args).run C.P w=(VS (e args)).run C.P w:=by
 have a:fn.name≠ "runtime.NumGoroutine":=by simpa using W
 simp[callFunc,A,I,a,D,h5,VS]
theorem a2i(b:UInt8)(c:Nat)(d:c<256):(b==(Int.ofNat c).toNat.toUInt8)=Nat.beq b.toNat c:=by
 have A:(Int.ofNat c).toNat=c:=rfl;rw[A];have I:c.toUInt8.toNat=c:=by simp[Nat.toUInt8,UInt8.toNat_ofNat'];omega
 cases a:Nat.beq b.toNat c with
 |true=>have:=aL a;have:b=c.toUInt8:=fX.1 (by rw[I];exact this);rw[this];simp
 |false=>apply beq_eq_false_iff_ne.2;intro h;rw[h,I]at a;simp at a
theorem y8(c:Nat)(d:c<256):∀(l:List UInt8)(k:Nat),xh c l k=if Go.Lib.indexByte l (Int.ofNat c).toNat.toUInt8== -1 then -1 else(k:Int)+Go.Lib.indexByte l (Int.ofNat c).toNat.toUInt8
 | [],k=>rfl
 |b::l,k=>by
  show(match Nat.beq b.toNat c with|true=>Int.ofNat k|false=>xh c l (k+1))=_;unfold Go.Lib.indexByte;rw[a2i b c d];cases e:Nat.beq b.toNat c with
  |true=>simp
  |false=>
   simp only[dY,aQ];rw[y8 c d l (k+1)];have a:=Go.Lib.indexByte_ge l (Int.ofNat c).toNat.toUInt8;generalize Go.Lib.indexByte l (Int.ofNat c).toNat.toUInt8=m at a;by_cases h:m= -1
   .subst h;rfl
   .grind
theorem JC(v:AV)(a:Value)(b:ag E v=some a):(QN v).path (λc=>c<256/\a=.int .u8 (.ofNat c)):=by
 cases v with
 |int k n=>
  cases n with
  |negSucc n=>trivial
  |ofNat n=>
   cases k with
   |u8=>
    simp only[ag,ar]at b;show(match Nat.blt n 256 with|true=>R.ok n|false=>R.bad _).path _;cases d:Nat.blt n 256 with
    |true=>exact⟨bn d,b.symm⟩
    |false=>trivial
   |_=>trivial
 |_=>trivial
theorem o4(v:AV)(a:Value)(b:ag E v=some a):(bytesOf v).path (λl=>a=.string ⟨⟨l⟩⟩):=by
 cases v with
 |str l=>simp only[ag,ar]at b;exact b.symm
 |_=>trivial
theorem RT(q:Good C)(k:Rel C base E s w)(fn:Func)(e:Ext)(args:List AV)(a:List Value)(b:ax E args=some a):
  (pB C s fn e args).path (dM C base E s w ((VS (Wd fn e ⟨a⟩)).run C.P w)):=by
 cases e with
 |index g=>trivial
 |wP=>
  simp only[pB];split
  case h_2=>trivial
  rename_i x;obtain⟨f,m,d,A,rfl⟩:=av.1 b;simp only[ax,ar]at A;subst A;exact dV k (c:=f) rfl d
 |indexByte=>
  simp only[pB];split
  case h_2=>trivial
  rename_i x c;obtain⟨f,m,d,A,rfl⟩:=av.1 b;obtain⟨n,o,i,I,rfl⟩:=av.1 A;simp only[ax,ar]at I;subst I;refine R.bh _ (o4 x f d) λl p=>?_
  refine R.bh _ (JC c n i) λc j=>?_
  obtain⟨j,rfl⟩:=j;subst p;refine dV k (Go.Lib.run_indexByteString ⟨⟨l⟩⟩ (.ofNat c) w) ?_;simp only[ag,ar,iS,fw];rw[y8 c j l 0];split
  .next h=>exact(eq_of_beq h).symm
  .simp
end
end Go.Proofs.YtokipodjggomfaaGreatDoor.Abs
namespace Go.Proofs.YtokipodjggomfaaGreatDoor.Abs
open Go
section
variable{C:Ctx}{base:Nat}{E:G}{s:S}{w:World}{nt:Nat}{t:Tr AV}{a:Act}
theorem Ve(h:Good C)(k:Rel C base E s w)(f:FuncId)(args:List AV)(a:List Value)(c:ax E args=some a):
  (WW C s f args).path (dM C base E s w ((callFunc f ⟨a⟩).run C.P w)):=by
 unfold WW;cases l:C.F.get f with
 |none=>trivial
 |some fn=>
  have d:=xf h l;cases i:fn.body with
  |some b=>
   simp only[i];have m:=h.a5X f fn d (by rw[i];rfl);have j:fn.name≠ "runtime.NumGoroutine":=by simpa using m
   refine⟨E,a,w,?_,c,Step.refl k⟩;simp[callFunc,d,j,i]
  |none=>
   simp only[i];cases n:rp f C.X with
   |none=>trivial
   |some e=>
    have Y:=h.ext f e n;cases e with
    |index g=>exact R.aJ _ _
    |_=>obtain⟨o,g1,g2,g3,g4,g5⟩:=Y;rw[d]at g1;obtain rfl:=ae g1;rw[Bs d g2 g3 g4 g5];exact RT h k fn _ args a c
theorem uy(p:Good C)(q:Rel C base E s w)(f:AV)(o:Value)(e:ag E f=some o)(args:List AV)(a:List Value)(b:ax E args=some a):
  (sE C s f args).path (dM C base E s w ((do let d <-Deferred.ofValue o ⟨a⟩;invoke d.target d.args:Sem Next).run C.P w)):=by
 cases f with
 |fn g first cap=>
  simp only[ag]at e;cases k:ji g with
  |false=>simp[k]at e
  |true=>
   cases Y:ax E first with
   |none=>simp[k,Y]at e
   |some h=>
    cases n:ax E cap with
    |none=>simp[k,Y,n]at e
    |some m=>
     simp only[k,Y,n,ar]at e;subst e;have c:(do let d <-Deferred.ofValue (.func g ⟨h⟩ ⟨m⟩) ⟨a⟩;invoke d.target d.args:Sem Next).run C.P w=(invoke (.fn g ⟨m⟩) (⟨h⟩++⟨a⟩)).run C.P w:=by simp[Deferred.ofValue]
     rw[c];have i:=dI Y b;have j:((⟨h⟩:Array Value)++⟨a⟩)=⟨h++a⟩:=by simp
     rw[j];unfold sE;cases g with
     |func g=>
      have:(invoke (.fn (.func g) ⟨m⟩) ⟨h++a⟩).run C.P w=(callFunc g ⟨h++a++m⟩).run C.P w:=by simp[invoke]
      rw[this];exact Ve p q g _ _ (dI i n)
     |_=>trivial
 |yield l=>simp only[ag,aN]at e;obtain⟨F,r,rfl⟩:=e;refine⟨rfl,F,a,r,b,?_⟩;simp[Deferred.ofValue,invoke]
 |_=>trivial
end
end Go.Proofs.YtokipodjggomfaaGreatDoor.Abs
namespace Go.Proofs.YtokipodjggomfaaGreatDoor.Abs
open Go
section
variable{C:Ctx}{base:Nat}{E:G}{s:S}{w:World}{nt:Nat}{t:Tr AV}{a:Act}
theorem Ms(e:Good C)(f:Rel C base E s w)(b:Builtin)(argTypes:List TypeId)(rt:TypeId)(d:Array Bool)(args:List AV)(a:List Value)(c:ax E args=some a):
  (EU b C s argTypes args).path (dM C base E s w ((builtin b ⟨argTypes⟩ rt d ⟨a⟩).run C.P w)):=by
 cases b with
 |append=>exact RU e f argTypes args a c rt
 |len=>exact a2K e f argTypes args a c rt
 |recover=>exact⟨rfl,rfl⟩
 |unsafeString=>exact RO e f argTypes args a c rt
 |unsafeSliceData=>exact GM e f argTypes args a c rt
 |_=>trivial
theorem Y2(i:Good C)(h:Rel C base E s w)(j:aD E nt t a.tmps)(c:Call)(rt:TypeId):
  (ux c rt C t s).path (dM C base E s w ((do let d <-resolve a.eval c rt;invoke d.target d.args:Sem Next).run C.P w)):=by
 refine R.bh _ (qO h j c.args.toList) λargs g=>?_
 have k:c.args.map a.eval=⟨c.args.toList.map a.eval⟩:=by apply mC;simp
 cases l:c.callee with
 |builtin b=>
  simp only;have e:(do let d <-resolve a.eval c rt;invoke d.target d.args:Sem Next).run C.P w=(builtin b c.argTypes rt (c.args.map λ| .const _=>true|_=>false) (c.args.map a.eval)).run C.P w:=by simp[resolve,l,invoke];rfl
  rw[e,k];exact Ms i h b c.argTypes.toList rt _ args _ g
 |value f=>
  simp only;refine R.bh _ (bf h j f) λm n=>?_
  have e:(do let d <-resolve a.eval c rt;invoke d.target d.args:Sem Next).run C.P w=(do let d <-Deferred.ofValue (a.eval f) ⟨c.args.toList.map a.eval⟩;invoke d.target d.args:Sem Next).run C.P w:=by simp[resolve,l,k]
  rw[e];exact uy i h m _ n args _ g
 |invoke r name=>exact R.aJ _ _
theorem Mm(d:Rel C base E s w)(e:aD E nt t a.tmps)(x:Operand)(rt:TypeId):
  (wI x rt C t s).path (dM C base E s w ((VS (Instr.panic (a.eval x))).run C.P w)):=by
 refine R.bh _ (bf d e x) λv b=>?_
 cases v with
 |iface ty v=>have c:=b;simp only[ag,aN]at b;obtain⟨f,g,b⟩:=b;rw[<-b]at c ⊢;exact⟨E,.iface ty f,w,rfl,c,Step.refl d⟩
 |_=>trivial
theorem x2(g:Good C)(b:Rel C base E s w)(d:aD E nt t a.tmps)(o:Oper):
  (nA o.op o.type C t s).path (dM C base E s w ((execOp a.eval o).run C.P w)):=by
 cases h:o.op with
 |move x=>simp only[execOp,h];exact OX b d x o.type
 |assign x=>simp only[execOp,h];exact OX b d x o.type
 |pick x y z=>simp only[execOp,h];exact YY b d x y z o.type
 |alloc e=>simp only[execOp,h];exact Vg (t:=t) g b e o.type
 |box e x=>simp only[execOp,h];exact a2L g b d e x o.type
 |build ty ps=>simp only[execOp,h];exact Vf g b d ty ps o.type
 |buildSlice ty n ps=>simp only[execOp,h];exact DH g b d ty n ps o.type
 |insert ty m k x=>simp only[execOp,h];exact wK g b d ty m k x o.type
 |load ty x=>simp only[execOp,h];exact YZ g b d ty x o.type
 |store ty x y=>simp only[execOp,h];exact Vb g b d ty x y o.type
 |nilCheck x=>have:=JW (C:=C) (base:=base) (s:=s) (w:=w) b d o x h o.type;exact this
 |binOp op ty x y p=>simp only[execOp,h];exact a2M g b d op ty x y o.type
 |unOp op ty x=>simp only[execOp,h];exact a5P b d op x o.type
 |convert src dst x=>simp only[execOp,h];exact Y1 g b d src dst x o.type
 |makeInterface ty x=>simp only[execOp,h];exact Vd g b d ty x o.type
 |makeFunc f x y=>simp only[execOp,h];exact Y0 b d f x y o.type
 |makeMap ty r=>simp only[execOp,h];exact Mn g b d ty r o.type
 |slice ty x lo V j=>simp only[execOp,h];exact ok_slice g b d ty x lo V j o.type
 |fieldAddr ty x f=>simp only[execOp,h];exact GO g b d ty x f o.type
 |indexAddr ty x i=>simp only[execOp,h];exact GN g b d ty x i o.type
 |index ty x i=>simp only[execOp,h];exact Vc g b d ty x i o.type
 |lookup ty x k ok=>simp only[execOp,h];exact RQ g b d ty x k ok o.type
 |mapUpdate ty m k x=>simp only[execOp,h];exact wK g b d ty m k x o.type
 |typeAssert x l ty ok=>simp only[execOp,h];exact a5S g b d x l ty ok o.type
 |extract x i=>simp only[execOp,h];exact Mo b d x i o.type
 |call c=>simp only[execOp,h];exact Y2 g b d c o.type
 |panic x=>simp only[execOp,h];exact Mm b d x o.type
 |_=>trivial
end
end Go.Proofs.YtokipodjggomfaaGreatDoor.Abs
namespace Go.Proofs.YtokipodjggomfaaGreatDoor.Abs
open Go
section
variable{C:Ctx}{base:Nat}{E B:G}{s:S}{w:World}
theorem Nk(h:Grow E B){x:bH}{i:Item}(Y:iI E x=some i):iI B x=some i:=by
 cases x<;>simp only[iI,aN]at Y ⊢<;>first|exact Y|skip
 .obtain⟨l,b,rfl⟩:=Y;obtain⟨O,a,e,_⟩:=h _ l b;exact⟨O,a,by rw[e]⟩
 .obtain⟨l,b,rfl⟩:=Y;obtain⟨O,a,e,_⟩:=h _ l b;exact⟨O,a,by rw[e]⟩
theorem cB{x:bH}{l:List bH}{r:List Item}:gJ E (x::l)=some r↔∃a b,iI E x=some a/\gJ E l=some b/\r=a::b:=by grind[gJ,iI]
theorem kj(h:Grow E B):∀{l:List bH}{r:List Item},gJ E l=some r->gJ B l=some r
 | [],_,c=>c
 |x::l,r,c=>by
  obtain⟨a,b,d,e,rfl⟩:=cB.1 c;exact cB.2 ⟨a,b,Nk h d,kj h e,rfl⟩
theorem KG(h:Grow E B){x:gO}{d:Deferred}(Y:pF E x=some d):pF B x=some d:=by
 cases x with
 |call d'=>exact CZ h Y
 |collected r=>simp only[pF,aN]at Y ⊢;obtain⟨l,b,rfl⟩:=Y;obtain⟨O,a,e,_⟩:=h _ l b;exact⟨O,a,by rw[e]⟩
theorem fG{tl:List Deferred}{x:gO}{l:List gO}{r:List Deferred}:cN tl E (x::l)=some r↔∃a b,pF E x=some a/\cN tl E l=some b/\r=a::b:=by grind[cN,pF]
theorem b7{tl:List Deferred}(h:Grow E B):∀{l:List gO}{r:List Deferred},cN tl E l=some r->cN tl B l=some r
 | [],_,c=>c
 |x::l,r,c=>by
  obtain⟨a,b,d,e,rfl⟩:=fG.1 c;exact fG.2 ⟨a,b,KG h d,b7 h e,rfl⟩
theorem KF(h:Grow E B){x:PE}{p:PanicEntry}(Y:iA E x=some p):iA B x=some p:=by grind[iA,e9,Option.map_eq_some_iff]
theorem fp{x:PE}{l:List PE}{r:List PanicEntry}:fa E (x::l)=some r↔∃a b,iA E x=some a/\fa E l=some b/\r=a::b:=by grind[fa,iA]
theorem ru(h:Grow E B):∀{l:List PE}{r:List PanicEntry},fa E l=some r->fa B l=some r
 | [],_,c=>c
 |x::l,r,c=>by
  obtain⟨a,b,d,e,rfl⟩:=fp.1 c;exact fp.2 ⟨a,b,KF h d,ru h e,rfl⟩
theorem mZ.grow (h:Grow E B) {m:ku} {c:FrameMode} (a:mZ E m c):mZ B m c:=by
 cases m with
 |eH ch=>obtain⟨c',A,I⟩:=a;exact⟨c',ru h A,I⟩
 |_=>exact a
theorem mX.grow (h:Grow E B) {a b:Option Nat} (d:mX E a b):mX B a b:=by
 cases a<;>cases b<;>first|exact d|skip
 obtain⟨l,f,rfl⟩:=d;obtain⟨O,c,e,_⟩:=h _ l f;exact⟨O,c,e⟩
theorem eu.grow (h:Grow E B) {k:CallKind} {ctx:Option (List PE)} {cs:List Frame} (a:eu E k ctx cs):eu B k ctx cs:=by
 cases k with
 |normal=>exact a
 |deferred=>
  obtain⟨c,rest,rfl,I⟩:=a;refine⟨c,rest,rfl,?_⟩;cases ctx with
  |none=>exact I
  |some ch=>obtain⟨b,W,D⟩:=I;exact⟨b,ru h W,D⟩
 |_=>exact a.elim
theorem cD.of_steps {b:G} {n:S} {p:World} {fi:FI} {cs d:List Frame} {m0 q:Machine} {o:Out} (g:Step C base E s w b n p) (i:Steps C.P m0 q) (j:bN fi.kind cs d)
  (h:cD C base b n p fi d q o):cD C base E s w fi cs m0 o:=by
 obtain⟨B,M,k,A,I,W,D⟩:=h;refine⟨B,M,k,g.trans A,I,j.trans W,?_⟩;cases r:o.res with
 |ret v=>
  rw[r]at D;obtain⟨t,u,h5⟩:=D;refine⟨t,u,?_⟩;cases f:fi.roundOf with
  |none=>rw[f]at h5;obtain⟨a,g1,g2⟩:=h5;exact⟨a,i.trans g1,g2⟩
  |some l=>rw[f]at h5;exactλc rest e=>i.trans (h5 c rest e)
 |eH ch=>rw[r]at D;obtain⟨m,x,a,g1,g2⟩:=D;exact⟨m,x,a,i.trans g1,g2⟩
end
end Go.Proofs.YtokipodjggomfaaGreatDoor.Abs
namespace Go.Proofs.YtokipodjggomfaaGreatDoor.Abs
open Go
section
variable{P:Program}{fi:FI}{ro:Option Nat}{tm:Array Value}{k:List Item}{ds:List Deferred}{cs:List Frame}{w:World}
theorem X9:step P (lone (aC fi ro tm (.code .skip::k) ds .run) cs w)=.next (lone (aC fi ro tm k ds .run) cs w):=
 cz (by simp[stepG,stepG.exec,aC])
theorem Ug{l:Nat}:step P (lone (aC fi ro tm (.code (.label l)::k) ds .run) cs w)=.next (lone (aC fi ro tm k ds .run) cs w):=
 cz (by simp[stepG,stepG.exec,aC])
theorem LJ{id:Nat}:step P (lone (aC fi ro tm (.inBlock id::k) ds .run) cs w)=.next (lone (aC fi ro tm k ds .run) cs w):=
 cz (by simp[stepG,stepG.exec,aC])
theorem LI{b:Code}:step P (lone (aC fi ro tm (.inScope b::k) ds .run) cs w)=.next (lone (aC fi ro tm k ds .run) cs w):=
 cz (by simp[stepG,stepG.exec,aC])
theorem a2p{x y:Code}:step P (lone (aC fi ro tm (.code (.seq x y)::k) ds .run) cs w)=.next (lone (aC fi ro tm (.code x::.code y::k) ds .run) cs w):=
 cz (by simp[stepG,stepG.exec,aC])
theorem PV(x:Operand)(todo:List Item)(m:FrameMode):(aC fi ro tm todo ds m).eval x=Act.eval ⟨tm,ds⟩ x:=by cases x<;>rfl
theorem CG(todo:List Item)(m:FrameMode):(aC fi ro tm todo ds m).eval=Act.eval ⟨tm,ds⟩:=funext λx=>PV x todo m
theorem Om{c:Operand}{x y:Code}{b:Bool}(h:Act.eval ⟨tm,ds⟩ c=.bool b):
  step P (lone (aC fi ro tm (.code (.cond c x y)::k) ds .run) cs w)=.next (lone (aC fi ro tm (.code (if b then x else y)::k) ds .run) cs w):=
 cz (by
  have:=PV (fi:=fi) (ro:=ro) (tm:=tm) (ds:=ds) c (.code (.cond c x y)::k) .run;simp only[aC]at this;simp[stepG,stepG.exec,aC,this,h])
theorem Uj{id:Nat}{c:Code}:step P (lone (aC fi ro tm (.code (.block id c)::k) ds .run) cs w)=.next (lone (aC fi ro tm (.code c::.inBlock id::k) ds .run) cs w):=
 cz (by simp[stepG,stepG.exec,aC])
theorem Ya{c:Code}:step P (lone (aC fi ro tm (.code (.loop c)::k) ds .run) cs w)=.next (lone (aC fi ro tm (.code c::.inLoop c::k) ds .run) cs w):=
 cz (by simp[stepG,stepG.exec,aC])
theorem Rf{c:Code}:step P (lone (aC fi ro tm (.inLoop c::k) ds .run) cs w)=.next (lone (aC fi ro tm (.code c::.inLoop c::k) ds .run) cs w):=
 cz (by simp[stepG,stepG.exec,aC])
theorem Uc{c:Code}:step P (lone (aC fi ro tm (.code (.scope c)::k) ds .run) cs w)=.next (lone (aC fi ro tm (.code c::.inScope c::k) ds .run) cs w):=
 cz (by simp[stepG,stepG.exec,aC])
theorem Yb{id:Nat}{k':List Item}(h:exitTo id k=some k'):step P (lone (aC fi ro tm (.code (.exit id)::k) ds .run) cs w)=.next (lone (aC fi ro tm k' ds .run) cs w):=
 cz (by simp[stepG,stepG.exec,aC,h])
theorem Re{id:Nat}{ops:Array Oper}:step P (lone (aC fi ro tm (.code (.region id ops false)::k) ds .run) cs w)=.next (lone (aC fi ro tm (.inRegion ops (List.range ops.size)::k) ds .run) cs w):=
 cz (by simp[stepG,stepG.exec,aC])
theorem sW{ops:Array Oper}:step P (lone (aC fi ro tm (.inRegion ops []::k) ds .run) cs w)=.next (lone (aC fi ro tm k ds .run) cs w):=
 cz (by simp[stepG,stepG.exec,aC])
theorem a2q:step P (lone (aC fi none tm (.code .ret::k) ds .run) cs w)=.next (lone (aC fi none tm (.code .ret::k) ds .returning) cs w):=
 cz (by simp[stepG,stepG.exec,aC])
theorem a2r:step P (lone (aC fi none tm [] ds .run) cs w)=.next (lone (aC fi none tm [] ds .returning) cs w):=
 cz (by simp[stepG,stepG.exec,aC])
end
end Go.Proofs.YtokipodjggomfaaGreatDoor.Abs
namespace Go.Proofs.YtokipodjggomfaaGreatDoor.Abs
open Go
def lO(tm:Array Value)(dst:Option Tmp)(v:Value):Array Value:=
 match dst with
 |some d=>tm.setIfInBounds d v
 |none=>tm
section
variable{P:Program}{fi:FI}{ro:Option Nat}{tm:Array Value}{k:List Item}{ds:List Deferred}{cs:List Frame}{w:World}{ops:Array Oper}{i:Nat}{rest:List Nat}{o:Oper}
theorem gY(v:Value)(ho:ops[i]? =some o):(aC fi ro tm (.inRegion ops (i::rest)::k) ds .run).finish v=aC fi ro (lO tm o.dst v) (.inRegion ops rest::k) ds .run:=by grind[aC,lO,Frame.finish]
theorem uf(ho:ops[i]? =some o)(a:Region.wanted o (yielded ops tm)=false):
  step P (lone (aC fi ro tm (.inRegion ops (i::rest)::k) ds .run) cs w)=.next (lone (aC fi ro (lO tm o.dst undef) (.inRegion ops rest::k) ds .run) cs w):=by
 rw[<-gY undef ho];exact cz (by simp[stepG,stepG.exec,aC,ho,a])
theorem yE(ho:ops[i]? =some o)(e:Region.wanted o (yielded ops tm)=true)(f:ro=none\/∀c,o.op≠.defer c):
  stepG P true { frame:=aC fi ro tm (.inRegion ops (i::rest)::k) ds .run,callers:=cs,status:=.running,dying:=none } w=
   stepG.apply P true (aC fi ro tm (.inRegion ops (i::rest)::k) ds .run) cs none (execOp (Act.eval ⟨tm,ds⟩) o) w:=by
 have a:=CG (fi:=fi) (ro:=ro) (tm:=tm) (ds:=ds) (.inRegion ops (i::rest)::k) .run;simp only[aC]at a;cases ro with
 |none=>simp[stepG,stepG.exec,stepG.oper,Frame.oper?,aC,ho,e,a]
 |some l=>have b:∀c,o.op≠.defer c:=f.resolve_left (by simp);simp only[stepG,stepG.exec,stepG.oper,Frame.oper?,aC,ho,e,a,bX,fu,aH];cases d:o.op<;>first|rfl|exact absurd d (b _)
theorem Bj(ho:ops[i]? =some o)(a:Region.wanted o (yielded ops tm)=true)(b:ro=none\/∀c,o.op≠.defer c){v:Value}{M:World}(d:(execOp (Act.eval ⟨tm,ds⟩) o).run P w=.ok (.value v) M):
  step P (lone (aC fi ro tm (.inRegion ops (i::rest)::k) ds .run) cs w)=.next (lone (aC fi ro (lO tm o.dst v) (.inRegion ops rest::k) ds .run) cs M):=by
 rw[<-gY v ho];exact cz (by rw[yE ho a b];simp[stepG.apply,d])
theorem Rd(ho:ops[i]? =some o)(a:Region.wanted o (yielded ops tm)=true)(b:ro=none\/∀c,o.op≠.defer c){M:World}(d:(execOp (Act.eval ⟨tm,ds⟩) o).run P w=.ok .skip M):
  step P (lone (aC fi ro tm (.inRegion ops (i::rest)::k) ds .run) cs w)=.next (lone (aC fi ro (lO tm o.dst undef) (.inRegion ops rest::k) ds .run) cs M):=by
 rw[<-gY undef ho];exact cz (by rw[yE ho a b];simp[stepG.apply,d])
theorem Uh(ho:ops[i]? =some o)(a:Region.wanted o (yielded ops tm)=true)(b:ro=none\/∀c,o.op≠.defer c){f:FuncId}{args:Array Value}{M:World}(d:(execOp (Act.eval ⟨tm,ds⟩) o).run P w=.ok (.enter f args) M):
  step P (lone (aC fi ro tm (.inRegion ops (i::rest)::k) ds .run) cs w)=.next (lone (Frame.enter P f args .normal) (aC fi ro tm (.inRegion ops (i::rest)::k) ds .run::cs) M):=
 cz (by rw[yE ho a b];simp[stepG.apply,d,aC])
theorem Ud(ho:ops[i]? =some o)(a:Region.wanted o (yielded ops tm)=true)(b:ro=none\/∀c,o.op≠.defer c){l:Nat}{f:FuncId}{tmps:Array Value}{assign body:Code}{M:World}
  (d:(execOp (Act.eval ⟨tm,ds⟩) o).run P w=.ok (.round l f tmps assign body) M):
  step P (lone (aC fi ro tm (.inRegion ops (i::rest)::k) ds .run) cs w)=.next (lone (Frame.round l f tmps assign body .normal) (aC fi ro tm (.inRegion ops (i::rest)::k) ds .run::cs) M):=
 cz (by rw[yE ho a b];simp[stepG.apply,d,aC])
theorem Ui(ho:ops[i]? =some o)(a:Region.wanted o (yielded ops tm)=true)(b:ro=none\/∀c,o.op≠.defer c){d:Deferred}{M:World}(f:(execOp (Act.eval ⟨tm,ds⟩) o).run P w=.ok (.defer d) M):
  step P (lone (aC fi ro tm (.inRegion ops (i::rest)::k) ds .run) cs w)=.next (lone (aC fi ro (lO tm o.dst undef) (.inRegion ops rest::k) (d::ds) .run) cs M):=by
 have e:({ aC fi ro tm (.inRegion ops (i::rest)::k) ds .run with defers:=d::ds }:Frame).finish undef=aC fi ro (lO tm o.dst undef) (.inRegion ops rest::k) (d::ds) .run:=
  gY undef ho
 refine cz ?_;rw[yE ho a b];simp only[stepG.apply,Sem.runT_eq,f,GStep.bare_after];exact dX (λg=>GStep.go { frame:=g,callers:=cs,status:=.running,dying:=none } M) e
theorem Uf(ho:ops[i]? =some o)(a:Region.wanted o (yielded ops tm)=true)(b:ro=none\/∀c,o.op≠.defer c){v:Value}{M:World}(d:(execOp (Act.eval ⟨tm,ds⟩) o).run P w=.halt (.panic v) M):
  step P (lone (aC fi ro tm (.inRegion ops (i::rest)::k) ds .run) cs w)=.next (lone (aC fi ro tm (.inRegion ops (i::rest)::k) ds (.panicking [{ v,recovered:=false }])) cs M):=
 cz (by rw[yE ho a b];simp[stepG.apply,d,aC,Frame.raise])
end
end Go.Proofs.YtokipodjggomfaaGreatDoor.Abs
namespace Go.Proofs.YtokipodjggomfaaGreatDoor.Abs
open Go
section
variable{E:G}
theorem lN(nt:Nat)(t:Tr AV)(d:Nat)(v:AV):put nt t (some d) v=if d<nt then t.set d v else t:=by
 show@Bool.rec (λ_=>Tr AV) t (t.set d v) (Nat.blt d nt)=_;cases h:Nat.blt d nt with
 |true=>have a:d<nt:=bn h;rw[az a]
 |false=>
  rw[ai (λb=>by
   have:Nat.blt d nt=true:=xM b;rw[this]at h;cases h)]
theorem aD.put {nt:Nat} {t:Tr AV} {tm:Array Value} (h:aD E nt t tm) (d:Option Tmp) {v:AV} {c:Value} (g:ag E v=some c):aD E nt (put nt t d v) (lO tm d c):=by
 obtain⟨A,I,W⟩:=h;cases d with
 |none=>exact⟨A,I,W⟩
 |some d=>
  rw[lN];simp only[lO];split
  .next b=>
   refine⟨by simp[A],?_,?_⟩
   .intro e x a;rw[Tr.bm]at a;split at a
    .next heq=>
     subst heq;obtain rfl:=ae a;exact⟨b,c,by simp[A,b],.inr g⟩
    .grind
   .intro e a;rw[Tr.bm]at a;split at a
    .cases a
    .next f=>
     have:=W e a;simp only[kD]at this ⊢;simp only[qm,f,aQ];exact this
  .next i=>
   have:tm.setIfInBounds d c=tm:=by grind
   rw[this];exact⟨A,I,W⟩
theorem gI:ag E gu=some undef:=by simp[gu,ag,ax,undef]
theorem qL{nt:Nat}{t:Tr AV}{tm:Array Value}(m:aD E nt t tm)(ops:Array Oper)(o:Oper):
  (c8 ops o.guard t).path (λb=>Region.wanted o (yielded ops tm)=b):=by
 unfold Region.wanted;cases z:o.guard with
 |none=>rfl
 |some p=>
  obtain⟨j,want⟩:=p;show(@Option.rec Tmp (λ_=>R Bool) (.ok false) (λd=>@Option.rec AV (λ_=>R Bool) (.ok false) (V1 want) (t.get d)) (oh ops j)).path (λb=>(yielded ops tm j==some want)=b);have q:yielded ops tm j=match(oh ops j).bind (tm[·]?)with|some (.bool b)=>some b|_=>none:=by unfold yielded oh;cases ops[j]? <;>rfl
  rw[q];cases B:oh ops j with
  |none=>rfl
  |some d=>
   simp only[aW];obtain⟨A,I,W⟩:=m;cases l:t.get d with
   |none=>
    have:=W d l;show((match tm[d]? with|some (.bool b)=>some b|_=>none)==some want)=false;simp only[kD]at this;cases s:tm[d]? with
    |none=>rfl
    |some c=>rw[s]at this;simp only[fu]at this;subst this;rfl
   |some v=>
    obtain⟨u,c,w,h⟩:=I d v l;simp only[w];rcases h with rfl|e
    .trivial
    .cases v with
     |bool b=>simp only[ag,ar]at e;subst e;cases b<;>cases want<;>rfl
     |junk=>trivial
     |raw r=>trivial
     |bS k i=>trivial
     |gR b n c'=>obtain⟨_,_,_,_,_,_,_,_,rfl⟩:=gH e;rfl
     |gS b i g k=>obtain⟨_,_,_,_,_,_,rfl⟩:=om e;rfl
     |fn f x y=>
      simp only[ag]at e;have:∃a b c',c=.func a b c':=by grind
      obtain⟨_,_,_,rfl⟩:=this;rfl
     |_=>
      simp only[ag,ar,aN]at e
      first
       |(subst e;rfl)
       |(obtain⟨_,_,rfl⟩:=e;rfl)
theorem L8{nt:Nat}{t:Tr AV}{tm:Array Value}(l:aD E nt t tm)(ops:Array Oper)(o:Oper){e:SE}{want:Bool}(h:qS ops o.guard t=some (e,want)):
  ∃b,aj E e=some (.val (.bool b)):=by
 cases g:o.guard with
 |none=>rw[g]at h;cases h
 |some p=>
  obtain⟨j,wt⟩:=p;rw[g]at h;unfold qS at h;simp only at h;cases i:oh ops j with
  |none=>rw[i]at h;cases h
  |some d=>
   rw[i]at h;simp only at h;cases a:t.get d with
   |none=>rw[a]at h;cases h
   |some v=>
    rw[a]at h;obtain⟨m,c,n,f⟩:=l.2.1 d v a;cases v<;>first|(cases h;done)|skip
    rename_i k q;cases k<;>first|(cases h;done)|skip
    simp only[ar,bK]at h;obtain⟨rfl,rfl⟩:=h;rcases f with h|h
    .cases h
    .obtain⟨r,A,⟨b,rfl⟩,rfl⟩:=c7 h;exact⟨b,A⟩
theorem Gw{C:Ctx}{base:Nat}{s:S}{w:World}(a:Rel C base E s w){nt:Nat}{t:Tr AV}{tm:Array Value}(c:aD E nt t tm)(ops:Array Oper)(o:Oper):
  (fx ops o.guard t s).path (λr=>Region.wanted o (yielded ops tm)=r.1/\Step C base E s w E r.2 w):=by
 unfold fx;cases e:qS ops o.guard t with
 |some p=>exact R.aJ _ _
 |none=>exact R.pb _ (qL c ops o) λb d=>⟨d,Step.refl a⟩
end
end Go.Proofs.YtokipodjggomfaaGreatDoor.Abs
namespace Go.Proofs.YtokipodjggomfaaGreatDoor.Abs
open Go
theorem pJ:∀{a b:List UInt8},dp a b=true->a=b
 | [],[],_=>rfl
 | [],_::_,h=>by simp[dp]at h
 |_::_,[],h=>by simp[dp]at h
 |x::a,y::b,h=>by
  unfold dp at h;cases c:Nat.beq x.toNat y.toNat with
  |false=>simp[c]at h
  |true=>simp only[c]at h;have e:x.toNat=y.toNat:=aL c;rw[fX.1 e,pJ h]
theorem L1{a b:Value}(h:UL a b=true):a=b:=by
 unfold UL at h;split at h
 .rename_i x y;simp only[aw]at h;obtain⟨⟨⟨A,I⟩,W⟩,D⟩:=h;have A:=aL A;have I:=aL I;cases x with
  |mk b o s=>
   cases y with
   |mk N T U=>
    cases s with
    |some _=>cases W
    |none=>
     cases U with
     |some _=>cases D
     |none=>have e1:b=N:=A;have e2:o=T:=I;rw[e1,e2]
 .cases h
mutual
theorem fU:∀(a b:AV),eK a b=true->a=b
 | .int k n,b,h=>by
   cases b<;>simp[eK,VL,a1t]at h;rw[h.1,h.2]
 | .bool x,b,h=>by cases b<;>simp[eK]at h;rw[h]
 | .str x,b,h=>by cases b<;>simp[eK]at h;rw[pJ h]
 | .ptr x i,b,h=>by cases b<;>simp[eK]at h;rw[h.1,h.2]
 | .o9,b,h=>by cases b<;>simp[eK]at h;rfl
 | .sl x o l c,b,h=>by cases b<;>simp[eK]at h;obtain⟨⟨⟨A,I⟩,W⟩,D⟩:=h;rw[A,I,W,D]
 | .np x p e l z,b,h=>by cases b<;>simp[eK]at h;obtain⟨⟨⟨⟨A,I⟩,W⟩,D⟩,h5⟩:=h;rw[A,I,W,D,h5]
 | .dh,b,h=>by cases b<;>simp[eK]at h;rfl
 | .l5 r,b,h=>by cases b<;>simp[eK]at h;rw[h]
 | .iw,b,h=>by cases b<;>simp[eK]at h;rfl
 | .fn f x y,b,h=>by
   cases b with
   |fn g d m=>cases f<;>cases g<;>simp[eK]at h;obtain⟨⟨A,I⟩,W⟩:=h;rw[A,jW x d I,jW y m W]
   |_=>cases f<;>simp[eK]at h
 | .yield l,b,h=>by cases b<;>simp[eK]at h;rw[h]
 | .p0,b,h=>by cases b<;>simp[eK]at h;rfl
 | .iface t v,b,h=>by
   cases b with
   |iface Q q=>simp[eK]at h;rw[h.1,fU v q h.2]
   |_=>simp[eK]at h
 | .lY,b,h=>by cases b<;>simp[eK]at h;rfl
 | .bS k i,b,h=>by
   cases b with
   |bS k' j=>simp only[eK,aw]at h;rw[iH h.1,aK h.2]
   |_=>simp[eK]at h
 | .gR x n c,b,h=>by
   cases b with
   |gR d s c'=>simp only[eK,aw]at h;rw[aL h.1,aK h.2.1,aK h.2.2]
   |_=>simp[eK]at h
 | .gS x i z k,b,h=>by
   cases b with
   |gS d w B k'=>simp only[eK,aw]at h;rw[aL h.1,aK h.2.1,aL h.2.2.1,aL h.2.2.2]
   |_=>simp[eK]at h
 | .agg x,b,h=>by
   cases b with
   |agg y=>simp[eK]at h;rw[jW x y h]
   |_=>simp[eK]at h
 | .jy x,b,h=>by
   cases b with
   |jy y=>simp[eK]at h;rw[jW x y h]
   |_=>simp[eK]at h
 | .junk,b,h=>by cases b<;>simp[eK]at h
 | .raw v,b,h=>by
   cases b with
   |raw u=>simp only[eK]at h;rw[L1 h]
   |_=>simp[eK]at h
theorem jW:∀(a b:List AV),tw a b=true->a=b
 | [],[],_=>rfl
 | [],_::_,h=>by simp[tw]at h
 |_::_,[],h=>by simp[tw]at h
 |x::a,y::b,h=>by
  simp[tw]at h;rw[fU x y h.1,jW a b h.2]
end
theorem Ks:∀{k:Nat}{l:List Nat},pz k l=false->k ∉ l
 |_,[],_=>by simp
 |k,e::J,h=>by
  unfold pz at h;cases a:Nat.beq k e with
  |true=>rw[a]at h;cases h
  |false=>
   rw[a]at h;intro b;cases b with
   |head=>simp at a
   |tail _ b=>exact Ks h b
theorem yX{ids:List Nat}:∀{l:List Nat},G0 ids l=true->∀a∈l,a ∉ ids
 | [],_,a,c=>by cases c
 |b::l,h,a,c=>by
  unfold G0 at h;cases d:pz b ids with
  |true=>rw[d]at h;cases h
  |false=>
   rw[d]at h;cases c with
   |head=>exact Ks d
   |tail _ c=>exact yX h a c
theorem CE{id:Nat}{b:eD}:∀{l:List Nat}{h:Tr eD},(kH l h).get id=some b->h.get id=some b/\id ∉ l
 | [],_,e=>⟨e,by simp⟩
 |a::l,h,e=>by
  obtain⟨A,I⟩:=CE (l:=l) (h:=h.del a) e;rw[Tr.sF]at A;split at A
  .cases A
  .grind
theorem rv{cs:Tr AV}:∀{l:List AV}{k:Nat},lB cs l k=true->∀i v,l[i]? =some v->v=.junk\/cs.get (k+i)=some v
 | [],_,_,i,v,V=>by simp at V
 |x::l,k,h,i,v,V=>by
  have rest:lB cs l (k+1)=true->∀j,l[j]? =some v->v=.junk\/cs.get (k+(j+1))=some v:=λhh j d=>by
   have:=rv hh j v d
   rwa [show k+1+j=k+(j+1) by omega]at this
  unfold lB at h;cases a:lk x with
  |true=>
   rw[a]at h;cases i with
   |zero=>simp only[cr,ar]at V;subst V;cases x<;>first|exact .inl rfl|cases a
   |succ i=>exact rest h i (by simpa using V)
  |false=>
   rw[a]at h;simp only at h;cases b:cs.get k with
   |none=>rw[b]at h;cases h
   |some u=>
    rw[b]at h;simp only at h;cases c:eK u x with
    |false=>rw[c]at h;cases h
    |true=>
     rw[c]at h;cases i with
     |zero=>simp only[cr,ar]at V;subst V;exact .inr (by rw[hx,b,fU _ _ c])
     |succ i=>exact rest h i (by simpa using V)
theorem Ch:∀{x y:List ME},Pl x y=true->x=y
 | [],[],_=>rfl
 | [],_::_,h=>by cases h
 |_::_,[],h=>by cases h
 |a::x,b::y,h=>by
  simp only[Pl,aw]at h;obtain⟨⟨⟨A,I⟩,W⟩,D⟩:=h;have e1:=fU _ _ A;have e2:=fU _ _ I;have e3:=aL W;cases a;cases b;simp only at e1 e2 e3;subst e1;subst e2;subst e3;rw[Ch D]
theorem yw{b N:eD}{u:Nat}{l O:Loc}(h:fg b u N l O):u∈zG b/\dm N=true:=by cases b<;>cases N<;>first|exact h.elim|exact⟨h.1,h.2.1⟩
theorem iK{C b:Ctx}(c:C.P=b.P)(d:C.T=b.T)(t:TypeId):aq C t=aq b t:=by
 have h:∀l,Kh C l=Kh b l:=λl=>by
  induction l with
  |nil=>rfl
  |cons a l e=>simp only[Kh,a54,d,e]
 unfold aq;rw[c];cases b.P.cellTypes b.P.depth t with
 |none=>rfl
 |some l=>exact h l
theorem cw.ctx {C g:Ctx} (p:C.P=g.P) (f:C.T=g.T) {E:G} {l:Loc} {b:eD} {o:Obj} (h:cw C E l b o):cw g E l b o:=by
 cases b with
 |cells e cs n fz fh st sg=>obtain⟨vs,lo,V,rfl,g1,g2,⟨i,j,k⟩,g4⟩:=h;exact⟨vs,lo,V,rfl,g1,g2,⟨i,by rw[<-f];exact j,k⟩,g4⟩
 |Pk m a b c=>cases m<;>exact h
 |vec elem e=>obtain⟨vs,lo,V,J,rfl,A,I,⟨i,j,k,q⟩,D⟩:=h;exact⟨vs,lo,V,J,rfl,by rw[<-iK p f];exact A,I,⟨i,by rw[<-f];exact j,by rw[k];unfold iY;rw[iK p f],q⟩,D⟩
 |eC d=>cases d<;>exact h
 |_=>exact h
mutual
theorem Dt.c6.ctx {C e:Ctx} (a:C.P=e.P) (b:C.T=e.T) {w:World} {F:Nat->Prop}:∀(d:Dt),d.c6 C w F->d.c6 e w F
 | .val v,c=>c
 | .sl v t g J,c=>by
   rcases c with c|⟨f,A,I⟩
   .exact .inl c
   .exact .inr ⟨by rw[f];unfold iY;rw[iK a b],A,by rw[<-iK a b];exact Dt.bG.ctx a b _ 0 J I⟩
 | .pt v t g J i k,⟨f,A,I⟩=>⟨by rw[f];unfold iY;rw[iK a b],A,by rw[<-iK a b];exact Dt.bG.ctx a b _ 0 J I⟩
 | .ls P J,I=>Dt.bG.ctx a b P 0 J I
theorem Dt.bG.ctx {C a:Ctx} (b:C.P=a.P) (c:C.T=a.T) {w:World} {F:Nat->Prop} (P:List Kd):∀(j:Nat)(l:List Dt),Dt.bG C w F P j l->Dt.bG a w F P j l
 |_,[],_=>trivial
 |j,d::l,⟨A,I,W⟩=>⟨A,Dt.c6.ctx b c d I,Dt.bG.ctx b c P (j+1) l W⟩
end
theorem cy.ctx {C a:Ctx} (b:C.P=a.P) (c:C.T=a.T) {E:G} {s:S} {w:World} {Z:Nat->Prop} (h:cy C E s w Z):cy a E s w Z:=λid l d A I=>Dt.c6.ctx b c d (h id l d A I)
theorem Rel.ctx {C a:Ctx} (c:C.P=a.P) (d:C.T=a.T) (e:C.nG=a.nG) {base:Nat} {E:G} {s:S} {w:World} (h:Rel C base E s w):Rel a base E s w:=
 ⟨λid b f=>let⟨l,o,A,I,W⟩:=h.ay id b f;⟨l,o,A,I,W.ctx c d⟩,h.sep,h.new,λg i=>h.eM g (by rw[e];exact i),h.low,h.bs,h.pc,h.rd.ctx c d⟩
theorem Step.ctx {C a:Ctx} (b:C.P=a.P) (c:C.T=a.T) (d:C.nG=a.nG) {base:Nat} {E B:G} {s U:S} {w M:World} (h:Step C base E s w B U M):Step a base E s w B U M:=
 ⟨h.grow,h.rel.ctx b c d,h.keep,h.live,h.next,h.SW,h.MT,h.lV,λZ e f=>(h.Xw Z e (f.ctx b.symm c.symm)).ctx b c⟩
section
variable{C:Ctx}{base:Nat}{E:G}{s:S}{w:World}
theorem Kt(a:Good C):C.T=(gk C.P (λ_=>false) []).T/\C.nG=(gk C.P (λ_=>false) []).nG:=by
 have e:=a.eq;constructor
 .have:=dX Ctx.T e;exact this
 .have:=dX Ctx.nG e;exact this
end
end Go.Proofs.YtokipodjggomfaaGreatDoor.Abs
namespace Go.Proofs.YtokipodjggomfaaGreatDoor.Abs
open Go
theorem qZ{α:Type}{e:α->α->Bool}(c:∀a b,e a b=true->a=b):∀{x y:List α},lEq e x y=true->x=y
 | [],[],_=>rfl
 | [],_::_,h=>by cases h
 |_::_,[],h=>by cases h
 |a::x,b::y,h=>by
  simp only[lEq]at h;split at h
  .next d=>rw[c a b d,qZ c h]
  .cases h
theorem jX{α:Type}{e:α->α->Bool}(c:∀a b,e a b=true->a=b){x y:Array α}(h:Ig e x y=true):x=y:=Array.toList_inj.1 (qZ c h)
theorem wM{α:Type}{e:α->α->Bool}(c:∀a b,e a b=true->a=b){x y:Option α}(h:oEq e x y=true):x=y:=by cases x<;>cases y<;>first|rfl|cases h|(rw[c _ _ h])
theorem JJ{α j:Type}{e:α->α->Bool}{f:j->j->Bool}(c:∀a b,e a b=true->a=b)(d:∀a b,f a b=true->a=b)(x y:α×j)(h:pEq e f x y=true):x=y:=by grind[pEq]
theorem fO{α:Type}[DecidableEq α](a b:α)(h:CW a b=true):a=b:=bq h
theorem ct(a b:Nat)(h:iM a b=true):a=b:=aL h
theorem C9{a b:ByteArray}(h:a.data.toList=b.data.toList):a=b:=by cases a;cases b;congr 1;exact Array.toList_inj.1 h
mutual
theorem ua:∀(a b:Value),gr a b=true->a=b
 | .int k n,b,h=>by cases b<;>simp[gr,CW]at h;rw[h.1,h.2]
 | .bool x,b,h=>by cases b<;>simp[gr,CW]at h;rw[h]
 | .string s,b,h=>by cases b<;>simp[gr]at h;rw[C9 (pJ h)]
 | .pointer none,b,h=>by grind[gr]
 | .pointer (some _),b,h=>by simp[gr]at h
 | .slice none n c,b,h=>by
   simp only[gr]at h;split at h
   .grind[ct]
   .cases h
 | .slice (some _) _ _,b,h=>by simp[gr]at h
 | .map none,b,h=>by grind[gr]
 | .map (some _),b,h=>by simp[gr]at h
 | .nilFunc,b,h=>by cases b<;>simp[gr]at h;rfl
 | .func f ⟨[]⟩ ⟨[]⟩,b,h=>by
   simp only[gr]at h;split at h
   .rw[fO _ _ h]
   .cases h
 | .func f ⟨_::_⟩ _,b,h=>by simp[gr]at h
 | .func f ⟨[]⟩ ⟨_::_⟩,b,h=>by simp[gr]at h
 | .nilIface,b,h=>by cases b<;>simp[gr]at h;rfl
 | .iface t v,b,h=>by
   cases b with
   |iface Q d=>simp only[gr,aw]at h;rw[ct _ _ h.1,ua v d h.2]
   |_=>simp[gr]at h
 | .agg ⟨l⟩,b,h=>by
   cases b with
   |agg m=>obtain⟨m⟩:=m;simp only[gr]at h;rw[yD l m h]
   |_=>simp[gr]at h
 | .float _ _,b,h| .complex _ _ _,b,h| .chan _,b,h| .tuple _,b,h=>by simp[gr]at h
theorem yD:∀(a b:List Value),xP a b=true->a=b
 | [],[],_=>rfl
 | [],_::_,h=>by simp[xP]at h
 |_::_,[],h=>by simp[xP]at h
 |v::l,u::m,h=>by
  simp only[xP,aw]at h;rw[ua v u h.1,yD l m h.2]
end
theorem gU(a b:Operand)(h:dC a b=true):a=b:=by cases a<;>cases b<;>simp[dC]at h<;>first|rw[ct _ _ h]|rw[ua _ _ h]
theorem SD(a b:Callee)(h:a39 a b=true):a=b:=by
 cases a<;>cases b<;>simp[a39]at h
 .rw[gU _ _ h]
 .rw[gU _ _ h.1,fO _ _ h.2]
 .rw[fO _ _ h]
theorem SF(a b:Call)(h:a0k a b=true):a=b:=by simp only[a0k,aw]at h;obtain⟨⟨A,I⟩,W⟩:=h;cases a;cases b;rw[Call.mk.injEq];exact⟨SD _ _ A,jX gU I,jX ct W⟩
theorem GC{a b:Array (Nat×Operand)}(h:GD a b=true):a=b:=jX (JJ ct gU) h
theorem Mh(a b:Op)(h:U5 a b=true):a=b:=by
 cases a<;>cases b<;>simp only[U5,aw,dY]at h<;>
  simp only[Op.move.injEq,Op.assign.injEq,Op.pick.injEq,Op.alloc.injEq,Op.box.injEq,Op.build.injEq,Op.buildSlice.injEq,Op.insert.injEq,Op.load.injEq,Op.store.injEq,Op.nilCheck.injEq,
   Op.binOp.injEq,Op.unOp.injEq,Op.convert.injEq,Op.makeInterface.injEq,Op.makeFunc.injEq,Op.makeMap.injEq,Op.makeSlice.injEq,Op.slice.injEq,Op.fieldAddr.injEq,Op.field.injEq,Op.indexAddr.injEq,Op.index.injEq,
   Op.lookup.injEq,Op.mapUpdate.injEq,Op.mapEntry.injEq,Op.entryStore.injEq,Op.range.injEq,Op.next.injEq,Op.entry.injEq,Op.typeAssert.injEq,Op.extract.injEq,Op.call.injEq,Op.defer.injEq,Op.panic.injEq]<;>
  (repeat' refine And.intro ?_ ?_)<;>
  first
  |exact gU _ _ (by first|exact h|exact h.1|exact h.2|exact h.2.1|exact h.2.2|exact h.2.2.1|exact h.2.2.2|exact h.2.2.2.1)
  |exact ct _ _ (by first|exact h|exact h.1|exact h.2|exact h.2.1|exact h.2.2|exact h.2.2.1|exact h.2.2.2|exact h.2.2.2.1|exact h.2.2.2.2)
  |exact fO _ _ (by first|exact h|exact h.1|exact h.2|exact h.2.1|exact h.2.2|exact h.2.2.1|exact h.2.2.2|exact h.2.2.2.1|exact h.2.2.2.2)
  |exact GC (by first|exact h|exact h.2|exact h.2.2)
  |exact jX gU (by first|exact h.2.1|exact h.2.2)
  |exact wM gU (by first|exact h.2|exact h.2.2.1|exact h.2.2.2.1|exact h.2.2.2.2)
  |exact SF _ _ h
theorem Sr(a b:Edge)(h:a3w a b=true):a=b:=by simp only[a3w,aw]at h;cases a;cases b;rw[Edge.mk.injEq];exact⟨ct _ _ h.1,fO _ _ h.2⟩
theorem JO(a b:Oper)(h:Mi a b=true):a=b:=by simp only[Mi,aw]at h;obtain⟨A,I,W,D,h5,h6⟩:=h;cases a;cases b;rw[Oper.mk.injEq];exact⟨wM ct A,Mh _ _ I,ct _ _ W,fO _ _ D,jX Sr h5,wM (JJ ct fO) h6⟩
theorem dj:∀(a b:Code),cu a b=true->a=b
 | .skip,b,h=>by cases b<;>simp[cu]at h;rfl
 | .region i ops d,b,h=>by
   cases b with
   |region k g d'=>simp only[cu,aw]at h;rw[ct _ _ h.1,fO _ _ h.2.1,jX JO h.2.2]
   |_=>simp[cu]at h
 | .seq x y,b,h=>by
   cases b with
   |seq e j=>simp only[cu,aw]at h;rw[dj _ _ h.1,dj _ _ h.2]
   |_=>simp[cu]at h
 | .cond c x y,b,h=>by
   cases b with
   |cond c' e j=>simp only[cu,aw]at h;rw[gU _ _ h.1,dj _ _ h.2.1,dj _ _ h.2.2]
   |_=>simp[cu]at h
 | .block i x,b,h=>by
   cases b with
   |block k e=>simp only[cu,aw]at h;rw[ct _ _ h.1,dj _ _ h.2]
   |_=>simp[cu]at h
 | .loop x,b,h=>by
   cases b with
   |loop e=>simp only[cu]at h;rw[dj _ _ h]
   |_=>simp[cu]at h
 | .rangeFunc f p x y,b,h=>by
   cases b with
   |rangeFunc l p' e j=>simp only[cu,aw]at h;rw[gU _ _ h.1,jX ct h.2.1,dj _ _ h.2.2.1,dj _ _ h.2.2.2]
   |_=>simp[cu]at h
 | .exit i,b,h=>by cases b<;>simp[cu]at h;rw[ct _ _ h]
 | .scope x,b,h=>by
   cases b with
   |scope e=>simp only[cu]at h;rw[dj _ _ h]
   |_=>simp[cu]at h
 | .label i,b,h=>by cases b<;>simp[cu]at h;rw[ct _ _ h]
 | .goto i,b,h=>by cases b<;>simp[cu]at h;rw[ct _ _ h]
 | .ret,b,h=>by cases b<;>simp[cu]at h;rfl
 | .refuse _,b,h=>by simp[cu]at h
end Go.Proofs.YtokipodjggomfaaGreatDoor.Abs
namespace Go.Proofs.YtokipodjggomfaaGreatDoor.Abs
open Go
section
variable{C:Ctx}{base:Nat}{E:G}{s:S}{w:World}
theorem Step.con (L:Rel C base E s w) {m:Nat->Nat} {Ds:G} {S2:S} {XD:G} {s1:S} {M:World} {B:G} {U:S}
  (a3g:∀id b,S2.h.get id=some b->∃b0 l F,s.h.get (m id)=some b0/\E (m id)=some l/\Ds id=some F/\F.ay=l.ay/\dm b=dm b0)
  (hRv:∀id l d,Ds id=some l->l.v=some d->∃e,aj E e=some d)
  (n:Step C base Ds S2 w XD s1 M)
  (x:Nat->Nat->eD->Prop)
  (Zz:∀i j b i' j' N,x i j b->x i' j' N->i≠i'->j≠j')
  (p:∀i j b,x i j b->∃J t O,s1.h.get j=some J/\dm J=false/\dm b=false/\XD j=some t/\B i=some O/\t.ay=O.ay/\
    (∀o,cw C XD t J o->cw C B O b o)/\(i<s.next->∃b0,s.h.get i=some b0))
  (P:∀id b,U.h.get id=some b->(∃j,x id j b)\/(s.h.get id=some b/\∀c Q,S2.h.get c=some Q->dm Q=false->id≠m c/\id ∉ Dg s.h (m c)))
  (R:∀i,i<s.next->B i=E i)
  (a56:∀i O,B i=some O->s.next<=i->i<U.next/\(w.heap.size<=O.ay\/∃j t,S2.next<=j/\XD j=some t/\t.ay=O.ay))
  (a7P:∀i O d,B i=some O->s.next<=i->O.v=some d->∃e,aj XD e=some d)
  (hnx:s.next<=U.next)
  (hpc:∀f∈U.pc,f.pos=true/\f.holds B):Step C base E s w B U M:=by
 have y:∀k,Live Ds S2 k->∃id b,S2.h.get id=some b/\dm b=false/\∃l,E (m id)=some l/\l.ay=k:=by rintro k ⟨id,b,l,A,I,W,D⟩;obtain⟨b0,l0,F,V,K,q3,q4,q5⟩:=a3g id b A;rw[W]at q3;obtain rfl:=ae q3;exact⟨id,b,A,I,l0,K,by rw[<-q4];exact D⟩
 have q:∀k,Live Ds S2 k->Live E s k:=by intro k Z;obtain⟨id,b,A,I,l,W,D⟩:=y k Z;obtain⟨b0,l0,F,V,K,q3,q4,q5⟩:=a3g id b A;rw[W]at K;obtain rfl:=ae K;exact⟨m id,b0,_,V,by rw[<-q5];exact I,W,D⟩
 have lt:∀id b l,s.h.get id=some b->E id=some l->l.ay<w.heap.size:=by
  intro id b l A I;obtain⟨O,T,W,D,_⟩:=L.ay id b A;rw[I]at W;obtain rfl:=ae W;rcases cV l.ay w.heap.size with h|h
  .exact h
  .grind
 have apart:∀id b l,s.h.get id=some b->(∀c Q,S2.h.get c=some Q->dm Q=false->id≠m c/\id ∉ Dg s.h (m c))->E id=some l->¬Live Ds S2 l.ay:=by
  intro id b l hb Y hl a6j;obtain⟨c,Q,A,I,lx,W,D⟩:=y _ a6j;obtain⟨bx,l0,F,V,K,q3,q4,q5⟩:=a3g c Q A;obtain⟨n1,n2⟩:=Y c Q A I;rcases L.sep id (m c) b bx l lx hb V hl W n1 D.symm with h|h
  .have:=(yw h).2;rw[<-q5,I]at this;cases this
  .grind[Dg,yw]
 have kept:∀id b,s.h.get id=some b->∃l,E id=some l/\B id=some l:=λid b h=>by
  obtain⟨l,o,A,_⟩:=L.ay id b h;exact⟨l,A,by rw[R id (L.lt A)];exact A⟩
 have a7l:∀id b l i j N O,s.h.get id=some b->(∀c Q,S2.h.get c=some Q->dm Q=false->id≠m c/\id ∉ Dg s.h (m c))->E id=some l->x i j N->B i=some O->l.ay=O.ay->False:=by intro id b l i j N O hb Y hl X hl' he;obtain⟨J,t,F,p1,p2,p3,p4,H,p6, -⟩:=p i j N X;rw[hl']at H;obtain rfl:=ae H;exact apart id b l hb Y hl (n.live l.ay ⟨j,J,t,p1,p2,p4,by rw[p6,he]⟩ (lt id b l hb hl))
 have grow:Grow E B:=λid l h=>⟨l,by rw[R id (L.lt h)];exact h,rfl,rfl,rfl⟩
 have a1p:∀k,Live B U k->k<w.heap.size->Live E s k:=by
  rintro k ⟨id,b,l,A,I,W,D⟩ Z;rcases P id b A with⟨j,X⟩|⟨k1,k2⟩
  .obtain⟨J,t,F,p1,p2,p3,p4,H,p6, -⟩:=p id j b X;rw[W]at H;obtain rfl:=ae H;exact q k (n.live k ⟨j,J,t,p1,p2,p4,by rw[p6];exact D⟩ Z)
  .obtain⟨l0,g1,g2⟩:=kept id b k1;rw[W]at g2;obtain rfl:=ae g2;exact⟨id,b,l,k1,I,g1,D⟩
 have a6e:∀a:Nat->Prop,(∀k,a k->k<w.heap.size/\¬Live E s k)->cy C E s w a->cy C B U M a:=by
  intro a hZ hg;have hg':cy C Ds S2 w λk=>a k\/(Live E s k/\¬Live Ds S2 k):=λid l d A I=>by
   obtain⟨e,he⟩:=hRv id l d A I;exact Dt.c6.stays (λk z=>⟨⟨z.1,λh=>z.2.1 (q k h),λh=>h.elim z.2.2 λh=>z.2.1 h.1⟩,rfl⟩) d (eh (λid l d A I=>hg id l d A I) e d he)
  have hl:∀k,Live E s k->k<w.heap.size:=by rintro k ⟨id,b,l,A, -,W,rfl⟩;exact lt id b l A W
  have I:=n.Xw _ (λk Z=>Z.elim (λh=>⟨(hZ k h).1,λhh=>(hZ k h).2 (q k hh)⟩) λh=>⟨hl k h.1,h.2⟩) hg';intro id O d V K;rcases cV id s.next with r|r
  .rw[R id r]at V;refine Dt.c6.stays (λk z=>⟨⟨iT z.1 n.keep.size,λhh=>z.2.1 (a1p k hh z.1),z.2.2⟩,?_⟩) d (hg id O d V K);rw[dR z.1];exact n.keep.stays k _ (dR z.1) λhh=>z.2.1 (q k hh)
  .obtain⟨e,he⟩:=a7P id O d V r K;refine Dt.c6.stays (λk z=>⟨⟨z.1,λhh=>?_,λhz=>z.2.2 (.inl hz)⟩,rfl⟩) d (eh (λid l d A W=>I id l d A W) e d he);obtain⟨c,b,F,r1,r2,r3,rfl⟩:=hh;rcases P c b r1 with⟨j,X⟩|⟨k1,k2⟩
   .obtain⟨J,t,l3,p1,p2,p3,p4,H,p6, -⟩:=p c j b X;rw[r3]at H;obtain rfl:=ae H;exact z.2.1 ⟨j,J,t,p1,p2,p4,p6⟩
   .obtain⟨l0,g1,g2⟩:=kept c b k1;rw[r3]at g2;obtain rfl:=ae g2;exact z.2.2 (.inr ⟨⟨c,b,F,k1,r2,g1,rfl⟩,apart c b F k1 k2 g1⟩)
 have a7y:Rel C base B U M:=by
  refine⟨λid b hb=>?_,λid u b N l O A I W D Hv he=>?_,λid r=>?_,λg hg=>?_,λid b l A I W=>?_,n.rel.bs,hpc,a6e _ (λ_ h=>h.elim) L.rd⟩
  .rcases P id b hb with⟨j,X⟩|⟨A,I⟩
   .obtain⟨J,t,F,p1,p2,p3,p4,H,p6,p7, -⟩:=p id j b X;obtain⟨l,o,r1,r2,r3⟩:=n.rel.ay _ _ p1;rw[p4]at r1;obtain rfl:=ae r1;exact⟨F,o,H,by rw[<-p6];exact r2,p7 o r3⟩
   .obtain⟨l,o,r1,r2,r3⟩:=L.ay id b A;exact⟨l,o,by rw[R id (L.lt r1)];exact r1,n.keep.stays _ o r2 (apart id b l A I r1),r3.mono grow ⟨rfl,rfl,rfl⟩⟩
  .rcases P id b A with⟨j,X⟩|⟨k1,k2⟩<;>rcases P u N I with⟨j',hp'⟩|⟨j1,j2⟩
   .obtain⟨J,t,F,p1,p2,p3,p4,H,p6, -⟩:=p id j b X;obtain⟨Q,l3,l4,t1,t2,t3,t4,t5,t6, -⟩:=p u j' N hp';rw[W]at H;obtain rfl:=ae H;rw[D]at t5;obtain rfl:=ae t5;rcases n.rel.sep _ _ J Q t l3 p1 t1 p4 t4 (Zz _ _ _ _ _ _ X hp' Hv) (by rw[p6,t6];exact he)with h|h
    .rw[(yw h).2]at t2;cases t2
    .rw[(yw h).2]at p2;cases p2
   .grind
   .grind
   .obtain⟨l0,V,K⟩:=kept _ _ k1;obtain⟨l3,u1,u2⟩:=kept _ _ j1;rw[W]at K;obtain rfl:=ae K;rw[D]at u2;obtain rfl:=ae u2;exact L.sep id u b N l O k1 j1 V u1 Hv he
  .cases hg:B id with
   |none=>rfl
   |some O=>exact absurd (a56 id O hg (gn hnx r)).1 (Nat.not_lt.2 r)
  .obtain⟨l,A,I⟩:=L.eM g hg;exact⟨l,by rw[R g (L.lt A)];exact A,I⟩
  .rcases P id b A with⟨j,X⟩|⟨k1,k2⟩
   .obtain⟨J,t,F,p1,p2,p3,p4,H,p6, -⟩:=p id j b X;rw[I]at H;obtain rfl:=ae H;rw[n.rel.low j J t p1 p4 (by rw[p6];exact W)]at p2;cases p2
   .obtain⟨l0,V,K⟩:=kept _ _ k1;rw[I]at K;obtain rfl:=ae K;exact L.low id b l k1 V W
 refine⟨grow,a7y,⟨n.keep.size,n.keep.tape,n.keep.os,n.keep.output,λk o Z hnl=>n.keep.stays k o Z λh=>hnl (q k h)⟩,a1p,hnx,λ_ _ h=>L.lt h,?_,?_,a6e⟩
 .intro id O h;rcases cV id s.next with r|r
  .rw[R id r]at h;exact .inl ⟨O,h⟩
  .refine .inr ⟨r,?_⟩;rcases(a56 id O h r).2 with A|⟨j,t,hj,A,I⟩
   .exact .inl A
   .rcases n.MT j t A with⟨F,W⟩|⟨W,D⟩
    .exact absurd (n.SW j F W) (Nat.not_lt.2 hj)
    .grind
 .grind
end
end Go.Proofs.YtokipodjggomfaaGreatDoor.Abs
namespace Go.Proofs.YtokipodjggomfaaGreatDoor.Abs
open Go
structure RR(tK:G)(xH:Nat->Nat)(tH:Nat->SE)(yx:G)(Dr:Nat->Nat)(zK:Nat->SE)(ok:Nat->Bool):Prop where
 ay:∀i l,ok i=true->tK (xH i)=some l->∃O,yx (Dr i)=some O/\O.ay=l.ay/\O.dl=l.dl/\O.cp=l.cp
 val:∀i d,aj tK (tH i)=some d->aj yx (zK i)=some d
section
variable{tK yx:G}{xH Dr:Nat->Nat}{tH zK:Nat->SE}{ok:Nat->Bool}
theorem RR.se (h:RR tK xH tH yx Dr zK ok):∀(e:SE)(d:Dt),aj tK (e.sub tH)=some d->aj yx (e.sub zK)=some d
 | .var i,d,a=>h.val i d a
 | .int _ _,d,a| .bool _,d,a| .str _,d,a=>a
 | .a1 o x,d,a=>by
   simp only[SE.sub,aj,bW]at a ⊢;obtain⟨u,b,a⟩:=a;exact⟨u,h.se x u b,a⟩
 | .a2 o x y,d,a=>by
   simp only[SE.sub,aj,bW]at a ⊢;obtain⟨u,b,v,c,a⟩:=a;exact⟨u,h.se x u b,v,h.se y v c,a⟩
 | .a3 o x y z,d,a=>by
   simp only[SE.sub,aj,bW]at a ⊢;obtain⟨u,b,v,c,q,f,a⟩:=a;exact⟨u,h.se x u b,v,h.se y v c,q,h.se z q f,a⟩
theorem RR.gZ (h:RR tK xH tH yx Dr zK ok):∀(l:List SE)(r:List Dt),gZ tK (SE.fZ tH l)=some r->gZ yx (SE.fZ zK l)=some r
 | [],r,a=>a
 |x::l,r,a=>by
  simp only[SE.fZ,Go.Proofs.YtokipodjggomfaaGreatDoor.Abs.gZ,bW,aN]at a ⊢;obtain⟨d,b,q,c,a⟩:=a;exact⟨d,h.se x d b,q,h.gZ l q c,a⟩
theorem RR.fact (h:RR tK xH tH yx Dr zK ok):∀{f:Fact},f.pos=true->(f.sub tH).holds tK->(f.sub zK).holds yx
 | .tr e,_,b=>h.se e _ b
 | .fl e,_,b=>h.se e _ b
 | .inr i n,_,⟨k,a,m,A,I,W⟩=>⟨k,a,m,h.se i _ A,h.se n _ I,W⟩
 | .rel _ false p l,_,⟨ds,A,I⟩=>⟨ds,h.gZ l _ A,I⟩
 | .rel _ true p l,c,_=>by cases c
mutual
theorem RR.ag (h:RR tK xH tH yx Dr zK ok):∀(v:AV)(c:Value),AV.ids ok v=true->ag tK (v.sub xH tH)=some c->ag yx (v.sub Dr zK)=some c
 | .int _ _,c,_,e| .bool _,c,_,e| .str _,c,_,e| .o9,c,_,e| .dh,c,_,e| .iw,c,_,e| .p0,c,_,e| .lY,c,_,e| .raw _,c,_,e=>by
   simpa[AV.sub,Go.Proofs.YtokipodjggomfaaGreatDoor.Abs.ag]using e
 | .junk,c,_,e=>by simp[AV.sub,Go.Proofs.YtokipodjggomfaaGreatDoor.Abs.ag]at e
 | .bS k x,c,_,e=>by
   simp only[AV.sub,uT]at e ⊢;simp only[Go.Proofs.YtokipodjggomfaaGreatDoor.Abs.ag,bW]at e ⊢;obtain⟨d,s,e⟩:=e;exact⟨d,h.se x d s,e⟩
 | .gR b n c',c,ho,e=>by
   simp only[AV.sub,Go.Proofs.YtokipodjggomfaaGreatDoor.Abs.ag,bW]at e ⊢;obtain⟨l,m,x,Y,y,u,e⟩:=e;obtain⟨O,j,s1,s2,o⟩:=h.ay b l ho m;refine⟨O,j,x,h.se n x Y,y,h.se c' y u,?_⟩;rw[<-e];unfold TW;rw[s1,s2,o]
 | .gS b i g k,c,ho,e=>by
   simp only[AV.sub,Go.Proofs.YtokipodjggomfaaGreatDoor.Abs.ag,bW]at e ⊢;obtain⟨l,m,x,Y,e⟩:=e;obtain⟨O,j,s1,s2,o⟩:=h.ay b l ho m;refine⟨O,j,x,h.se i x Y,?_⟩;rw[<-e];unfold IB;rw[s1,s2,o]
 | .ptr b off,c,ho,e=>by
   simp only[AV.sub,Go.Proofs.YtokipodjggomfaaGreatDoor.Abs.ag,aN]at e ⊢;obtain⟨l,m,rfl⟩:=e;obtain⟨O,j,s1,s2,o⟩:=h.ay b l ho m;exact⟨O,j,by rw[s1,s2]⟩
 | .sl b off len cap,c,ho,e=>by
   simp only[AV.sub,Go.Proofs.YtokipodjggomfaaGreatDoor.Abs.ag,aN]at e ⊢;obtain⟨l,m,rfl⟩:=e;obtain⟨O,j,s1,s2,o⟩:=h.ay b l ho m;exact⟨O,j,by rw[s1,s2]⟩
 | .np b pre e0 len g,c,ho,e=>by
   simp only[AV.sub,Go.Proofs.YtokipodjggomfaaGreatDoor.Abs.ag,aN]at e ⊢;obtain⟨l,m,rfl⟩:=e;obtain⟨O,j,s1,s2,o⟩:=h.ay b l ho m;exact⟨O,j,by rw[s1,s2,o]⟩
 | .l5 b,c,ho,e=>by
   simp only[AV.sub,Go.Proofs.YtokipodjggomfaaGreatDoor.Abs.ag,aN]at e ⊢;obtain⟨l,m,rfl⟩:=e;obtain⟨O,j,s1,s2,o⟩:=h.ay b l ho m;exact⟨O,j,by rw[s1]⟩
 | .yield b,c,ho,e=>by
   simp only[AV.sub,Go.Proofs.YtokipodjggomfaaGreatDoor.Abs.ag,aN]at e ⊢;obtain⟨l,m,rfl⟩:=e;obtain⟨O,j,s1,s2,o⟩:=h.ay b l ho m;exact⟨O,j,by rw[s1]⟩
 | .fn f a b,c,ho,e=>by
   simp only[AV.ids,aw]at ho;simp only[AV.sub,Go.Proofs.YtokipodjggomfaaGreatDoor.Abs.ag]at e ⊢;cases p:ji f with
   |false=>simp[p]at e
   |true=>
    cases q:Go.Proofs.YtokipodjggomfaaGreatDoor.Abs.ax tK (AV.fZ xH tH a)with
    |none=>simp[p,q]at e
    |some x=>
     cases r:Go.Proofs.YtokipodjggomfaaGreatDoor.Abs.ax tK (AV.fZ xH tH b)with
     |none=>simp[p,q,r]at e
     |some y=>simp only[p,q,r,h.ax a x ho.1 q,h.ax b y ho.2 r]at e ⊢;exact e
 | .iface t v,c,ho,e=>by
   simp only[AV.sub,Go.Proofs.YtokipodjggomfaaGreatDoor.Abs.ag,aN]at e ⊢;obtain⟨x,Y,rfl⟩:=e;exact⟨x,h.ag v x ho Y,rfl⟩
 | .agg cs,c,ho,e=>by
   simp only[AV.sub,Go.Proofs.YtokipodjggomfaaGreatDoor.Abs.ag,aN]at e ⊢;obtain⟨x,Y,rfl⟩:=e;exact⟨x,h.ax cs x ho Y,rfl⟩
 | .jy cs,c,ho,e=>by
   simp only[AV.sub,Go.Proofs.YtokipodjggomfaaGreatDoor.Abs.ag,aN]at e ⊢;obtain⟨x,Y,rfl⟩:=e;exact⟨x,h.ax cs x ho Y,rfl⟩
theorem RR.ax (h:RR tK xH tH yx Dr zK ok):∀(l:List AV)(r:List Value),AV.gW ok l=true->ax tK (AV.fZ xH tH l)=some r->ax yx (AV.fZ Dr zK l)=some r
 | [],r,_,e=>by simpa[AV.fZ,Go.Proofs.YtokipodjggomfaaGreatDoor.Abs.ax]using e
 |v::l,r,ho,e=>by
  simp only[AV.gW,aw]at ho;simp only[AV.fZ]at e ⊢;obtain⟨a,b,c,d,rfl⟩:=av.1 e;exact av.2 ⟨a,b,h.ag v a ho.1 c,h.ax l b ho.2 d,rfl⟩
end
theorem IL{m:Nat->Nat}{H:Nat->SE}:∀{l:List AV}{i:Nat}{v:AV},(AV.fZ m H l)[i]? =some v->∃u,l[i]? =some u/\v=u.sub m H
 | [],i,v,h=>by simp[AV.fZ]at h
 |x::l,0,v,h=>by grind[AV.fZ]
 |x::l,i+1,v,h=>by simpa using IL (l:=l) (i:=i) (by simpa[AV.fZ]using h)
theorem D8{m:Nat->Nat}{H:Nat->SE}:∀{l:List AV}{i:Nat}{u:AV},l[i]? =some u->(AV.fZ m H l)[i]? =some (u.sub m H)
 | [],i,v,h=>by simp at h
 |x::l,0,v,h=>by grind[AV.fZ]
 |x::l,i+1,v,h=>by simpa[AV.fZ]using D8 (l:=l) (i:=i) (by simpa using h)
theorem qt{m:Nat->Nat}{H:Nat->SE}:∀{l:List AV},(AV.fZ m H l).length=l.length
 | []=>rfl
 |x::l=>by simp[AV.fZ,qt (l:=l)]
theorem Kq{ok:Nat->Bool}:∀{l:List AV}{i:Nat}{v:AV},AV.gW ok l=true->l[i]? =some v->AV.ids ok v=true
 | [],i,v,_,h=>by simp at h
 |x::l,0,v,ho,h=>by grind[AV.gW]
 |x::l,i+1,v,ho,h=>by
  simp only[AV.gW,aw]at ho;exact Kq ho.2 (by simpa using h)
theorem yg:∀{n i:Nat},(EJ n)[i]? =if i<n then some .junk else none
 |0,i=>by simp[EJ]
 |n+1,0=>by simp[EJ]
 |n+1,i+1=>by
  simp only[EJ,kA,yg (n:=n) (i:=i)];by_cases h:i<n
  .rw[az h,az (by omega)]
  .rw[ai h,ai (by omega)]
theorem Bn{d:Nat}:∀{l:List (Nat×AV)}{t:Tr AV},(I1 l t).get d=none->t.get d=none
 | [],_,h=>h
 |x::l,t,h=>by
  have:=Bn (l:=l) (t:=t.set x.1 x.2) h;rw[Tr.bm]at this;split at this
  .cases this
  .exact this
theorem Q6{nt d:Nat}{l:List (Nat×AV)}(h:(Dv nt l).get d=none):nt<=d:=by
 have:=Bn h;rw[Tr.dG,yg]at this;split at this
 .cases this
 .next a=>exact Nat.not_lt.1 a
theorem D5{ok:Nat->Bool}{y:Nat×AV}:∀{l:List (Nat×AV)},Bf ok l=true->y∈l->AV.ids ok y.2=true
 |x::l,ho,h=>by
  simp only[Bf,aw]at ho;cases h with
  |head=>exact ho.1
  |tail _ h=>exact D5 ho.2 h
end
end Go.Proofs.YtokipodjggomfaaGreatDoor.Abs
namespace Go.Proofs.YtokipodjggomfaaGreatDoor.Abs
open Go
def hH(d:Nat):List (Nat×AV)->Option AV
 | []=>none
 |x::l=>match hH d l with
  |some v=>some v
  |none=>if x.1=d then some x.2 else none
theorem qY{d:Nat}{x:Nat×AV}{l:List (Nat×AV)}:hH d (x::l)=match hH d l with|some v=>some v|none=>if x.1=d then some x.2 else none:=rfl
theorem Bo{d:Nat}:∀{l:List (Nat×AV)}{t:Tr AV},(I1 l t).get d=match hH d l with|some v=>some v|none=>t.get d
 | [],t=>rfl
 |x::l,t=>by
  show(I1 l (t.set x.1 x.2)).get d=_;rw[Bo (l:=l),qY];cases h:hH d l with
  |some v=>rfl
  |none=>
   show(t.set x.1 x.2).get d=_;rw[Tr.bm];by_cases a:x.1=d
   .grind
   .grind
theorem uB{m:Nat->Nat}{H:Nat->SE}{d:Nat}:∀{l:List (Nat×AV)},hH d (vL m H l)=(hH d l).map (AV.sub m H)
 | []=>rfl
 |x::l=>by
  show(match hH d (vL m H l)with|some v=>some v|none=>if x.1=d then some (x.2.sub m H)else none)=_;rw[uB (l:=l),qY];cases h:hH d l with
  |some v=>rfl
  |none=>
   show(if x.1=d then some (x.2.sub m H)else none)=Option.map (AV.sub m H) (if x.1=d then some x.2 else none);by_cases a:x.1=d
   .rw[az a,az a];rfl
   .rw[ai a,ai a];rfl
theorem uC{d:Nat}{v:AV}:∀{l:List (Nat×AV)},hH d l=some v->(d,v)∈l
 | [],h=>by cases h
 |x::l,h=>by
  rw[qY]at h;cases A:hH d l with
  |some u=>rw[A]at h;obtain rfl:=ae h;exact bk _ (uC A)
  |none=>
   rw[A]at h;simp only at h;split at h
   .grind
   .cases h
theorem xQ{nt d:Nat}{l:List (Nat×AV)}:(Dv nt l).get d=match hH d l with|some v=>some v|none=>if d<nt then some .junk else none:=by unfold Dv;rw[Bo,Tr.dG,yg]
theorem D4{E:G}{nt:Nat}{l:List (Nat×AV)}{a:Array Value}(f:a.size=nt)(h:∀d v,hH d l=some v->d<nt/\∃c,a[d]? =some c/\VR E v c):aD E nt (Dv nt l) a:=by
 refine⟨f,λd v b=>?_,λd b=>?_⟩
 .rw[xQ]at b;cases e:hH d l with
  |some u=>rw[e]at b;obtain rfl:=ae b;exact h d _ e
  |none=>
   rw[e]at b;simp only at b;split at b
   .next A=>
    obtain rfl:=ae b;have:d<a.size:=by omega
    exact⟨A,a[d],dR this,.inl rfl⟩
   .cases b
 .have A:=Q6 b;unfold Array.getD;rw[dif_neg (by omega)]
theorem T9{m:Nat->Nat}{H:Nat->SE}{v:AV}(h:v.sub m H=.junk):v=.junk:=by
 cases v with
 |junk=>rfl
 |bS k e=>
  simp only[AV.sub,Pj]at h
  repeat' split at h
  all_goals cases h
 |_=>simp[AV.sub]at h
section
variable{tK yx:G}{xH Dr:Nat->Nat}{tH zK:Nat->SE}{ok:Nat->Bool}
theorem RR.vr (h:RR tK xH tH yx Dr zK ok) {v:AV} {c:Value} (ho:AV.ids ok v=true) (a:VR tK (v.sub xH tH) c):VR yx (v.sub Dr zK) c:=by
 rcases a with a|a
 .rw[T9 a];exact .inl rfl
 .exact .inr (h.ag v c ho a)
theorem RR.tmps (h:RR tK xH tH yx Dr zK ok) {nt:Nat} {l:List (Nat×AV)} {a:Array Value} (ho:Bf ok l=true) (b:aD tK nt (Dv nt (vL xH tH l)) a):aD yx nt (Dv nt (vL Dr zK l)) a:=by
 refine D4 b.1 λd v e=>?_
 rw[uB]at e;obtain⟨u,f,rfl⟩:=aN.1 e;obtain⟨A,c,I,W⟩:=b.2.1 d (u.sub xH tH) (by rw[xQ,uB,f];rfl);exact⟨A,c,I,h.vr (D5 ho (uC f)) W⟩
theorem RR.fE (h:RR tK xH tH yx Dr zK ok):∀{l:List AD}{r:List Deferred},AD.gW ok l=true->fE tK (AD.k9 xH tH l)=some r->fE yx (AD.k9 Dr zK l)=some r
 | [],r,_,e=>e
 |d::l,r,ho,e=>by
  simp only[AD.gW,aw]at ho;simp only[AD.k9,Go.Proofs.YtokipodjggomfaaGreatDoor.Abs.fE]at e ⊢;cases A:kY tK (d.sub xH tH)with
  |none=>simp[A]at e
  |some a=>
   cases I:Go.Proofs.YtokipodjggomfaaGreatDoor.Abs.fE tK (AD.k9 xH tH l)with
   |none=>simp[A,I]at e
   |some b=>
    have e1:kY yx (d.sub Dr zK)=some a:=by
     simp only[AD.sub,kY]at A ⊢;cases W:Go.Proofs.YtokipodjggomfaaGreatDoor.Abs.ag tK (d.target.sub xH tH)with
     |none=>simp[W]at A
     |some x=>
      rw[W]at A;rw[h.ag _ x ho.1.1 W];cases D:Go.Proofs.YtokipodjggomfaaGreatDoor.Abs.ax tK (AV.fZ xH tH d.args)with
      |none=>cases x<;>simp[D]at A
      |some y=>rw[D]at A;rw[h.ax _ y ho.1.2 D];exact A
    rw[A,I]at e;rw[e1,h.fE ho.2 I];exact e
theorem VM{d:TypeDesc}{k:AV}(Z:keyOf d k=true):Go.Proofs.YtokipodjggomfaaGreatDoor.Abs.ag tK k=Go.Proofs.YtokipodjggomfaaGreatDoor.Abs.ag yx k:=by cases d<;>cases k<;>first|rfl|(cases Z;done)
theorem vM{m:Nat->Nat}{H:Nat->SE}{d:TypeDesc}:∀{J:List ME},(∀e∈ME.k9 m H J,keyOf d e.k=true)↔∀e∈J,keyOf d e.k=true
 | []=>by simp[ME.k9]
 |e::J=>by
  simp only[ME.k9,bQ,forall_eq_or_imp];rw[vM]
theorem RR.a1o (h:RR tK xH tH yx Dr zK ok) {d:TypeDesc}:∀{J:List ME}{ms:List MapEntry},ME.gW ok J=true->(∀e∈J,keyOf d e.k=true)->db tK (ME.k9 xH tH J) ms->db yx (ME.k9 Dr zK J) ms
 | [],[],_,_,_=>trivial
 | [],_::_,_,_,a=>a.elim
 |_::_,[],_,_,a=>a.elim
 |e::J,m::ms,ho,Z,a=>by
  simp only[ME.gW,aw]at ho;obtain⟨⟨m1,m2,m3⟩,m4⟩:=a;refine⟨⟨?_,h.ag _ _ ho.1 m2,m3⟩,h.a1o ho.2 (λx Y=>Z x (bk _ Y)) m4⟩;rw[<-m1];exact(VM (Z e aV)).symm
theorem RR.W3 (h:RR tK xH tH yx Dr zK ok) {C:Ctx} {g:CB} (ho:g.ids ok=true) {j m:Loc} (e1:m.dl=j.dl) (e2:m.cp=j.cp) {o:Obj} (f:cw C tK j (g.sub xH tH).ay o):cw C yx m (g.sub Dr zK).ay o:=by
 cases g with
 |cells e cs fz st sg=>obtain⟨vs,lo,V,rfl,g1,g2,g3,g4,g5⟩:=f;rw[qt]at g1 g3;refine⟨vs,lo,V,rfl,by rw[qt,e1];exact g1,λi v V r=>?_,by rw[qt,e1,e2];exact g3,by rw[e1];exact g4,g5⟩;rw[Tr.dG]at r;obtain⟨u,s,rfl⟩:=IL r;obtain⟨c,n,p⟩:=g2 i (u.sub xH tH) (by rw[qt]at V ⊢;exact V) (by rw[Tr.dG];exact D8 s);exact⟨c,by rw[e1];exact n,h.vr (Kq ho s) p⟩
 |eC ds=>obtain⟨l,g1,rfl⟩:=f;exact⟨l,h.fE ho g1,rfl⟩
 |loop st pe fn nt tm ps a b d=>simp only[CB.ids,aw]at ho;obtain⟨arr,ld,g1,g2,rfl⟩:=f;obtain⟨q,n,p, -⟩:=h.ay d ld ho.2 g2;exact⟨arr,q,h.tmps ho.1 g1,n,by rw[p]⟩
 |vec el e=>obtain⟨vs,lo,V,J,rfl,g1,g2,g3,g4⟩:=f;exact⟨vs,lo,V,J,rfl,h.se e _ g1,by rw[e1];exact g2,by rw[e1,e2];exact g3,by rw[e1];exact g4⟩
 |Dp e k zs=>exact f
 |map J c=>obtain⟨gG,rfl,g1,d,g2⟩:=f;exact⟨gG,rfl,h.a1o (d:=d) ho (vM.1 g2) g1,d,vM.2 (vM.1 g2)⟩
end
theorem mb{a:CB}:dm a.ay= !a.live:=by cases a<;>simp[CB.ay,dm,CB.live]
theorem l7{m:Nat->Nat}{H:Nat->SE}{a:CB}:(a.sub m H).live=a.live:=by cases a<;>rfl
theorem eV{E:G}:∀(e:SE),aj E (e.sub .var)=aj E e
 | .var _| .int _ _| .bool _| .str _=>rfl
 | .a1 o x=>by simp only[SE.sub,aj,eV x]
 | .a2 o x y=>by simp only[SE.sub,aj,eV x,eV y]
 | .a3 o x y z=>by simp only[SE.sub,aj,eV x,eV y,eV z]
theorem Ee{E:G}:∀(l:List SE),gZ E (SE.fZ .var l)=gZ E l
 | []=>rfl
 |x::l=>by simp only[SE.fZ,gZ,eV x,Ee l]
mutual
theorem uS{E:G}:∀(v:AV),ag E (v.sub SV .var)=ag E v
 | .int _ _| .bool _| .str _| .o9| .dh| .iw| .p0| .lY| .raw _| .junk=>rfl
 | .ptr _ _| .sl _ _ _ _| .np _ _ _ _ _| .l5 _| .yield _=>rfl
 | .bS k e=>by simp only[AV.sub,uT,ag,eV]
 | .gR b n c=>by simp only[AV.sub,ag,eV];rfl
 | .gS b i g k=>by simp only[AV.sub,ag,eV];rfl
 | .fn f a b=>by simp only[AV.sub,ag,ki a,ki b]
 | .iface t v=>by simp only[AV.sub,ag,uS v]
 | .agg l=>by simp only[AV.sub,ag,ki l]
 | .jy l=>by simp only[AV.sub,ag,ki l]
theorem ki{E:G}:∀(l:List AV),ax E (AV.fZ SV .var l)=ax E l
 | []=>rfl
 |v::l=>by simp only[AV.fZ,ax,uS v,ki l]
end
end Go.Proofs.YtokipodjggomfaaGreatDoor.Abs
namespace Go.Proofs.YtokipodjggomfaaGreatDoor.Abs
open Go
theorem w7:∀(v:AV),AV.ids (λ_=>true) v=true:=by
 have key:(∀v:AV,AV.ids (λ_=>true) v=true)/\∀l:List AV,AV.gW (λ_=>true) l=true:=by
  refine⟨λv=>?_,λl=>?_⟩
  .exact(AV.rec (motive_1:=λv=>AV.ids (λ_=>true) v=true) (motive_2:=λl=>AV.gW (λ_=>true) l=true)
    (λ_ _=>rfl) (λ_=>rfl) (λ_=>rfl) (λ_ _=>rfl) rfl (λ_ _ _ _=>rfl) (λ_ _ _ _ _=>rfl) rfl (λ_=>rfl) rfl
    (λ_ _ _ A I=>by simp only[AV.ids,A,I,oC]) (λ_=>rfl) rfl (λ_ _ h=>h) rfl (λ_ h=>h) (λ_ h=>h) rfl (λ_=>rfl) (λ_ _=>rfl) (λ_ _ _=>rfl) (λ_ _ _ _=>rfl) rfl
    (λ_ _ A I=>by simp only[AV.gW,A,I,oC]) v)
  .induction l with
   |nil=>rfl
   |cons v l a=>
    simp only[AV.gW,a,Bool.and_true];exact(AV.rec (motive_1:=λv=>AV.ids (λ_=>true) v=true) (motive_2:=λl=>AV.gW (λ_=>true) l=true)
     (λ_ _=>rfl) (λ_=>rfl) (λ_=>rfl) (λ_ _=>rfl) rfl (λ_ _ _ _=>rfl) (λ_ _ _ _ _=>rfl) rfl (λ_=>rfl) rfl
     (λ_ _ _ A I=>by simp only[AV.ids,A,I,oC]) (λ_=>rfl) rfl (λ_ _ h=>h) rfl (λ_ h=>h) (λ_ h=>h) rfl (λ_=>rfl) (λ_ _=>rfl) (λ_ _ _=>rfl) (λ_ _ _ _=>rfl) rfl
     (λ_ _ A I=>by simp only[AV.gW,A,I,oC]) v)
 exact key.1
theorem yi:∀(l:List AV),AV.gW (λ_=>true) l=true
 | []=>rfl
 |v::l=>by simp only[AV.gW,w7 v,yi l,oC]
theorem Di:∀(l:List AD),AD.gW (λ_=>true) l=true
 | []=>rfl
 |d::l=>by simp only[AD.gW,w7,yi,Di l,oC]
theorem uc:∀(l:List (Nat×AV)),Bf (λ_=>true) l=true
 | []=>rfl
 |x::l=>by simp only[Bf,w7,uc l,oC]
theorem Ci:∀(l:List ME),ME.gW (λ_=>true) l=true
 | []=>rfl
 |x::l=>by simp only[ME.gW,w7,Ci l,oC]
theorem Np(a:CB):a.ids (λ_=>true)=true:=by
 cases a with
 |cells=>exact yi _
 |eC=>exact Di _
 |loop=>simp only[CB.ids,uc,oC]
 |vec=>rfl
 |Dp=>rfl
 |map=>exact Ci _
theorem Dh:∀{x y:List AD},K4 x y=true->x=y
 | [],[],_=>rfl
 | [],_::_,h=>by cases h
 |_::_,[],h=>by cases h
 |a::x,b::y,h=>by
  simp only[K4,aw]at h;obtain⟨A,I,W⟩:=h;cases a;cases b;rw[Dh W];congr 1;rw[AD.mk.injEq];exact⟨fU _ _ A,jW _ _ I⟩
theorem w4{α:Type}{o:Option α}(h:w5 o=true):∃a,o=some a:=by
 cases o with
 |none=>cases h
 |some a=>exact⟨a,rfl⟩
theorem Km{v:AV}(h:lk v=true):v=.junk:=by cases v<;>first|rfl|cases h
theorem qo{t:Tr AV}:∀{l:List (Nat×AV)},oM t l=true->∀x∈l,(x.2=.junk/\∃u,t.get x.1=some u)\/t.get x.1=some x.2
 | [],_,x,Y=>by cases Y
 |y::l,h,x,Y=>by
  unfold oM at h;cases a:lk y.2 with
  |true=>
   rw[a]at h;simp only[aw]at h;cases Y with
   |head=>exact .inl ⟨Km a,w4 h.1⟩
   |tail _ Y=>exact qo h.2 x Y
  |false=>
   rw[a]at h;simp only at h;cases b:t.get y.1 with
   |none=>rw[b]at h;cases h
   |some u=>
    rw[b]at h;simp only[aw]at h;cases Y with
    |head=>exact .inr (by rw[b,fU _ _ h.1])
    |tail _ Y=>exact qo h.2 x Y
theorem vK{E:G}{nt:Nat}{t:Tr AV}{l:List (Nat×AV)}{a:Array Value}(h:oM t l=true)(b:aD E nt t a):aD E nt (Dv nt l) a:=by
 refine D4 b.1 λd v e=>?_
 rcases qo h _ (uC e)with⟨A,u,I⟩|A
 .obtain⟨g1,c,g2, -⟩:=b.2.1 d u I;exact⟨g1,c,g2,.inl A⟩
 .exact b.2.1 d v A
theorem mU{b:eD}{g:CB}(h:nB b g=true):(∀(C:Ctx)(E:G)(l:Loc)(o:Obj),cw C E l b o->cw C E l g.ay o)/\dm b= !g.live:=by
 cases g with
 |cells s l M2 j t=>
  cases b with
  |cells e cs n fz fh st sg=>
   simp only[nB,aw]at h;obtain⟨A,I,W,D,h5,h6⟩:=h;obtain rfl:=aL A;have I:l.length<=n:=bn I;obtain rfl:=aL W;obtain rfl:=fO _ _ D;obtain rfl:=fO _ _ h5;refine⟨λC E F o f=>?_,by simp[dm,CB.live]⟩;obtain⟨vs,lo,V,rfl,g1,g2,⟨ti,g3,u,m⟩,g4⟩:=f;refine⟨vs,lo,V,rfl,by omega,λi v K r=>?_,⟨ti,g3,by omega,m⟩,g4⟩;rw[Tr.dG]at r;rcases rv h6 i v r with rfl|N
   .have p:F.dl+i<vs.size:=by omega
    exact⟨vs[F.dl+i],dR p,.inl rfl⟩
   .grind
  |_=>cases h
 |eC l=>
  cases b with
  |eC d=>
   cases d with
   |none=>cases h
   |some O=>obtain rfl:=Dh (show K4 O l=true from h);exact⟨λ_ _ _ _ f=>f,rfl⟩
  |_=>cases h
 |loop st pe fn nt tm ps a c d=>
  cases b with
  |loop j w x y z B a' c' d'=>simp only[nB,aw]at h;obtain⟨A,H,I,W,D,h5,h6,h7,L⟩:=h;obtain rfl:=fO _ _ A;obtain rfl:=wM dj H;obtain rfl:=ct _ _ I;obtain rfl:=ct _ _ W;obtain rfl:=qZ ct h5;obtain rfl:=dj _ _ h6;obtain rfl:=dj _ _ h7;obtain rfl:=ct _ _ L;refine⟨λC E F o f=>?_,rfl⟩;obtain⟨arr,ld,g1,g2,rfl⟩:=f;exact⟨arr,ld,vK D g1,g2,rfl⟩
  |_=>cases h
 |vec el e=>
  cases b with
  |vec q s=>simp only[nB,aw]at h;obtain rfl:=aL h.1;obtain rfl:=aK h.2;exact⟨λ_ _ _ _ f=>f,rfl⟩
  |_=>cases h
 |Dp el k zs=>
  cases b with
  |Dp q k' M=>simp only[nB,aw]at h;obtain rfl:=aL h.1;obtain rfl:=dP h.2.1;obtain rfl:=qZ fO h.2.2;exact⟨λ_ _ _ _ f=>f,rfl⟩
  |_=>cases h
 |map J c=>
  cases b with
  |map j7 c'=>simp only[nB,aw]at h;obtain rfl:=aL h.1;obtain rfl:=Ch h.2;exact⟨λ_ _ _ _ f=>f,rfl⟩
  |_=>cases h
theorem Kj(x y:bH)(h:Hh x y=true):x=y:=by cases x<;>cases y<;>simp only[Hh,dY]at h<;>first|rfl|rw[dj _ _ h]|rw[ct _ _ h]
theorem s9{h:Tr eD}{m:Nat->Nat}{H:Nat->SE}{ids:List Nat}:∀{l:List (Nat×CB)},lP h m H ids l=true->∀x∈l,∃b,h.get (m x.1)=some b/\nB b (x.2.sub m H)=true/\∀a∈zG b,a ∉ ids
 | [],_,x,Y=>by cases Y
 |y::l,e,x,Y=>by
  unfold lP at e;cases c:h.get (m y.1)with
  |none=>rw[c]at e;cases e
  |some b=>
   rw[c]at e;simp only[aw]at e;cases Y with
   |head=>exact⟨b,c,e.1,yX e.2.1⟩
   |tail _ Y=>exact s9 e.2.2 x Y
theorem lZ{m:Nat->Nat}{x:Nat×CB}:∀{l:List (Nat×CB)},x∈l->m x.1∈jk m l
 |y::l,h=>by
  unfold jk;cases h with
  |head=>exact aV
  |tail _ h=>exact bk _ (lZ h)
theorem Ca:∀{l:List Nat}{t:Tr Unit}{a:Nat},o8 l t=true->a∈l->t.get a=none
 |b::l,t,a,h,c=>by
  unfold o8 at h;cases d:t.get b with
  |some u=>rw[d]at h;cases h
  |none=>
   rw[d]at h;cases c with
   |head=>exact d
   |tail _ c=>
    have:=Ca h c;rw[Tr.bm]at this;split at this
    .cases this
    .exact this
theorem J0{l:List Nat}{t:Tr Unit}{a:Nat}(h:o8 (a::l) t=true):a ∉ l/\∃Q,o8 l Q=true:=by
 unfold o8 at h;cases b:t.get a with
 |some u=>rw[b]at h;cases h
 |none=>rw[b]at h;refine⟨λc=>?_,_,h⟩;have:=Ca h c;rw[Tr.get_set_same]at this;cases this
theorem yY{m:Nat->Nat}:∀{l:List (Nat×CB)}{t:Tr Unit},o8 (jk m l) t=true->∀x∈l,∀y∈l,x.1≠y.1->m x.1≠m y.1
 | [],_,_,x,Y,_,_,_=>by cases Y
 |z::l,t,h,x,Y,y,a,b=>by
  obtain⟨c,Q,I⟩:=J0 (show o8 (m z.1::jk m l) t=true from h);cases Y with
  |head=>
   cases a with
   |head=>exact absurd rfl b
   |tail _ a=>exactλe=>c (by rw[e];exact lZ a)
  |tail _ Y=>
   cases a with
   |head=>exactλe=>c (by rw[<-e];exact lZ Y)
   |tail _ a=>exact yY I x Y y a b
theorem B9{m:Nat->Nat}{l:List (Nat×CB)}(h:G1 (jk m l)=true):∀x∈l,∀y∈l,x.1≠y.1->m x.1≠m y.1:=yY h
theorem ym{m:Nat->Nat}{H:Nat->SE}{id:Nat}{b:eD}:∀{l:List (Nat×CB)}{h:Tr eD},(I3 m H l h).get id=some b->(∃x∈l,m x.1=id/\b=(x.2.sub m H).ay)\/h.get id=some b
 | [],_,e=>.inr e
 |x::l,h,e=>by
  rcases ym (l:=l) (h:=h.set (m x.1) (x.2.sub m H).ay) e with⟨y,a,A,I⟩|A
  .grind
  .grind[Tr.bm]
theorem rn{c:Tr eD}{m:Nat->Nat}{id:Nat}{b:eD}:∀{l:List (Nat×CB)}{h:Tr eD},(xn c m l h).get id=some b->
  h.get id=some b/\∀x∈l,CB.live x.2=true->id≠m x.1/\id ∉ Dg c (m x.1)
 | [],_,e=>⟨e,λx Y=>by cases Y⟩
 |x::l,h,e=>by
  unfold xn at e;cases d:CB.live x.2 with
  |false=>
   rw[d]at e;obtain⟨A,I⟩:=rn (l:=l) (h:=h) e;refine⟨A,λy f a=>?_⟩;cases f with
   |head=>rw[d]at a;cases a
   |tail _ f=>exact I y f a
  |true=>
   rw[d]at e;obtain⟨A,I⟩:=rn (l:=l) (h:=(kH (Dg c (m x.1)) h).del (m x.1)) e;rw[Tr.sF]at A;split at A
   .cases A
   .grind[CE]
theorem ye{α:Type}{i:Nat}{a:α}:∀{l:List (Nat×α)},ke i l=some a->(i,a)∈l
 | [],h=>by cases h
 |x::l,h=>by
  unfold ke at h;cases b:Nat.beq x.1 i with
  |true=>rw[b]at h;obtain rfl:=aL b;obtain rfl:=ae h;exact aV
  |false=>rw[b]at h;exact bk _ (ye h)
theorem xR{nG:Nat}{h:Tr eD}{n:Nat}:∀{l:List (Nat×Nat)},D7 nG h n l=true->∀x∈l,(∃b,h.get x.2=some b)/\x.1<n/\(x.1<nG->x.2=x.1)
 | [],_,x,Y=>by cases Y
 |y::l,e,x,Y=>by
  simp only[D7,aw]at e;cases Y with
  |head=>
   refine⟨w4 e.1,bn e.2.1,λa=>?_⟩;have:=e.2.2.1;simp only[fW]at this;rcases this with A|A
   .exact absurd a (Nat.not_lt.2 (bn A))
   .exact(aL A).symm
  |tail _ Y=>exact xR e.2.2.2 x Y
def Ds(E:G)(n:Nat)(m:Nat->Nat)(H:Nat->SE):G:=λi=>
 if i<n then some (match E (m i)with|some l=>⟨l.ay,l.dl,l.cp,aj E (H i)⟩|none=>⟨0,0,0,aj E (H i)⟩)else none
end Go.Proofs.YtokipodjggomfaaGreatDoor.Abs
namespace Go.Proofs.YtokipodjggomfaaGreatDoor.Abs
open Go
section
variable{C:Ctx}{base:Nat}{E:G}{s:S}{w:World}
theorem Ej{nG n next:Nat}{l:List (Nat×Nat)}{i:Nat}(h:n<=i):cU nG n next l i=next:=by
 unfold cU;cases a:Nat.blt i n with
 |false=>rfl
 |true=>exact absurd (bn a) (by omega)
theorem Rh{nG n:Nat}{l:List (Nat×SE)}{i:Nat}(h:n<=i):dT nG n l i=E1:=by
 unfold dT;cases a:Nat.blt i n with
 |false=>rfl
 |true=>exact absurd (bn a) (by omega)
theorem js{i n:Nat}(h:i<n):Nat.blt i n=true:=xM h
theorem lC{i n:Nat}(h:n<=i):Nat.blt i n=false:=by
 cases a:Nat.blt i n with
 |false=>rfl
 |true=>exact absurd (bn a) (by omega)
theorem Be{α:Type}(i:Nat):∀(l:List (Nat×α)),(X0 l).get i=ke i l
 | []=>rfl
 |x::l=>by
  unfold X0 ke;rw[Tr.bm,Be i l];cases a:Nat.beq x.1 i with
  |true=>rw[az (aL a)]
  |false=>rw[ai λh=>by rw[h,show Nat.beq i i=true from rK i]at a;cases a]
theorem Bx{nG n next:Nat}{l:List (Nat×Nat)}{i j:Nat}(h:i<n)(a:ke i l=some j):cU nG n next l i=j:=by grind[cU,js,Be]
theorem By{nG n next:Nat}{l:List (Nat×Nat)}{i:Nat}(h:i<n)(a:ke i l=none)(b:i<nG):cU nG n next l i=i:=by grind[cU,js,Be]
theorem qh{n:Nat}{m:Nat->Nat}{H:Nat->SE}{i:Nat}(h:i<n):∃l,Ds E n m H i=some l/\l.v=aj E (H i)/\∀l0,E (m i)=some l0->l.ay=l0.ay/\l.dl=l0.dl/\l.cp=l0.cp:=by
 unfold Ds;rw[az h];cases b:E (m i)with
 |none=>exact⟨_,rfl,rfl,λl0 a=>by cases a⟩
 |some l=>exact⟨_,rfl,rfl,λl0 a=>by obtain rfl:=ae a;exact⟨rfl,rfl,rfl⟩⟩
theorem Uu(a:Rel C base E s w){n:Nat}{rl:List (Nat×Nat)}{sl:List (Nat×SE)}:
  RR E (cU C.nG n s.next rl) (dT C.nG n sl) (Ds E n (cU C.nG n s.next rl) (dT C.nG n sl)) SV .var (λ_=>true):=by
 refine⟨λi l _ h=>?_,λi d h=>?_⟩
 .rcases cV i n with V|V
  .obtain⟨O,A, -,I⟩:=qh (E:=E) (m:=cU C.nG n s.next rl) (H:=dT C.nG n sl) V;exact⟨O,A,I l h⟩
  .rw[Ej V,a.new _ (aX _)]at h;cases h
 .rcases cV i n with V|V
  .obtain⟨O,A,I, -⟩:=qh (E:=E) (m:=cU C.nG n s.next rl) (H:=dT C.nG n sl) V;simp only[aj,A,aW,I];exact h
  .rw[Rh V]at h;cases h
theorem CJ{f:Fact}:(f.sub .var).holds E↔f.holds E:=by
 cases f with
 |tr e=>simp only[Fact.sub,Fact.holds,eV]
 |fl e=>simp only[Fact.sub,Fact.holds,eV]
 |inr i n=>simp only[Fact.sub,Fact.holds,eV]
 |rel nm b p l=>cases b<;>simp only[Fact.sub,Fact.holds,Ee]
theorem HG{f:Fact}{H:Nat->SE}:(f.sub H).pos=f.pos:=by cases f<;>rfl
theorem kl{c:bp}{id:Nat}{b:eD}(h:c.S.h.get id=some b):∃x∈c.pre,x.1=id/\b=(x.2.sub SV .var).ay:=by
 rcases ym h with h|h
 .exact h
 .cases h
theorem uu(g:Rel C base E s w){c:bp}{rl:List (Nat×Nat)}{sl:List (Nat×SE)}
  (b:lP s.h (cU C.nG c.n s.next rl) (dT C.nG c.n sl) (jk (cU C.nG c.n s.next rl) c.pre) c.pre=true) {x:Nat×CB} (Y:x∈c.pre):
  ∃b0 l o d,s.h.get (cU C.nG c.n s.next rl x.1)=some b0/\E (cU C.nG c.n s.next rl x.1)=some l/\w.heap[l.ay]? =some o/\x.1<c.n/\
   Ds E c.n (cU C.nG c.n s.next rl) (dT C.nG c.n sl) x.1=some d/\d.ay=l.ay/\
   cw C (Ds E c.n (cU C.nG c.n s.next rl) (dT C.nG c.n sl)) d (x.2.sub SV .var).ay o/\dm b0= !x.2.live/\∀a∈zG b0,a ∉ jk (cU C.nG c.n s.next rl) c.pre:=by
 obtain⟨b0,i,j,k⟩:=s9 b x Y;obtain⟨l,o,f,r2,p⟩:=g.ay _ _ i;have e:x.1<c.n:=by
  rcases cV x.1 c.n with h|h
  .exact h
  .rw[Ej h,g.new _ (aX _)]at f;cases f
 obtain⟨d,A, -,I⟩:=qh (E:=E) (m:=cU C.nG c.n s.next rl) (H:=dT C.nG c.n sl) e;obtain⟨e1,e2,e3⟩:=I l f;refine⟨b0,l,o,d,i,f,r2,e,A,e1,(Uu g).W3 (Np _) e2 e3 ((mU j).1 C E l o p),?_,k⟩;rw[(mU j).2,l7]
theorem YD(e:Rel C base E s w){c:bp}{rl:List (Nat×Nat)}{sl:List (Nat×SE)}
  (a:lP s.h (cU C.nG c.n s.next rl) (dT C.nG c.n sl) (jk (cU C.nG c.n s.next rl) c.pre) c.pre=true)
  (F:G1 (jk (cU C.nG c.n s.next rl) c.pre)=true) (G:D7 C.nG s.h c.n rl=true) (J:Nat.ble C.nG c.n=true)
  (K:∀f∈c.facts,f.pos=true/\(f.sub (dT C.nG c.n sl)).holds E):Rel C base (Ds E c.n (cU C.nG c.n s.next rl) (dT C.nG c.n sl)) c.S w:=by
 refine⟨λid b hb=>?_,λid u b N l O A I W D L he=>?_,λid p=>?_,λg z=>?_,λid b l A I W=>?_,e.bs,λf M=>?_,λid l d A I=>?_⟩
 .grind[kl,uu]
 .obtain⟨x,Y,rfl,rfl⟩:=kl A;obtain⟨y,R,rfl,rfl⟩:=kl I;obtain⟨b0,l0,o,U,r,t,V, -,i,v,X,B,q9⟩:=uu e a Y;obtain⟨b1,l1,T,lR',p1,p2,p3, -,p5,p6,p7,p8,p9⟩:=uu e a R;rw[W]at i;obtain rfl:=ae i;rw[D]at p5;obtain rfl:=ae p5;rcases e.sep _ _ b0 b1 l0 l1 r p1 t p2 (B9 F x Y y R L) (by rw[<-v,<-p6];exact he)with h|h
  .grind[lZ,yw]
  .grind[lZ,yw]
 .unfold Ds;have:c.n<=id:=p;rw[ai (by omega)]
 .have q:g<c.n:=iT z (bn J);obtain⟨l0,g1,g2,g3⟩:=e.eM g z;have P:cU C.nG c.n s.next rl g=g:=by
   cases Q:ke g rl with
   |none=>exact By q Q z
   |some j=>rw[Bx q Q];exact(xR G _ (ye Q)).2.2 z
  obtain⟨l,A, -,I⟩:=qh (E:=E) (m:=cU C.nG c.n s.next rl) (H:=dT C.nG c.n sl) q;obtain⟨e1,e2,e3⟩:=I l0 (by rw[P];exact g1);exact⟨l,A,by rw[e1];exact g2,by rw[e2];exact g3⟩
 .obtain⟨x,Y,rfl,rfl⟩:=kl A;obtain⟨b0,l0,o,U,r,t,V, -,i,v,X,B, -⟩:=uu e a Y;rw[I]at i;obtain rfl:=ae i;rw[mb,l7,<-B];exact e.low _ b0 l0 r t (by rw[<-v];exact W)
 .exact⟨(K f M).1,CJ.1 ((Uu e).fact (K f M).1 (K f M).2)⟩
 .have p:id<c.n:=by
    rcases cV id c.n with h|h
    .exact h
    .grind[Ds]
  obtain⟨O,k1,k2, -⟩:=qh (E:=E) (m:=cU C.nG c.n s.next rl) (H:=dT C.nG c.n sl) p;rw[A]at k1;obtain rfl:=ae k1;rw[I]at k2;refine Dt.c6.stays (λk Z=>⟨⟨Z.1,λhh=>Z.2.1 ?_,Z.2.2⟩,rfl⟩) d (eh (λid l d A I=>e.rd id l d A I) _ d k2.symm);obtain⟨id2,b,l2,r1,r2,r3,r4⟩:=hh;obtain⟨x,Y,rfl,rfl⟩:=kl r1;obtain⟨b0,l0,o,U,r,t,V, -,i,v,X,B, -⟩:=uu e a Y;rw[r3]at i;obtain rfl:=ae i;exact⟨_,b0,l0,r,by rw[B];rw[mb,l7]at r2;exact r2,t,by rw[<-v];exact r4⟩
theorem Gb{e:SE}:(∃ds,gZ E [e]=some ds/\dk ds)↔aj E e=some (.val (.bool true)):=by
 constructor
 .rintro⟨ds,A,rfl⟩;simp only[gZ,bW,aN]at A;obtain⟨d,a,r,b,e⟩:=A;injection e with e _;rw[a,e]
 .exactλh=>⟨_,a2u h,rfl⟩
theorem LX{e:SE}:(∃ds,gZ E [e]=some ds/\pFl ds)↔aj E e=some (.val (.bool false)):=by
 constructor
 .rintro⟨ds,A,rfl⟩;simp only[gZ,bW,aN]at A;obtain⟨d,a,r,b,e⟩:=A;injection e with e _;rw[a,e]
 .exactλh=>⟨_,a2u h,rfl⟩
theorem BE{i n:SE}:(∃ds,gZ E [i,n]=some ds/\ee ds)↔(Fact.inr i n).holds E:=by
 constructor
 .rintro⟨ds,A,k,a,m,rfl,I,W⟩;simp only[gZ,bW,aN]at A;obtain⟨d,c,r,⟨d',b,f,g,rfl⟩,e⟩:=A;injection e with e1 e;injection e with e2 _;exact⟨k,a,m,by rw[c,e1],by rw[b,e2],I,W⟩
 .rintro⟨k,a,m,A,I,W,D⟩;exact⟨_,vU A I,k,a,m,rfl,W,D⟩
theorem uI{e:SE}:∀{pc:List Fact},(∀f∈pc,f.holds E)->th e pc=true->(Fact.tr e).holds E
 | [],_,h=>by cases h
 |f::l,a,h=>by
  have rest:=λ(c:th e l=true)=>uI (pc:=l) (λf d=>a f (bk _ d)) c
  cases f with
  |tr x=>
   simp only[th]at h;cases b:b5 x e with
   |false=>rw[b]at h;exact rest h
   |true=>rw[<-aK b];exact a _ aV
  |fl _=>exact rest h
  |inr _ _=>exact rest h
  |rel _ _ _ _=>exact rest h
theorem uJ{e:SE}:∀{pc:List Fact},(∀f∈pc,f.holds E)->tj e pc=true->(Fact.fl e).holds E
 | [],_,h=>by cases h
 |f::l,a,h=>by
  have rest:=λ(c:tj e l=true)=>uJ (pc:=l) (λf d=>a f (bk _ d)) c
  cases f with
  |fl x=>
   simp only[tj]at h;cases b:b5 x e with
   |false=>rw[b]at h;exact rest h
   |true=>rw[<-aK b];exact a _ aV
  |tr _=>exact rest h
  |inr _ _=>exact rest h
  |rel _ _ _ _=>exact rest h
theorem ri{i n:SE}:∀{pc:List Fact},(∀f∈pc,f.holds E)->nz i n pc=true->(Fact.inr i n).holds E
 | [],_,h=>by cases h
 |f::l,a,h=>by
  have rest:=λ(c:nz i n l=true)=>ri (pc:=l) (λf d=>a f (bk _ d)) c
  cases f with
  |inr j m=>
   simp only[nz]at h;cases b:b5 j i&&b5 m n with
   |false=>rw[b]at h;exact rest h
   |true=>obtain⟨e,g⟩:=kz.1 b;rw[<-aK e,<-aK g];exact a _ aV
  |tr _=>exact rest h
  |fl _=>exact rest h
  |rel _ _ _ _=>exact rest h
theorem jf{H:Nat->SE}{pc:List Fact}(c:∀f∈pc,f.holds E):∀l:List Fact,(cP pc H l).path (λ_=>∀f∈l,f.pos=true/\(f.sub H).holds E)
 | []=>λf a=>by cases a
 | .tr e::l=>by
   have go:(Fact.tr (SE.sub H e)).holds E->(cP pc H l).path (λ_=>∀f∈Fact.tr e::l,f.pos=true/\(f.sub H).holds E):=λg=>R.aE (λ_ h f a=>by
    cases a with
    |head=>exact⟨rfl,g⟩
    |tail _ a=>exact h f a) (jf c l)
   show(match th (SE.sub H e) pc with|true=>cP pc H l|false=>R.must (.rel "tr" true dk [SE.sub H e]::pc) (cP pc H l)).path _;cases Z:th (SE.sub H e) pc with
   |true=>exact go (uI c Z)
   |false=>
    by_cases d:∃ds,gZ E [SE.sub H e]=some ds/\dk ds
    .exact .inr (go (Gb.1 d))
    .refine .inl ⟨E,λf a=>?_⟩;cases a with
     |head=>exact d
     |tail _ a=>exact c f a
 | .fl e::l=>by
   have go:(Fact.fl (SE.sub H e)).holds E->(cP pc H l).path (λ_=>∀f∈Fact.fl e::l,f.pos=true/\(f.sub H).holds E):=λg=>R.aE (λ_ h f a=>by
    cases a with
    |head=>exact⟨rfl,g⟩
    |tail _ a=>exact h f a) (jf c l)
   show(match tj (SE.sub H e) pc with|true=>cP pc H l|false=>R.must (.rel "fl" true pFl [SE.sub H e]::pc) (cP pc H l)).path _;cases Z:tj (SE.sub H e) pc with
   |true=>exact go (uJ c Z)
   |false=>
    by_cases d:∃ds,gZ E [SE.sub H e]=some ds/\pFl ds
    .exact .inr (go (LX.1 d))
    .refine .inl ⟨E,λf a=>?_⟩;cases a with
     |head=>exact d
     |tail _ a=>exact c f a
 | .inr i n::l=>by
   have go:(Fact.inr (SE.sub H i) (SE.sub H n)).holds E->(cP pc H l).path (λ_=>∀f∈Fact.inr i n::l,f.pos=true/\(f.sub H).holds E):=λg=>R.aE (λ_ h f a=>by
    cases a with
    |head=>exact⟨rfl,g⟩
    |tail _ a=>exact h f a) (jf c l)
   show(match nz (SE.sub H i) (SE.sub H n) pc with|true=>cP pc H l|false=>R.must (.rel "in" true ee [SE.sub H i,SE.sub H n]::pc) (cP pc H l)).path _;cases Z:nz (SE.sub H i) (SE.sub H n) pc with
   |true=>exact go (ri c Z)
   |false=>
    by_cases d:∃ds,gZ E [SE.sub H i,SE.sub H n]=some ds/\ee ds
    .exact .inr (go (BE.1 d))
    .refine .inl ⟨E,λf a=>?_⟩;cases a with
     |head=>exact d
     |tail _ a=>exact c f a
 | .rel nm b p args::l=>by
   cases b with
   |true=>trivial
   |false=>
    by_cases d:∃ds,gZ E (SE.fZ H args)=some ds/\p ds
    .refine .inr (R.aE (λ_ h f a=>?_) (jf c l));cases a with
     |head=>exact⟨rfl,d⟩
     |tail _ a=>exact h f a
    .refine .inl ⟨E,λf a=>?_⟩;cases a with
     |head=>exact d
     |tail _ a=>exact c f a
theorem EK{B:G}{m:Nat->Nat}(h:∀i l,E (m i)=some l->∃O,B i=some O/\O.ay=l.ay):∀{l:List bH}{r:List Item},gJ E (bH.k9 m l)=some r->gJ B l=some r
 | [],r,e=>e
 |x::l,r,e=>by
  obtain⟨a,b,c,f,rfl⟩:=cB.1 e;refine cB.2 ⟨a,b,?_,EK h f,rfl⟩;cases x with
  |inRange i=>simp only[bH.sub,iI,aN]at c ⊢;obtain⟨l0,A,rfl⟩:=c;obtain⟨d,I,W⟩:=h i l0 A;exact⟨d,I,by rw[W]⟩
  |endRange i=>simp only[bH.sub,iI,aN]at c ⊢;obtain⟨l0,A,rfl⟩:=c;obtain⟨d,I,W⟩:=h i l0 A;exact⟨d,I,by rw[W]⟩
  |_=>exact c
end
end Go.Proofs.YtokipodjggomfaaGreatDoor.Abs
namespace Go.Proofs.YtokipodjggomfaaGreatDoor.Abs
open Go
section
variable{C:Ctx}{base:Nat}{E:G}{s:S}{w M:World}
theorem Yc{P:Program}{a:Frame}{cs:List Frame}{b:Nat}{l ds:List Deferred}(d:a.mode=.returning)(e:a.defers={ target:=.collected b,args:=#[] }::ds)(c:w.heap[b]? =some (.deferred (some l))):
  step P (lone a cs w)=.next (lone { a with defers:=l++ds } cs { w with heap:=w.heap.setIfInBounds b (.deferred none) }):=by
 have A:(getObj b).run P w=.ok (.deferred (some l)) w:=ly c (by simp);have I:(setObj b (.deferred none)).run P w=.ok () { w with heap:=w.heap.setIfInBounds b (.deferred none) }:=nP c (by simp);have f:(Instr.takeDeferred b).run P w=.ok l { w with heap:=w.heap.setIfInBounds b (.deferred none) }:=by unfold Instr.takeDeferred;simp only[aA,A,I,aP,aY]
 refine cz ?_;simp[stepG,unwind,d,e,f]
theorem En{tl:List Deferred}{cs:List Frame}:∀{ds:List gO}{bz:List Deferred}{s:S}{w:World}(_:Rel C base E s w)(_:cN tl E ds=some bz)(a:Frame)(_:a.mode=.returning)(_:a.defers=bz),
  (YS s ds).path (λU=>∃M,Step C base E s w E U M/\Steps C.P (lone a cs w) (lone { a with defers:=tl } cs M))
 | [],bz,s,w,f,g,a,i,b=>by
   obtain rfl:=ae (show some tl=some bz from g);subst b;exact⟨w,Step.refl f,oF _ _⟩
 | .call _::_,_,_,_,_,_,_,_,_=>trivial
 | .collected r::ds,bz,s,w,f,g,a,i,b=>by
   obtain⟨q,c,d,j,rfl⟩:=fG.1 g;simp only[pF,aN]at d;obtain⟨F,m,rfl⟩:=d;show(match s.h.get r with|some (.eC (some []))=>YS ⟨s.h.set r (.eC none),s.next,s.pc⟩ ds|_=>R.bad "contract: a deferred call").path _;cases n:s.h.get r with
   |none=>trivial
   |some x=>
    cases x with
    |eC y=>
     cases y with
     |none=>trivial
     |some l=>
      cases l with
      |cons _ _=>trivial
      |nil=>
       simp only;obtain⟨k,o,g1,g2,p,g3,rfl⟩:=f.ay r _ n;obtain rfl:F=k:=by rw[m]at g1;exact ae g1
       obtain rfl:[]=p:=ae (show some []=some p from g3);have e:Step C base E s w E ⟨s.h.set r (.eC none),s.next,s.pc⟩ { w with heap:=w.heap.setIfInBounds F.ay (.deferred none) }:=
        Step.nO f n m g2 rfl rfl (N:=.eC none) (T:=.deferred none) rfl rfl rfl rfl rfl
       refine R.aE ?_ (En (cs:=cs) e.rel j { a with defers:=c } i rfl);rintro U ⟨M,A,I⟩;exact⟨M,e.trans A,.head (Yc i b g2) I⟩
    |_=>trivial
theorem results_none{P:Program}{fn:Func}(h:fn.results.size=0){tm:Array Value}{b:Value}(a:(results fn tm).run P w=.ok b w):(results fn tm).run P M=.ok b M:=by have e:fn.results=#[]:=Array.eq_empty_of_size_eq_zero h;unfold results at a ⊢;rw[e]at a ⊢;simp only[Array.mapM_empty,pure_bind,aY]at a ⊢;injection a with A I;rw[A]
theorem gN.over {C a:Ctx} (b:C.P=a.P) (c:C.T=a.T) (d:C.nG=a.nG) {fi:FI} {ro:Option Nat} {t:Tr AV} {todo:List bH} {ds:List gO} {mode:ku} {ctx:Option (List PE)}
  {tm:Array Value} {items:List Item} {bz:List Deferred} {m:FrameMode} {cs:List Frame} (h:gN C base E fi ro t todo ds mode ctx s tm items bz m cs w):gN a base E fi ro t todo ds mode ctx s tm items bz m cs w:=
 ⟨h.rel.ctx b c d,h.ro,h.tmps,h.todo,h.defs,h.mode,h.ctx,by rw[<-b];exact h.fn,h.rk⟩
theorem J5{f:Fact}{H:Nat->SE}:∀{l:List Fact},f∈Fact.k9 H l->∃f0∈l,f=f0.sub H
 | [],h=>by cases h
 |x::l,h=>by
  simp only[Fact.k9,bQ]at h;rcases h with rfl|h
  .exact⟨x,aV,rfl⟩
  .obtain⟨f0,A,I⟩:=J5 h;exact⟨f0,bk _ A,I⟩
theorem yK{ok:Nat->Bool}:∀{l:List (Nat×CB)},Ao ok l=true->∀x∈l,ok x.1=true/\x.2.ids ok=true/\x.2.live=true
 | [],_,x,Y=>by cases Y
 |y::l,h,x,Y=>by
  simp only[Ao,aw]at h;cases Y with
  |head=>exact⟨h.1,h.2.1,h.2.2.1⟩
  |tail _ Y=>exact yK h.2.2.2 x Y
theorem B0{nG n:Nat}{rl:List (Nat×Nat)}:∀{l:List de},GH nG n rl l=true->∀o∈l,JN nG n rl o=true
 | [],_,x,Y=>by cases Y
 |y::l,h,x,Y=>by
  simp only[GH,aw]at h;cases Y with
  |head=>exact h.1
  |tail _ Y=>exact B0 h.2 x Y
def SY(E a:G)(w:World)(n next m:Nat)(c:Nat->Nat)(b:Nat->SE):G:=λi=>
 if i<next then E i else if i<next+m then(match a (c (n+(i-next)))with
  |some l=>some ⟨l.ay,l.dl,l.cp,aj a (b (n+(i-next)))⟩
  |none=>match aj a (b (n+(i-next)))with
   |none=>none
   |some d=>some ⟨w.heap.size,0,0,some d⟩)else none
theorem NF{a:G}{n next m:Nat}{c:Nat->Nat}{b:Nat->SE}{i:Nat}(A:n<=i)(I:i<n+m):SY E a w n next m c b (next+(i-n))=match a (c i)with
  |some l=>some ⟨l.ay,l.dl,l.cp,aj a (b i)⟩
  |none=>match aj a (b i)with
   |none=>none
   |some d=>some ⟨w.heap.size,0,0,some d⟩:=by
 unfold SY;rw[ai (by omega),az (by omega),show n+(next+(i-n)-next)=i by omega]
theorem Ub(D:Rel C base E s w){c:bp}{rl:List (Nat×Nat)}{sl:List (Nat×SE)}
  (P:lP s.h (cU C.nG c.n s.next rl) (dT C.nG c.n sl) (jk (cU C.nG c.n s.next rl) c.pre) c.pre=true)
  (htg:D7 C.nG s.h c.n rl=true) {o:de} (ho:JN C.nG c.n rl o=true)
  {a:G} {s1:S} {g:Nat->Nat} {r:Nat->SE}
  (t:Step C base (Ds E c.n (cU C.nG c.n s.next rl) (dT C.nG c.n sl)) c.S w a s1 M)
  (F:∀i,i<c.n->g i=i/\r i=.var i) (Q:∀i,c.n<=i->c.n<=g i)
  (J:∀x∈o.post,∃L u,s1.h.get (g x.1)=some L/\dm L=false/\a (g x.1)=some u/\∀R,cw C a u L R->cw C a u (x.2.sub g r).ay R)
  (Zz:∀x∈o.post,∀y∈o.post,x.1≠y.1->g x.1≠g y.1) (hν:∀i,c.n+o.m<=i->aj a (r i)=none)
  (k:∀f∈o.facts,f.pos=true/\(f.sub r).holds a):
  ∃B,Step C base E s w B (a3M s c o (cU C.nG c.n s.next rl) (vX c.n s.next (cU C.nG c.n s.next rl)) (vS c.n s.next o.m (dT C.nG c.n sl))) M/\
   RR a g r B (vX c.n s.next (cU C.nG c.n s.next rl)) (vS c.n s.next o.m (dT C.nG c.n sl)) (B5 C.nG c.n o.m rl):=by
 simp only[JN,aw]at ho;have grow:Grow E (SY E a w c.n s.next o.m g r):=λid l h=>⟨l,by unfold SY;rw[az (D.lt h)];exact h,rfl,rfl,rfl⟩
 have T:∀i,i<c.n->B5 C.nG c.n o.m rl i=true->∃l0,E (cU C.nG c.n s.next rl i)=some l0:=by
  intro i V p;cases W:ke i rl with
  |some j=>obtain⟨⟨b,X⟩, -, -⟩:=xR htg _ (ye W);obtain⟨l0,_,A, -⟩:=D.ay _ b X;exact⟨l0,by rw[Bx V W];exact A⟩
  |none=>
   unfold B5 at p;rw[js V,W]at p;have N:i<C.nG:=by simpa[w5]using p
   obtain⟨l0,A, -⟩:=D.eM i N;exact⟨l0,by rw[By V W N];exact A⟩
 have Z:RR a g r (SY E a w c.n s.next o.m g r) (vX c.n s.next (cU C.nG c.n s.next rl)) (vS c.n s.next o.m (dT C.nG c.n sl)) (B5 C.nG c.n o.m rl):=by
  refine⟨λi l p h=>?_,λi d h=>?_⟩
  .rcases cV i c.n with V|V
   .rw[(F i V).1]at h;obtain⟨l0,h0⟩:=T i V p;obtain⟨lR,z, -,K⟩:=qh (E:=E) (m:=cU C.nG c.n s.next rl) (H:=dT C.nG c.n sl) V;obtain⟨e1,e2,e3⟩:=K l0 h0;obtain⟨u,g1,g2,g3,g4⟩:=t.grow i lR z;rw[h]at g1;obtain rfl:=ae g1;refine⟨l0,?_,by rw[g2,e1],by rw[g3,e2],by rw[(j3 g4).1,e3]⟩;unfold vX;rw[js V];unfold SY;rw[az (D.lt h0)];exact h0
   .grind[B5,lC,aj,vX,SY,NF]
  .rcases cV i c.n with V|V
   .rw[(F i V).2]at h;obtain⟨lR,z,K, -⟩:=qh (E:=E) (m:=cU C.nG c.n s.next rl) (H:=dT C.nG c.n sl) V;obtain⟨u,g1,g2,g3,g4⟩:=t.grow i lR z;simp only[aj,g1,aW]at h;rw[(j3 g4).2,K]at h;unfold vS;rw[js V];exact a7 grow _ _ h
   .rcases cV i (c.n+o.m)with q|hge
    .unfold vS;rw[lC V,show Nat.blt i (Nat.add c.n o.m)=true from js q];show(SY E a w c.n s.next o.m g r (s.next+(i-c.n))).bind (λl=>l.v)=some d;rw[NF V q,h];cases a (g i)<;>rfl
    .rw[hν i hge]at h;cases h
 refine⟨_,Step.con (m:=cU C.nG c.n s.next rl) D (λid b X=>?_) (λid l d A I=>?_) t
  (λi j b=>∃x∈o.post,i=vX c.n s.next (cU C.nG c.n s.next rl) x.1/\j=g x.1/\b=(x.2.sub (vX c.n s.next (cU C.nG c.n s.next rl)) (vS c.n s.next o.m (dT C.nG c.n sl))).ay)
  ?_ ?_ (λid b X=>?_) (λi V=>by unfold SY;rw[az V]) (λi O h V=>?_) (λi O d h V hd=>?_) (Nat.le_add_right _ _) (λf U=>?_),Z⟩
 .grind[kl,uu,mb,l7]
 .have hid:id<c.n:=by
    rcases cV id c.n with h|h
    .exact h
    .grind[Ds]
  obtain⟨O,z,K, -⟩:=qh (E:=E) (m:=cU C.nG c.n s.next rl) (H:=dT C.nG c.n sl) hid;rw[A]at z;obtain rfl:=ae z;exact⟨_,by rw[<-K];exact I⟩
 .grind
 .rintro i j b ⟨x,Y,rfl,rfl,rfl⟩;obtain⟨L,u,g1,g2,g3,g4⟩:=J x Y;obtain⟨z,K,k3⟩:=yK ho.2 x Y;obtain⟨O,r1,r2,r3,r4⟩:=Z.ay x.1 u z g3;refine⟨L,u,O,g1,g2,by rw[mb,l7,k3];rfl,g3,r1,r2.symm,λR hob=>Z.W3 K r3 r4 (g4 R hob),λq=>?_⟩;rcases cV x.1 c.n with V|V
  .rw[(F _ V).1]at g1;obtain⟨b2,hb2⟩:=t.lV _ L g1 V;obtain⟨y,hy,e,rfl⟩:=kl hb2;obtain⟨b0,l,R,lR,q1, -⟩:=uu (sl:=sl) D P hy;refine⟨b0,?_⟩;unfold vX;rw[js V,<-e];exact q1
  .grind[vX,lC]
 .rcases ym X with⟨x,Y,A,I⟩|h
  .exact .inl ⟨_,x,Y,A.symm,rfl,I⟩
  .grind[rn,kl,mb,l7]
 .unfold SY at h;rw[ai (by omega)]at h;split at h
  .next q=>
   refine⟨q,?_⟩;cases N:a (g (c.n+(i-s.next)))with
   |some l=>rw[N]at h;obtain rfl:=ae h;exact .inr ⟨_,l,Q _ (Nat.le_add_right _ _),N,rfl⟩
   |none=>
    rw[N]at h;cases hv:aj a (r (c.n+(i-s.next)))with
    |none=>rw[hv]at h;cases h
    |some d=>rw[hv]at h;obtain rfl:=ae h;exact .inl (aX _)
  .cases h
 .grind[SY,aj]
 .rcases iR.1 U with U|U
  .obtain⟨f0,A,rfl⟩:=J5 U;exact⟨by rw[HG];exact(k f0 A).1,Z.fact (k f0 A).1 (k f0 A).2⟩
  .exact D.Gv grow f U
end
end Go.Proofs.YtokipodjggomfaaGreatDoor.Abs
namespace Go.Proofs.YtokipodjggomfaaGreatDoor.Abs
open Go
section
variable{C:Ctx}{base:Nat}{E:G}{s:S}{w:World}
theorem oJ(H:Rel C base E s w){b:Nat}{el:TypeId}{y:SE}{m g:Nat}(h:vE C s b=some (el,y,m,g)){F:Loc}(J:E b=some F):
  Step C base E s w E ⟨s.h.set b (.vec el y),s.next,s.pc⟩ w/\m<=F.cp*g/\∃ds,aj E y=some (.ls (aq C el) ds)/\ds.length=m/\g=(aq C el).length:=by
 unfold vE at h;cases u:s.h.get b with
 |none=>rw[u]at h;cases h
 |some x=>
  rw[u]at h;cases x with
  |cells a cs m' fz fh st sg=>
   cases fh with
   |cons _ _=>cases h
   |nil=>
    simp only at h;cases L:(Nat.beq fz 0&&(!st && !sg))with
    |false=>rw[L]at h;cases h
    |true=>
     rw[L]at h;simp only[aw,fY]at L;obtain⟨Y,rfl,rfl⟩:=L;obtain rfl:=aL Y;simp only at h;cases V:C.T.get a with
     |none=>rw[V]at h;cases h
     |some i=>
      rw[V]at h;simp only at h;cases O:Nat.beq i.size (aq C a).length with
      |false=>rw[O]at h;cases h
      |true=>
       rw[O]at h;simp only at h;obtain⟨Z,o,A,I,vs,lo,K,rfl,g1,g2,⟨c,g3,g4,g5,g6⟩,g7,g8⟩:=H.ay b _ u;rw[J]at A;obtain rfl:=ae A;rw[V]at g3;obtain rfl:=ae g3;have v:i.size=(aq C a).length:=aL O;have p:=hV (E:=E) (vs:=vs) (dl:=F.dl) g2 m' 0 (by omega);cases M:getCells cs m' 0 with
       |ok l=>
        rw[M]at h p;simp only at h;cases P:nN C (aq C a) l (aq C a) (.a1 (.nl (aq C a)) (.bool true))with
        |none=>rw[P]at h;cases h
        |some N=>
         rw[P]at h;obtain⟨rfl,rfl,rfl,rfl⟩:a=el/\N=y/\m'=m/\i.size=g:=by simpa using h
         obtain⟨r,X,r2,r3⟩:=p;obtain⟨ds,Q,k2⟩:=oO (E:=E) l (aq C a) (.a1 (.nl (aq C a)) (.bool true)) N [] r X rfl ⟨0,rfl,j0 _,by simp⟩ P;rw[ij]at Q;have z:ds.length=m':=by rw[<-r2,<-ba X,<-k2,oH]
         refine⟨?_,g4,ds,Q,z,v⟩;have B:∀c f li,c≠b->s.h.get c=some f->E c=some li->li.ay=F.ay->False:=by
          intro c f li n t R S;rcases H.sep c b f _ li F t u R J n S with U|U
          .cases f<;>simp[fg]at U
          .cases f<;>simp[fg]at U
         have q:∀c f,c≠b->(s.h.set b (.vec a N)).get c=some f->s.h.get c=some f:=by grind[Tr.get_set_other]
         have G:Rel C base E ⟨s.h.set b (.vec a N),s.next,s.pc⟩ w:=by
          refine H.xV u J J ⟨rfl,rfl,rfl⟩ rfl (λ_ _=>rfl) q (Tr.get_set_same _ _ _) (T:=.cells vs a (lo,K)) (λ_ _=>rfl) I rfl ?_
           (λc f li n t W D=>(B c f li n (q c f n t) W D).elim) (λc f li n t W D=>(B c f li n (q c f n t) W D).elim)
          refine⟨vs,lo,K,ds,rfl,Q,λj d hj=>?_,⟨i,V,v,by rw[z];exact g4,g5,g6⟩,λoff W D=>?_,g8⟩
          .grind
          .grind
         refine Step.of ⟨Grow.refl E,G,qg.refl _ _ _,?_,aX _,λ_ _ h=>H.lt h,λ_ l h=>.inl ⟨l,h⟩,λc f W _=>?_⟩
         .rintro k ⟨c,f,li,W,D,h5,h6⟩ _;by_cases e:c=b
          .subst e;exact⟨c,_,li,u,rfl,h5,h6⟩
          .exact⟨c,f,li,q c f e W,D,h5,h6⟩
         .grind
       |bad _=>rw[M]at h;cases h
       |ask _ _=>rw[M]at h;cases h
       |must _ _=>rw[M]at h;cases h
  |_=>cases h
theorem mG{n c m g:Nat}(h:oP n c m g=true):g≠0/\c*g<=m/\n<=c:=by simp only[oP,aw,fY]at h;refine⟨λe=>?_,bn h.2.1,bn h.2.2⟩;rw[e]at h;cases h.1
theorem Step.frz (i:Rel C base E s w) {b:Nat} {el:TypeId} {e:SE} {F:Loc} (G:s.h.get b=some (.vec el e)) (y:E b=some F) {J:List Dt} (R:aj E e=some (.ls (aq C el) J)) {k q:Nat} (Z:k*iY C el<=J.length):
  Step C base E s w (λid=>if id=s.next then some ⟨w.heap.size,0,0,some (.sl (.slice (some ⟨F.ay,F.dl,none⟩) k q) el (iY C el) (J.take (k*iY C el)))⟩else E id) ⟨s.h.del b,s.next+1,s.pc⟩ w:=by
 have m:Grow E (λid=>if id=s.next then some ⟨w.heap.size,0,0,some (.sl (.slice (some ⟨F.ay,F.dl,none⟩) k q) el (iY C el) (J.take (k*iY C el)))⟩else E id):=by intro id l y;have:id≠s.next:=eS (i.lt y);exact⟨l,by simp[this,y],rfl,rfl,rfl⟩
 have f:∀id x,s.h.get id=some x->id≠s.next:=by intro id x h;obtain⟨l,o,A,_⟩:=i.ay id x h;exact eS (i.lt A)
 have c:∀{id x},(s.h.del b).get id=some x->id≠b/\s.h.get id=some x:=by grind[Tr.sF]
 have n:∀k',Live (λid=>if id=s.next then some ⟨w.heap.size,0,0,some (.sl (.slice (some ⟨F.ay,F.dl,none⟩) k q) el (iY C el) (J.take (k*iY C el)))⟩else E id) ⟨s.h.del b,s.next+1,s.pc⟩ k'->Live E s k'/\k'≠F.ay:=by
  rintro k' ⟨id,x,l,A,I,W,D⟩;obtain⟨r,Y⟩:=c A;have:=f id x Y;simp only[this,aQ]at W;refine⟨⟨id,x,l,Y,I,W,D⟩,λt=>?_⟩;rcases i.sep id b x _ l F Y G W y r (D.trans t)with H|H
  .cases x<;>simp[fg]at H
  .simp[fg]at H
 have L:Live E s F.ay:=⟨b,_,F,G,rfl,y,rfl⟩;obtain⟨O,o,A,I,vs,lo,K,j7,rfl,g1,g2,⟨i',g3,g4,g5,g6,g7⟩,g8,g9⟩:=i.ay b _ G;rw[y]at A;obtain rfl:=ae A;rw[R]at g1;have g1:=ae g1;injection g1 with _ g1;subst g1;have M:F.ay<w.heap.size:=by grind
 have p:∀a:Nat->Prop,(a F.ay->False)->cy C E s w a->cy C (λid=>if id=s.next then some ⟨w.heap.size,0,0,some (.sl (.slice (some ⟨F.ay,F.dl,none⟩) k q) el (iY C el) (J.take (k*iY C el)))⟩else E id) ⟨s.h.del b,s.next+1,s.pc⟩ w a:=by
  intro a U z id l d' v B;have mono:∀k',(k'<w.heap.size/\¬Live E s k'/\¬a k')->(k'<w.heap.size/\¬Live (λid=>if id=s.next then some ⟨w.heap.size,0,0,some (.sl (.slice (some ⟨F.ay,F.dl,none⟩) k q) el (iY C el) (J.take (k*iY C el)))⟩else E id) ⟨s.h.del b,s.next+1,s.pc⟩ k'/\¬a k')/\w.heap[k']? =w.heap[k']? :=
   λk' N=>⟨⟨N.1,λhh=>N.2.1 (n k' hh).1,N.2.2⟩,rfl⟩
  by_cases e0:id=s.next
  .simp only[e0,aH,ar]at v;subst v;obtain rfl:=ae B;have P:(Dt.ls (aq C el) J).c6 C w _:=eh z e _ R;refine .inr ⟨rfl,⟨_,k,q,rfl,by rw[cG];omega,λ_=>⟨rfl,⟨M,λhh=>(n _ hh).2 rfl,U⟩,vs,el,lo,K,I,λj d hj=>?_⟩⟩,?_⟩
   .grind
   .exact Dt.bG.stays mono _ _ _ (Dt.bG.take _ P)
  .simp only[e0,aQ]at v;exact Dt.c6.stays mono d' (z id l d' v B)
 refine⟨m,⟨?_,?_,?_,?_,?_,i.bs,i.Gv m,p _ (λh=>h) i.rd⟩,qg.refl E s w,λk' h _=>(n k' h).1,oG _,λ_ _ h=>i.lt h,?_,λid x h _=>⟨x,(c h).2⟩,λa V z=>p a (λh=>(V _ h).2 L) z⟩
 .intro id x h;obtain⟨r,Y⟩:=c h;obtain⟨l,o,A,I,W⟩:=i.ay id x Y;have:=f id x Y;exact⟨l,o,by simp[this,A],I,W.mono m ⟨rfl,rfl,rfl⟩⟩
 .intro id u x S l O A I W D r t;have e1:=f id x (c A).2;have e2:=f u S (c I).2;simp only[e1,aQ]at W;simp only[e2,aQ]at D;exact i.sep id u x S l O (c A).2 (c I).2 W D r t
 .intro id Q;have T:s.next+1<=id:=Q;have:id≠s.next:=by omega
  simp only[this,aQ];exact i.new id (by omega)
 .intro g z;obtain⟨l,v,B,X⟩:=i.eM g z;have:g≠s.next:=eS (i.lt v);exact⟨l,by simp[this,v],B,X⟩
 .intro id x l A I W;have:=f id x (c A).2;simp only[this,aQ]at I;exact i.low id x l (c A).2 I W
 .grind
theorem C3(i:Rel C base E s w){t b n c:Nat}{v:AV}{F:Loc}(k:E b=some F){cap:Nat}(o:ag E v=some (.slice (some ⟨F.ay,F.dl,none⟩) n cap)):
  ∃B,Step C base E s w B (C4 C t b n c v s).2 w/\ag B (C4 C t b n c v s).1=some (.slice (some ⟨F.ay,F.dl,none⟩) n cap):=by
 unfold C4;cases r:vE C s b with
 |none=>exact⟨E,Step.refl i,o⟩
 |some q=>
  obtain⟨el,y,m,g⟩:=q;simp only;cases u:Nat.beq el t&&oP n c m g with
  |false=>exact⟨E,Step.refl i,o⟩
  |true=>
   obtain⟨x,z⟩:=kz.1 u;obtain rfl:=aL x;obtain⟨A,I,W⟩:=mG z;obtain⟨h,H,ds,p,D,G⟩:=oJ i r k;have Z:n*iY C el<=ds.length:=by rw[D];have e:iY C el=g:=G.symm;rw[e];exact gn (iU _ W) I
   have d:=Step.frz h.rel (Tr.get_set_same _ _ _) k p Z (q:=cap);have a:aj (λid=>if id=s.next then some ⟨w.heap.size,0,0,some (.sl (.slice (some ⟨F.ay,F.dl,none⟩) n cap) el (iY C el) (ds.take (n*iY C el)))⟩else E id) (.var s.next)=some (.sl (.slice (some ⟨F.ay,F.dl,none⟩) n cap) el (iY C el) (ds.take (n*iY C el))):=by show((if s.next=s.next then _ else _:Option Loc).bind λl=>l.v)=_;rw[az rfl];rfl
   have j:=Step.add d.rel (f:=.rel "frz" false (eI el (aq C el).length) [.var s.next,y,.int .i64 (.ofNat n)]) rfl ⟨_,Dy a (a7 d.grow _ _ p) rfl,⟨F.ay,F.dl,none⟩,n,cap,_,ds,rfl,Z⟩;exact⟨_,(h.trans d).trans j,dn a ⟨_,_,_,_,_,rfl⟩ rfl⟩
theorem xu(o:Rel C base E s w)(p v:AV){c:Value}(f:ag E v=some c):∃B,Step C base E s w B (WS C p v s).2 w/\ag B (WS C p v s).1=some c:=by
 have same:∃B,Step C base E s w B (v,s).2 w/\ag B (v,s).1=some c:=⟨E,Step.refl o,f⟩;cases p<;>first|exact same|skip
 .rename_i q e;cases q<;>first|exact same|skip
  cases v<;>first|exact same|skip
  .rename_i b off n cp;cases off with
   |succ _=>exact same
   |zero=>have i:=f;simp only[ag,aN]at i;obtain⟨F,j,rfl⟩:=i;exact C3 o j f
  .rename_i b pre e0 n a;cases e0 with
   |succ _=>exact same
   |zero=>
    unfold WS;simp only;cases r:(Nat.beq a (aq C _).length && !Nat.beq n 0)with
    |false=>exact same
    |true=>
     simp only[aw,fY]at r;have u:n≠0:=by intro e;rw[e]at r;cases r.2
     simp only;have i:=f;simp only[ag,aN]at i;obtain⟨F,j,rfl⟩:=i;by_cases K:0<F.cp
     .have G:ag E (.np b pre 0 n a)=some (.slice (some ⟨F.ay,F.dl,none⟩) n F.cp):=by
        simp only[ag,j,bX,az K,kx,hx,rJ]
      rw[az K,kx,hx,rJ];exact C3 o j G
     .suffices e:∀t,C4 C t b n n (.np b pre 0 n a) s=(.np b pre 0 n a,s) by rw[e];exact same
      intro t;unfold C4;cases x:vE C s b with
      |none=>rfl
      |some q=>
       obtain⟨el,y,m,g⟩:=q;simp only;cases H:Nat.beq el t&&oP n n m g with
       |false=>rfl
       |true=>
        exfalso;obtain⟨-,M⟩:=kz.1 H;obtain⟨A,I, -⟩:=mG M;obtain⟨-,z, -⟩:=oJ o x j;have N:F.cp=0:=by omega
        rw[N,kx]at z;have:n*g=0:=by omega
        rcases Nat.mul_eq_zero.1 this with h|h
        .exact u h
        .exact A h
  .have f:some (Value.slice none 0 0)=some c:=f;obtain rfl:=ae f;exact⟨E,Step.refl o,dn (d:=.sl (.slice none 0 0) _ _ []) rfl ⟨_,_,_,_,_,rfl⟩ rfl⟩
 cases v<;>first|exact same|skip
 .rename_i b off n cp;cases off with
  |succ _=>exact same
  |zero=>
   unfold WS;simp only;cases x:vE C s b with
   |none=>exact same
   |some q=>
    obtain⟨el,y,m,g⟩:=q;simp only;cases r:oP n cp m g with
    |false=>exact same
    |true=>obtain⟨A,I,W⟩:=mG r;simp only[ag,aN]at f;obtain⟨F,j,rfl⟩:=f;obtain⟨k,z, -⟩:=oJ o x j;refine⟨E,k,?_⟩;have D:cp<=F.cp:=A5 (gn I z) (tW A);simp only[ag,j,aj,aW];exact mF W D
 .rename_i b pre e0 n a;cases e0 with
  |succ _=>exact same
  |zero=>
   unfold WS;simp only;cases x:vE C s b with
   |none=>exact same
   |some q=>
    obtain⟨el,y,m,g⟩:=q;simp only;cases r:((Nat.beq a g && !Nat.beq n 0)&&oP n n m g)with
    |false=>exact same
    |true=>
     simp only[aw,fY]at r;obtain⟨⟨O,L⟩,P⟩:=r;obtain rfl:=aL O;have u:n≠0:=by intro e;rw[e]at L;cases L
     obtain⟨A,I,W⟩:=mG P;simp only[ag,aN]at f;obtain⟨F,j,rfl⟩:=f;obtain⟨k,z, -⟩:=oJ o x j;have D:n<=F.cp:=A5 (gn I z) (tW A);have J:=Step.ghost k.rel (.val (.int .i64 (.ofNat F.cp))) (λ_=>rfl);refine⟨_,k.trans J,?_⟩;have Q:b≠s.next:=eS (o.lt j);simp only[ag,bW];refine⟨F,?_,_,rfl,.val (.int .i64 (.ofNat F.cp)),?_,?_⟩
     .grind
     .show((if s.next=s.next then _ else _:Option Loc).bind λl=>l.v)=_;rw[az rfl];rfl
     .grind[mF]
theorem Step.cell (f:Rel C base E s w) {b:Nat} {e:TypeId} {cs:Tr AV} {k fz:Nat} {fh:List Nat} {st sg:Bool} (p:s.h.get b=some (.cells e cs k fz fh st sg)) {i:Nat} {v r:AV} (V:cs.get i=some v)
  (H:∀c,VR E v c->VR E r c):Step C base E s w E ⟨s.h.set b (.cells e (cs.set i r) k fz fh st sg),s.next,s.pc⟩ w:=by
 have a:∀j x,(s.h.set b (.cells e (cs.set i r) k fz fh st sg)).get j=some x->(j=b/\x=.cells e (cs.set i r) k fz fh st sg)\/(j≠b/\s.h.get j=some x):=by grind[Tr.bm]
 have g:∀k',Live E ⟨s.h.set b (.cells e (cs.set i r) k fz fh st sg),s.next,s.pc⟩ k'->Live E s k':=by
  rintro k' ⟨id,x,l,A,I,W,D⟩;rcases a id x A with⟨rfl,rfl⟩|⟨_,Y⟩
  .exact⟨id,_,l,p,I,W,D⟩
  .exact⟨id,x,l,Y,I,W,D⟩
 refine Step.of ⟨Grow.refl E,⟨?_,?_,f.new,f.eM,?_,f.bs,f.pc,?_⟩,qg.refl _ _ _,λk' h _=>g k' h,aX _,λ_ _ h=>f.lt h,λ_ l h=>.inl ⟨l,h⟩,λid x A _=>?_⟩
 .intro j x Y;rcases a j x Y with⟨rfl,rfl⟩|⟨_,z⟩
  .obtain⟨l,o,A,I,vs,lo,K,rfl,g1,g2,g3⟩:=f.ay j _ p;refine⟨l,_,A,I,vs,lo,K,rfl,g1,λq u G B=>?_,g3⟩;rw[Tr.bm]at B;split at B
   .grind
   .exact g2 q u G B
  .exact f.ay j x z
 .intro j t x y l O A I W D m n;rcases a j x A with⟨rfl,rfl⟩|⟨_,Y⟩
  .rcases a t y I with⟨rfl,_⟩|⟨_,F⟩
   .exact absurd rfl m
   .rcases f.sep j t _ y l O p F W D m n with h|h
    .left;cases y<;>exact h
    .right;cases y<;>exact h
  .rcases a t y I with⟨rfl,rfl⟩|⟨_,F⟩
   .rcases f.sep j t x _ l O Y p W D m n with h|h
    .left;cases x<;>exact h
    .right;cases x<;>exact h
   .exact f.sep j t x y l O Y F W D m n
 .intro j x l A I W;rcases a j x A with⟨rfl,rfl⟩|⟨_,Y⟩
  .have:=f.low j (.cells e cs k fz fh st sg) l p I W;exact this
  .exact f.low j x l Y I W
 .exact f.YG (aX _) (λ_ _ _=>rfl) (λk' _ h=>g k' h) (λid l d A I=>⟨id,l,A,I⟩)
 .grind
theorem KM(f:Rel C base E s w)(j i:Nat)(p:AV):∃B,Step C base E s w B (Nl C j i p s) w:=by
 unfold Nl;cases y:s.h.get j with
 |none=>exact⟨E,Step.refl f⟩
 |some x=>
  cases x with
  |cells e cs n fz fh st sg=>
   simp only;cases z:cs.get i with
   |none=>exact⟨E,Step.refl f⟩
   |some v=>
    simp only;cases g:(!lk v&&Nat.blt i n)with
    |false=>exact⟨E,Step.refl f⟩
    |true=>
     simp only[aw,fY]at g;have l:i<n:=by simpa[rG]using g.2
     obtain⟨F,o,A,I,vs,lo,K,rfl,g1,g2,g3⟩:=f.ay j _ y;obtain⟨c,D,d⟩:=g2 i v l z;have r:ag E v=some c:=d.resolve_left λe=>by rw[e]at g;cases g.1
     obtain⟨B,a,b⟩:=xu f p v r;revert a b;obtain⟨N,U⟩:=WS C p v s;intro a b;simp only at a b ⊢;unfold a1C;cases m:U.h.get j with
     |none=>exact⟨B,a⟩
     |some G=>
      cases G with
      |cells e2 q H fz2 t J L=>
       simp only;cases M:q.get i with
       |none=>exact⟨B,a⟩
       |some u=>
        simp only;cases k:(eK u v&&Nat.blt i H)with
        |false=>exact⟨B,a⟩
        |true=>
         simp only[aw]at k;obtain rfl:=fU _ _ k.1;refine⟨B,a.trans (Step.cell a.rel m M λc2 d=>?_)⟩;have e1:ag B u=some c2:=d.resolve_left λe=>by rw[e]at g;cases g.1
         have e2:=e9 a.grow _ _ r;obtain rfl:=SB e1 e2;exact .inr b
      |_=>exact⟨B,a⟩
  |_=>exact⟨E,Step.refl f⟩
end
theorem pH{C:Ctx}{base:Nat}{w:World}(j:Nat):∀(l:List AV)(i:Nat){E:G}{s:S},Rel C base E s w->∃B,Step C base E s w B (xw C j l i s) w
 | [],_,E,_,a=>⟨E,Step.refl a⟩
 |p::l,i,E,s,a=>by
  unfold xw;cases FB p with
  |false=>exact pH j l (i+1) a
  |true=>obtain⟨c,A⟩:=KM a j i p;obtain⟨b,I⟩:=pH j l (i+1) A.rel;exact⟨b,A.trans I⟩
theorem EX{C:Ctx}{base:Nat}{w:World}(rl:List (Nat×Nat)):∀(l:List (Nat×CB)){E:G}{s:S},Rel C base E s w->∃B,Step C base E s w B (a0f C rl l s) w
 | [],E,_,a=>⟨E,Step.refl a⟩
 |x::l,E,s,a=>by
  have A:∃b,Step C base E s w b (coB C rl x s) w:=by
   unfold coB;cases a4b x.2 with
   |false=>exact⟨E,Step.refl a⟩
   |true=>
   simp only;cases ke x.1 rl with
   |none=>exact⟨E,Step.refl a⟩
   |some j=>
    simp only;cases x.2 with
    |cells e cs fz st sg=>exact pH j cs 0 a
    |_=>exact⟨E,Step.refl a⟩
  obtain⟨b,A⟩:=A;obtain⟨c,I⟩:=EX rl l A.rel;exact⟨c,A.trans I⟩
theorem xv{C:Ctx}{base:Nat}{w:World}{nt:Nat}{a:Array Value}:∀(l:List (Nat×AV)){E:G}{s:S}{t:Tr AV},Rel C base E s w->aD E nt t a->
  ∃B,Step C base E s w B (coT C l t s).2 w/\aD B nt (coT C l t s).1 a
 | [],E,_,_,i,h=>⟨E,Step.refl i,h⟩
 |x::l,E,s,t,i,h=>by
  unfold coT;cases r:t.get x.1 with
  |none=>exact xv l i h
  |some v=>
   simp only;cases q:lk v with
   |true=>exact xv l i h
   |false=>
    obtain⟨j,c,k,m⟩:=h.2.1 x.1 v r;have y:ag E v=some c:=m.resolve_left λe=>by rw[e]at q;cases q
    obtain⟨B,b,f⟩:=xu i x.2 v y;revert b f;obtain⟨z,U⟩:=WS C x.2 v s;intro b f;simp only at b f ⊢;have n:aD B nt (t.set x.1 z) a:=by
     have o:=h.grow b.grow;refine⟨o.1,λd u g=>?_,λd g=>?_⟩
     .rw[Tr.bm]at g;split at g
      .next e=>
       subst e;obtain rfl:=ae g;exact⟨j,c,k,.inr f⟩
      .exact o.2.1 d u g
     .rw[Tr.bm]at g;split at g
      .cases g
      .exact o.2.2 d g
    obtain⟨p,A,I⟩:=xv l b.rel n;exact⟨p,b.trans A,I⟩
section
variable{C:Ctx}{base:Nat}{E:G}{s:S}{w:World}
theorem L9(g:Rel C base E s w)(t b:Nat)(n c:SE){i:Value}(p:ag E (.gR b n c)=some i):(V4 C s t b n (.gR b n c)).path (λr=>∃B,Step C base E s w B r.2 w/\ag B r.1=some i):=by
 have same:(R.ok (AV.gR b n c,s)).path (λr=>∃B,Step C base E s w B r.2 w/\ag B r.1=some i):=⟨E,Step.refl g,p⟩;unfold V4;cases u:s.h.get b with
 |none=>exact same
 |some x=>
  cases x<;>first|exact same|skip
  rename_i el e;simp only;cases z:Nat.beq el t with
  |false=>exact same
  |true=>
   obtain rfl:=aL z;obtain⟨F,k,q,D,y,H,G,L,rfl⟩:=gH p;obtain⟨O,o,A,I,vs,lo,K,J,rfl,g1, -⟩:=g.ay b _ u;refine R.ew g λj=>?_
   have Z:k*iY C el<=J.length:=by
    rcases na (k*iY C el<=J.length)with h|h
    .exact h
    .exact absurd ⟨_,_,_,rfl,λhh=>h hh.2⟩ (h4 j (vU g1 y))
   have a:=Step.frz g u D g1 Z (q:=q);have d:aj (λid=>if id=s.next then some ⟨w.heap.size,0,0,some (.sl (.slice (some ⟨F.ay,F.dl,none⟩) k q) el (iY C el) (J.take (k*iY C el)))⟩else E id) (.var s.next)=some (.sl (.slice (some ⟨F.ay,F.dl,none⟩) k q) el (iY C el) (J.take (k*iY C el))):=by show((if s.next=s.next then _ else _:Option Loc).bind λl=>l.v)=_;rw[az rfl];rfl
   have m:=Step.add a.rel (f:=.rel "frz" false (eI el (aq C el).length) [.var s.next,e,n]) rfl ⟨_,Dy d (a7 a.grow _ _ g1) (a7 a.grow _ _ y),⟨F.ay,F.dl,none⟩,k,q,_,J,rfl,Z⟩;exact⟨_,a.trans m,dn d ⟨_,_,_,_,_,rfl⟩ rfl⟩
theorem ck(b:Rel C base E s w)(p v:AV){c:Value}(a:ag E v=some c):(ZI C s p v).path (λr=>∃B,Step C base E s w B r.2 w/\ag B r.1=some c):=by
 have same:(R.ok (v,s)).path (λr=>∃B,Step C base E s w B r.2 w/\ag B r.1=some c):=⟨E,Step.refl b,a⟩;unfold ZI;cases p<;>first|exact same|skip
 rename_i q _;cases q<;>first|exact same|skip
 cases v<;>first|exact same|skip
 .exact xu b _ _ a
 .exact xu b _ _ a
 .have a:some (Value.slice none 0 0)=some c:=a;obtain rfl:=ae a;exact⟨E,Step.refl b,dn (d:=.sl (.slice none 0 0) _ _ []) rfl ⟨_,_,_,_,_,rfl⟩ rfl⟩
 .exact L9 b _ _ _ _ a
end
theorem sf{C:Ctx}{base:Nat}{w:World}{nt:Nat}{a:Array Value}:∀(l:List (Nat×AV)){E:G}{s:S}{t:Tr AV},Rel C base E s w->aD E nt t a->
  (Sm C l t s).path (λr=>∃B,Step C base E s w B r.2 w/\aD B nt r.1 a)
 | [],E,_,_,h,g=>⟨E,Step.refl h,g⟩
 |x::l,E,s,t,h,g=>by
  unfold Sm;cases z:t.get x.1 with
  |none=>exact sf l h g
  |some v=>
   simp only;cases y:N0 x.2 v with
   |false=>exact sf l h g
   |true=>
    obtain⟨i,c,j,k⟩:=g.2.1 x.1 v z;have A:ag E v=some c:=k.resolve_left λe=>by rw[e]at y;cases y
    refine R.pb _ (ck h x.2 v A) λr⟨B,f,m⟩=>?_
    have n:aD B nt (t.set x.1 r.1) a:=by
     have o:=g.grow f.grow;refine⟨o.1,λd u b=>?_,λd b=>?_⟩
     .rw[Tr.bm]at b;split at b
      .next e=>
       subst e;obtain rfl:=ae b;exact⟨i,c,j,.inr m⟩
      .exact o.2.1 d u b
     .rw[Tr.bm]at b;split at b
      .cases b
      .exact o.2.2 d b
    exact R.aE (λq⟨p,I,W⟩=>⟨p,f.trans I,W⟩) (sf l f.rel n)
mutual
theorem Eo{C:Ctx}{base:Nat}{w:World}:∀(p v:AV){E:G}{s:S}{h:Value},Rel C base E s w->ag E v=some h->(ZH C p v s).path (λr=>∃B,Step C base E s w B r.2 w/\ag B r.1=some h)
 | .agg l,v,E,s,h,g,d=>by
   have same:(R.ok (v,s)).path (λr=>∃B,Step C base E s w B r.2 w/\ag B r.1=some h):=⟨E,Step.refl g,d⟩;cases v<;>first|exact same|skip
   rename_i O;simp only[ag,aN]at d;obtain⟨m,A,rfl⟩:=d;show((Sn C l O s).bind _).path _;refine R.pb _ (x1 l O g A) λr j=>?_
   obtain⟨B,g1,g2⟩:=j;exact⟨B,g1,by simp only[ag,g2,bX]⟩
 | .jy l,v,E,s,h,g,d=>by
   have same:(R.ok (v,s)).path (λr=>∃B,Step C base E s w B r.2 w/\ag B r.1=some h):=⟨E,Step.refl g,d⟩;cases v<;>first|exact same|skip
   rename_i O;simp only[ag,aN]at d;obtain⟨m,A,rfl⟩:=d;show((Sn C l O s).bind _).path _;refine R.pb _ (x1 l O g A) λr j=>?_
   obtain⟨B,g1,g2⟩:=j;exact⟨B,g1,by simp only[ag,g2,bX]⟩
 | .int k n,v,_,_,_,g,d=>ck g (.int k n) v d
 | .bool b,v,_,_,_,g,d=>ck g (.bool b) v d
 | .str l,v,_,_,_,g,d=>ck g (.str l) v d
 | .ptr b o,v,_,_,_,g,d=>ck g (.ptr b o) v d
 | .o9,v,_,_,_,g,d=>ck g (.o9) v d
 | .sl b o n c,v,_,_,_,g,d=>ck g (.sl b o n c) v d
 | .np b p e n z,v,_,_,_,g,d=>ck g (.np b p e n z) v d
 | .dh,v,_,_,_,g,d=>ck g (.dh) v d
 | .l5 r,v,_,_,_,g,d=>ck g (.l5 r) v d
 | .iw,v,_,_,_,g,d=>ck g (.iw) v d
 | .fn f a b,v,_,_,_,g,d=>ck g (.fn f a b) v d
 | .yield l,v,_,_,_,g,d=>ck g (.yield l) v d
 | .p0,v,_,_,_,g,d=>ck g (.p0) v d
 | .iface u x,v,_,_,_,g,d=>ck g (.iface u x) v d
 | .lY,v,_,_,_,g,d=>ck g (.lY) v d
 | .junk,v,_,_,_,g,d=>ck g (.junk) v d
 | .raw x,v,_,_,_,g,d=>ck g (.raw x) v d
 | .bS k e,v,_,_,_,g,d=>ck g (.bS k e) v d
 | .gR b n c,v,_,_,_,g,d=>ck g (.gR b n c) v d
 | .gS b i z k,v,_,_,_,g,d=>ck g (.gS b i z k) v d
theorem x1{C:Ctx}{base:Nat}{w:World}:∀(l O:List AV){E:G}{s:S}{c:List Value},Rel C base E s w->ax E O=some c->(Sn C l O s).path (λr=>∃B,Step C base E s w B r.2 w/\ax B r.1=some c)
 | [],O,E,s,c,d,e=>⟨E,Step.refl d,e⟩
 |p::l,[],E,s,c,d,e=>⟨E,Step.refl d,e⟩
 |p::l,v::O,E,s,c,d,e=>by
  obtain⟨a,b,A,I,rfl⟩:=av.1 e;show((ZH C p v s).bind _).path _;refine R.pb _ (Eo p v d A) λr h=>?_
  obtain⟨i,g1,g2⟩:=h;refine R.pb _ (x1 l O g1.rel (jU g1.grow _ _ I)) λq j=>?_
  obtain⟨f,g,k⟩:=j;exact⟨f,g1.trans g,av.2 ⟨a,b,e9 g.grow _ _ g2,k,rfl⟩⟩
end
end Go.Proofs.YtokipodjggomfaaGreatDoor.Abs
