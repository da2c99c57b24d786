/- Part 5 of an abstract machine that evaluates programs of the model in the kernel. Conditions: those of each theorem. -/
import Derived.Test.YtokipodjggomfaaGreatDoorAbs4
import Derived.Lib.Bytealg
noncomputable section
set_option linter.unusedVariables false
set_option linter.unusedSimpArgs false
namespace Go.Proofs.YtokipodjggomfaaGreatDoor.Abs
section
variable{C:Ctx}{base:Nat}{E:G}{s:S}{w:World}{nt:Nat}{t:Tr AV}{a:Act}
theorem vW{P:Program}{aO:Nat}:∀(l:List AV)(b:List Value),aN E l=some b->
  (u9 l).path (λbs=>∀(acc:List UInt8)(o:Nat),(∀(j:Nat)v,b[j]? =some v->w.cell? ⟨aO,o+j,none⟩=some v)->
    (loadBytes ⟨aO,o,none⟩ (ByteArray.mk ⟨acc⟩) l.length).run P w=.ok (ByteArray.mk ⟨acc++bs⟩) w)
 | [],b,h=>by
   intro acc o _;simp[loadBytes]
 |v::l,b,h=>by
  obtain⟨c,d,g,e,rfl⟩:=aL.1 h;cases v with
  |int k n=>
   cases k with
   |u8=>
    cases n with
    |ofNat n=>
     simp only[ai,aD]at g;subst g;refine R.bR _ (vW (P:=P) (aO:=aO) l d e) λbs f=>?_
     intro acc o a;have i:w.cell? ⟨aO,o,none⟩=some (.int .u8 (.ofNat n)):=by simpa using a 0 _ (by simp)
     simp only[cD,loadBytes,aS,run_load];rw[i];simp only[bw,FC,addr_add];have:=f (acc++[UInt8.ofNat n]) (o+1) (λj v m=>by
      have:=a (j+1) v (by simpa using m);rw[show o+1+j=o+(j+1) by omega];exact this)
     rw[show acc++UInt8.ofNat n::bs=acc++[UInt8.ofNat n]++bs by simp];exact this
    |negSucc n=>trivial
   |_=>trivial
  |_=>trivial
theorem Step.freeze (q:Rel C base E s w) {b:Nat} {e:TypeId} {cs:Tr AV} {k fz Sp:Nat} {gU:List Nat} {B:Loc} (n:s.h.get b=some (.cells e cs k fz gU false false)) (g:E b=some B)
  {vs:Array Value} {lo V Xf H:Nat} (ho:w.heap[B.aO]? =some (.cells vs e (lo,V))) (r:Xf<=H) (Q:H<=B.dl+Sp) {M:World}
  (t:M.heap=w.heap.setIfInBounds B.aO (.cells vs e (Xf,H))) (R:M.tape=w.tape) (A:M.os=w.os) (u:M.output=w.output):
  Step C base E s w E ⟨s.h.set b (.cells e cs k Sp gU false false),s.next,s.pc⟩ M:=by
 have D:B.aO<w.heap.size:=by grind
 obtain⟨O,o,p,z,S,U,X,F,g1,g2,g3,g4,glh⟩:=q.aO b _ n;rw[g]at p;obtain rfl:=ae p;rw[ho]at z;obtain rfl:=ae z;cases F;have c:∀i x li,i≠b->(s.h.set b (.cells e cs k Sp gU false false)).get i=some x->E i=some li->li.aO=B.aO->
   ∃G j k' Sp f m,x=.cells G j k' Sp f true m/\i∈gU/\li.dl+k'<=B.dl+k:=by
  intro i x li V Z a d;rw[Tr.get_set_other _ _ (dt V)]at Z;rcases q.sep i b x _ li B Z n a g V d with h|h
  .cases x<;>simp[gR]at h
  .cases x<;>simp only[gR]at h;obtain⟨I,Y,W⟩:=h;subst Y;exact⟨_,_,_,_,_,_,rfl,I,W⟩
 refine Step.of ⟨Grow.refl E,?_,⟨by rw[t];simp,R,A,u,?_⟩,?_,bD _,λ_ _ h=>q.lt h,λ_ l h=>.inl ⟨l,h⟩,λid x I _=>by
  simp only[Tr.bY]at I;split at I
  .next h=>subst h;exact⟨_,n⟩
  .exact⟨x,I⟩⟩
 .refine q.CN (N:=.cells e cs k Sp gU false false) (T:=.cells vs e (Xf,H)) n g g ⟨rfl,rfl,rfl⟩ rfl (λ_ _=>rfl) ?_ (Tr.get_set_same _ _ _) ?_ ?_ (by rw[t];simp)
    ⟨vs,Xf,H,rfl,g1,g2,g3,λ_ off I Y=>.inl (by omega),r⟩ ?_ ?_
  .grind[Tr.get_set_other]
  .intro k hk;rw[t];simp[dt hk]
  .rw[t];simp[D]
  .intro i x li V Z a d;obtain⟨G,j,k',v,f,m,rfl,_,y⟩:=c i x li V Z a d;rw[Tr.get_set_other _ _ (dt V)]at Z;obtain⟨l2,o2,K,L,vs2,lo2,hi2,rfl,f1,f2,f3,f4,flh⟩:=q.aO i _ Z;rw[a]at K;obtain rfl:=ae K;rw[d,ho]at L;cases L;exact⟨vs,Xf,H,rfl,f1,f2,f3,(λh=>by cases h),r⟩
  .intro i x li V Z a d;obtain⟨G,j,k',v,f,m,rfl,hm,y⟩:=c i x li V Z a d;exact⟨hm,rfl,y⟩
 .intro k o hk hn;have:k≠B.aO:=λh=>hn ⟨b,_,B,n,rfl,g,h.symm⟩
  rw[t];simp[dt this,hk]
 .rintro k ⟨id,x,l,p,z,J,P⟩ _;simp only[Tr.bY]at p;split at p
  .next h=>subst h;exact⟨_,_,B,n,rfl,g,by rw[g]at J;obtain rfl:=ae J;exact P⟩
  .exact⟨id,x,l,p,z,J,P⟩
theorem Nu{p n:AV}{b:Nat}{e:SE}(h:KS p n=some (b,e)):∃g,p=.jn b (.int .i64 (.ofNat 0)) g 0/\n=.cE (.int .i64) e:=by
 unfold KS at h;split at h
 .rename_i N i g k;cases k with
  |succ k=>cases h
  |zero=>
   simp only at h;cases V:db i (.int .i64 (.ofNat 0))with
   |false=>rw[V]at h;cases h
   |true=>
    rw[V]at h;have V:=bh V;subst V;simp only at h;split at h
    .rename_i q c;cases a:r8 q (.int .i64)with
     |false=>rw[a]at h;cases h
     |true=>rw[a]at h;simp only[aD,cB]at h;obtain⟨rfl,rfl⟩:=h;exact⟨g,rfl,by rw[kA a]⟩
    .cases h
 .cases h
theorem vJ{P:Program}{aO:Nat}{w:World}:∀(l:List Dt)(acc:List UInt8)(o:Nat),(∀d∈l,∃n,d=.val (.int .u8 n))->(∀(j:Nat)d,l[j]? =some d->w.cell? ⟨aO,o+j,none⟩=some d.v)->
  ∃bs,lK l=some bs/\(loadBytes ⟨aO,o,none⟩ (ByteArray.mk ⟨acc⟩) l.length).run P w=.ok (ByteArray.mk ⟨acc++bs⟩) w
 | [],acc,o,_,_=>⟨[],rfl,by simp[loadBytes]⟩
 |d::l,acc,o,h,a=>by
  obtain⟨n,rfl⟩:=h d bB;obtain⟨bs,I,Y⟩:=vJ l (acc++[UInt8.ofNat n.toNat]) (o+1) (λx Z=>h x (bQ _ Z)) λj d b=>by
   have:=a (j+1) d (by simpa using b)
   rwa [show o+(j+1)=o+1+j by omega]at this
  refine⟨UInt8.ofNat n.toNat::bs,by simp only[lK,I,cM],?_⟩;have c:w.cell? ⟨aO,o,none⟩=some (.int .u8 n):=a 0 _ rfl;simp only[cD,loadBytes,aS,run_load];rw[c];simp only[bw,FC,addr_add];rw[show acc++UInt8.ofNat n.toNat::bs=acc++[UInt8.ofNat n.toNat]++bs by simp];exact Y
theorem Wj(hC:Good C)(q:Rel C base E s w){ty u rt:TypeId}{rest:List TypeId}(U:C.P.underlying ty=some (.pointer u)){b g:Nat}{e:SE}{cp cn:Value}
  (a:ai E (.jn b (.int .i64 (.ofNat 0)) g 0)=some cp) (X:ai E (.cE (.int .i64) e)=some cn):
  (QR C s u b e).path (eY C base E s w ((VS (Builtin.unsafeString_ ⟨ty::rest⟩ rt ⟨[cp,cn]⟩)).run C.P w)):=by
 obtain⟨d,Z,⟨m,rfl⟩,rfl⟩:=ek X;simp only[ai,ax,bn,cV]at a;obtain⟨B,hl,a⟩:=a;have a:(if 0<B.cp then some (Value.pointer (some ⟨B.aO,B.dl+(0*g+0),none⟩))else none)=some cp:=a;split at a
 case isFalse=>cases a
 obtain rfl:=ae a;unfold QR;cases hb:s.h.get b with
 |none=>trivial
 |some x0=>
  cases x0 with
  |vec el v=>
   obtain⟨O,o,q1,q2,vs,lo,V,J,rfl,g1,g2,⟨i',g3,g4,g5,g6,g7⟩,g8,g9⟩:=q.aO b _ hb;rw[hl]at q1;obtain rfl:=ae q1;refine R.bR _ (c6 hC el) λi H=>?_
   refine R.bR _ (R.bf _ _) λ_ hg=>?_
   simp only[aM]at hg;obtain⟨e1',e2',e3'⟩:=hg;rw[H.1]at g3;obtain rfl:=ae g3;have r:i.size=1:=bj e1';have hks:=eO e2';refine R.gb q λhn=>?_
   have hbd:0<m/\m.toNat<=J.length/\m<=1099511627776:=by
    rcases EY (0<m/\m.toNat<=J.length/\m<=1099511627776)with h|h
    .exact h
    .exact absurd ⟨_,_,_,rfl,h⟩ (j6 hn (A5 g1 Z))
   obtain⟨k,rfl⟩:=fK (show 0<=m by omega);have hk0:0<k:=by omega
   have hk1:k<=J.length:=by simpa using hbd.2.1
   have x:ax E (.a2 (.tk 1) v e)=some (.ls (aA C el) (J.take k)):=by grind[ax,e2,aA]
   have z:∀d∈J.take k,∃n,d=.val (.int .u8 n):=by intro d U;obtain⟨j,F⟩:=List.getElem?_of_mem U;have l:=fL q.rd _ _ x;have:=(Dt.cu.get (show Dt.cu C w _ (aA C el) 0 (J.take k)from l) F).1;rw[hks]at this;obtain⟨kd,G,hf⟩:=this;simp only[cD,c7,eD,Nat.mod_one,dj,aD]at G;subst G;exact hf
   have htl:(J.take k).length=k:=by rw[c8];omega
   obtain⟨bs,hbs,c⟩:=vJ (P:=C.P) (w:=w) (aO:=B.aO) (J.take k) [] B.dl z λj d F=>by
    rw[vu]at F;split at F
    .grind[World.cell?]
    .cases F
   rw[htl]at c;have Pv:B.aO<w.heap.size:=dC.lt q hb hl;have hat:w.heap[B.aO]=.cells vs el (lo,V):=by grind
   have hsh:w.shape? B.aO=some (el,vs.size):=by simp[World.shape?,q2]
   have hcs:=Ah (ND hC H.1);have p:liesAt C.P C.P.depth el (vs.size/C.P.cellsOf el) B.dl u k=true:=by
    have K:C.P.depth=(2*(C.P.types.size+Made.depth)+1)+1:=rfl;have key:∀D,rowAt C.P (λt=>sameLayout C.P C.P.depth t u) (D+1) el (vs.size/C.P.cellsOf el) B.dl k=true:=by intro D;unfold rowAt;rw[hcs,r];rw[av (by decide)];simp only[Nat.mod_one,Nat.div_one,il,aM,rC];refine .inl ⟨⟨rfl,?_⟩,e3'⟩;have:=g5;have:=g6;rw[r,Nat.mul_one]at *;omega
    rw[K];unfold liesAt;rw[il];left;have kk:=key (2*(C.P.types.size+Made.depth)+1);rw[<-K]at kk;exact kk
   obtain⟨f1,f2,L,hfr⟩:∃f1 f2,f1<=f2/\w.freeze ⟨B.aO,B.dl,none⟩ k={ w with heap:=w.heap.setIfInBounds B.aO (.cells vs el (f1,f2)) }:=by
    refine⟨(if lo==V then(B.dl,B.dl+k)else(min lo B.dl,max V (B.dl+k))).1,(if lo==V then(B.dl,B.dl+k)else(min lo B.dl,max V (B.dl+k))).2,?_,?_⟩
    .split
     .simp only;omega
     .simp only;omega
    .unfold World.freeze;rw[av (by omega)];congr 1;apply Array.ext_getElem?;intro j;simp only[Array.getElem?_modify,vx];by_cases N:B.aO=j
     .subst N;simp[hat,Pv]
     .simp[N]
   have Q:=Step.move q hb hl (y:=.cells el .nil 0 0 [] true false) (T:=.cells vs el (f1,f2)) (M:=w.freeze ⟨B.aO,B.dl,none⟩ k) hfr (λA _=>by
    refine⟨vs,f1,f2,rfl,?_,λi v V=>absurd V (qO _),⟨i,H.1,wY _,g6,g7⟩,(λh=>by cases h),L⟩;show B.dl+0<=vs.size;omega)
   have st2:=Step.del Q.rel s.next;have S:=Q.trans st2;refine⟨_,.string ⟨⟨bs⟩⟩,_,?_,eA (d:=.val (.string ⟨⟨bs⟩⟩)) (bG S.grow _ _ (show ax E (.a1 .bs (.a2 (.tk 1) v e))=_ from by
    show((ax E (.a2 (.tk 1) v e)).bind (e1 .bs))=_;rw[x];simp only[bn,e1,hbs,cM])) ⟨_,rfl⟩ rfl,S⟩
   have I:¬((k:Int)<0):=by omega
   have Y:¬((k:Int)>IntKind.i64.max):=by
    have:IntKind.i64.max=9223372036854775807:=by decide
    rw[this];omega
   have W:¬((k:Int)=0):=by omega
   have hel:(elemOf ty).run C.P w=.ok u w:=by unfold elemOf;rw[bb U];rfl
   have hva:(variablesAt ⟨B.aO,B.dl,none⟩ u k).run C.P w=.ok true w:=by simp only[variablesAt,aS,mW,bw,run_shape,hsh,bE,p]
   have f:(loadBytes ⟨B.aO,B.dl,none⟩ .empty k).run C.P w=.ok ⟨⟨bs⟩⟩ w:=c;rw[show B.dl+(0*g+0)=B.dl by omega];have e:Builtin.unsafeString_ ⟨ty::rest⟩ rt ⟨[.pointer (some ⟨B.aO,B.dl,none⟩),.int .i64 (k:Int)]⟩=(Go.asInt (.int .i64 (k:Int))>>=_):=rfl;simp only[VS,Dt.v];rw[e];simp only[aS,N0,bw,mx,dj,I,Y,W,br,hel];have htn:(k:Int).toNat=k:=by simp
   simp only[htn,hva,bw,bc,aS,f,run_freeze,bE]
  |_=>trivial
theorem Wi(K:Good C)(L:Rel C base E s w)(argTypes:List TypeId)(args:List AV)(a:List Value)(t:aN E args=some a)(rt:TypeId):
  (HZ C s argTypes args).path (eY C base E s w ((VS (Builtin.unsafeString_ ⟨argTypes⟩ rt ⟨a⟩)).run C.P w)):=by
 unfold HZ;split
 case h_2=>trivial
 rename_i p n ty rest;obtain⟨cp,cl1,c,g1,rfl⟩:=aL.1 t;obtain⟨cn,cl2,y,g2,rfl⟩:=aL.1 g1;simp only[aN,aD]at g2;subst g2;cases N:KS p n with
 |some x=>
  obtain⟨b,e⟩:=x;obtain⟨g,rfl,rfl⟩:=Nu N;refine R.bR _ (b9 K ty) λd Q=>?_
  cases d with
  |pointer u=>exact Wj K L Q c y
  |_=>trivial
 |none=>
 simp only;refine R.bR _ (pX n) λm hm=>?_
 obtain⟨kk,rfl⟩:=hm;simp only[ai,aD]at y;subst y;cases m with
 |zero=>exact R.bg _ _
 |succ m=>
  cases p with
  |ptr b off=>
   simp only[ai,bk]at c;obtain⟨B,hl,c⟩:=c;refine R.bR _ (b9 K ty) λd Q=>?_
   cases d with
   |pointer u=>
    show(Ys C s u b off (m+1)).path _;unfold Ys;cases hb:s.h.get b with
    |none=>trivial
    |some q=>
     cases q with
     |cells e cs k fz gU st sg=>
      cases st with
      |true=>trivial
      |false=>
       cases sg with
       |true=>trivial
       |false=>
        refine R.bR _ (R.bf _ _) λ_ hg=>?_
        simp only[aM]at hg;obtain⟨⟨S,T⟩,U⟩:=hg;have hk:off+(m+1)<=k:=bZ S;have hm:m+1<=1099511627776:=bZ U;obtain⟨O,o,q1,X,vs,lo,V,Z,g1,g2,⟨i,g3,g4,g5,qd,g7⟩,g6,glh⟩:=L.aO b _ hb;rw[hl]at q1;obtain rfl:=ae q1;subst Z;refine R.bR _ (jT g2 (m+1) off hk) λl hl'=>?_
        obtain⟨cl,o1,o2,o3⟩:=hl';refine R.bR _ (vW (P:=C.P) (w:=w) (aO:=B.aO) l cl o1) λbs hbs=>?_
        have f:=hbs [] (B.dl+off) (λj v hj=>by
         have:=o3 j v hj;simp only[World.cell?,X];simpa using this)
        rw[o2]at f;have D:=Ah (ND K g3);have F:0<i.size:=by grind
        have z:liesAt C.P C.P.depth e (vs.size/C.P.cellsOf e) (B.dl+off) u (m+1)=true:=by have hdp:C.P.depth=(2*(C.P.types.size+Made.depth)+1)+1:=rfl;rw[hdp];unfold liesAt;rw[il];left;refine Gh C.P _ e C.P.depth (k/C.P.cellsOf e) _ off _ (m+1) qd (by rw[D,g7]) ?_ T;rw[D];have:(k+qd*i.size)/i.size<=vs.size/i.size:=Nat.div_le_div_right (by omega);rw[Nat.add_mul_div_right _ _ F]at this;omega
        have hsh:w.shape? B.aO=some (e,vs.size):=by simp[World.shape?,X]
        have G:∃Xf H,Xf<=H/\H<=B.dl+max fz (off+(m+1))/\(w.freeze ⟨B.aO,B.dl+off,none⟩ (m+1)).heap=w.heap.setIfInBounds B.aO (.cells vs e (Xf,H)):=by
         have Pv:B.aO<w.heap.size:=by grind
         have hat:w.heap[B.aO]=.cells vs e (lo,V):=by grind
         refine⟨(if lo==V then(B.dl+off,B.dl+off+(m+1))else(min lo (B.dl+off),max V (B.dl+off+(m+1)))).1,(if lo==V then(B.dl+off,B.dl+off+(m+1))else(min lo (B.dl+off),max V (B.dl+off+(m+1)))).2,?_,?_,?_⟩
         .split
          .simp only;omega
          .simp only;omega
         .split
          .simp only;omega
          .next Mq=>
           have adD:lo≠V:=by simpa using Mq
           rcases g6 rfl (V-1) (by omega) (by omega)with h|⟨h,_⟩
           .simp only;omega
           .cases h
         .unfold World.freeze;rw[av (by omega)];apply Array.ext_getElem?;intro j;simp only[Array.getElem?_modify,vx];by_cases J:B.aO=j
          .subst J;simp[hat,Pv]
          .simp[J]
        obtain⟨Xf,H,hf1,hf2,hf3⟩:=G;have A:=Step.freeze L hb hl X (Xf:=Xf) (H:=H) (Sp:=max fz (off+(m+1))) hf1 hf2 (M:=w.freeze ⟨B.aO,B.dl+off,none⟩ (m+1)) hf3
         (by unfold World.freeze;rw[av (by omega)]) (by unfold World.freeze;rw[av (by omega)]) (by unfold World.freeze;rw[av (by omega)])
        refine⟨E,.string ⟨⟨bs⟩⟩,w.freeze ⟨B.aO,B.dl+off,none⟩ (m+1),?_,rfl,A⟩;rw[<-c];have I:¬((Int.ofNat (m+1))<0):=by simp only[cN];omega
        have Y:¬(Int.ofNat (m+1)>IntKind.i64.max):=by
         have:IntKind.i64.max=9223372036854775807:=by decide
         rw[this];simp only[cN];omega
        have W:¬(Int.ofNat (m+1)=0):=by simp only[cN];omega
        have hel:(elemOf ty).run C.P w=.ok u w:=by unfold elemOf;rw[bb Q];rfl
        have hva:(variablesAt ⟨B.aO,B.dl+off,none⟩ u (m+1)).run C.P w=.ok true w:=by simp only[variablesAt,aS,mW,bw,run_shape,hsh,bE,z]
        have r:(loadBytes ⟨B.aO,B.dl+off,none⟩ .empty (m+1)).run C.P w=.ok ⟨⟨bs⟩⟩ w:=f;have e:Builtin.unsafeString_ ⟨ty::rest⟩ rt ⟨[.pointer (some ⟨B.aO,B.dl+off,none⟩),.int kk (.ofNat (m+1))]⟩=(Go.asInt (.int kk (.ofNat (m+1)))>>=_):=rfl;simp only[VS];rw[e];simp only[aS,N0,bw,mx,dj,I,Y,W,br,hel];have htn:(Int.ofNat (m+1)).toNat=m+1:=rfl;simp only[htn,hva,bw,bc,aS,r,run_freeze,bE]
     |_=>trivial
   |_=>trivial
  |_=>trivial
end
section
variable{C:Ctx}{base:Nat}{E:G}{s:S}{w:World}{nt:Nat}{t:Tr AV}{a:Act}
theorem Gf{f:FuncId}{fn:Func}{e:Array Value->Sem Value}(I:C.P.funcs[f]? =some fn)(Y:fn.body=none)(W:(fn.name== "runtime.NumGoroutine")=false)(U:Extern.findNext fn=none)
  (h5:Extern.find fn=some e) (args:Array Value):(callFunc f args).run C.P w=(VS (e args)).run C.P w:=by
 have a:fn.name≠ "runtime.NumGoroutine":=by simpa using W
 simp[callFunc,I,Y,a,U,h5,VS]
theorem a6J(b:UInt8)(c:Nat)(d:c<256):(b==(Int.ofNat c).toNat.toUInt8)=Nat.beq b.toNat c:=by
 have I:(Int.ofNat c).toNat=c:=rfl;rw[I];have Y:c.toUInt8.toNat=c:=by simp[Nat.toUInt8,UInt8.toNat_ofNat'];omega
 cases a:Nat.beq b.toNat c with
 |true=>have:=bj a;have:b=c.toUInt8:=hD.1 (by rw[Y];exact this);rw[this];simp
 |false=>apply beq_eq_false_iff_ne.2;intro h;rw[h,Y]at a;simp at a
theorem D5(c:Nat)(d:c<256):∀(l:List UInt8)(k:Nat),B3 c l k=if Go.Lib.indexByte l (Int.ofNat c).toNat.toUInt8== -1 then -1 else(k:Int)+Go.Lib.indexByte l (Int.ofNat c).toNat.toUInt8
 | [],k=>rfl
 |b::l,k=>by
  show(match Nat.beq b.toNat c with|true=>Int.ofNat k|false=>B3 c l (k+1))=_;unfold Go.Lib.indexByte;rw[a6J b c d];cases e:Nat.beq b.toNat c with
  |true=>simp
  |false=>
   simp only[fa,br];rw[D5 c d l (k+1)];have a:=Go.Lib.indexByte_ge l (Int.ofNat c).toNat.toUInt8;generalize Go.Lib.indexByte l (Int.ofNat c).toNat.toUInt8=m at a;by_cases h:m= -1
   .subst h;rfl
   .grind
theorem Oz(v:AV)(a:Value)(b:ai E v=some a):(Vf v).path (λc=>c<256/\a=.int .u8 (.ofNat c)):=by
 cases v with
 |int k n=>
  cases n with
  |negSucc n=>trivial
  |ofNat n=>
   cases k with
   |u8=>
    simp only[ai,aD]at b;show(match Nat.blt n 256 with|true=>R.ok n|false=>R.bad _).path _;cases d:Nat.blt n 256 with
    |true=>exact⟨bZ d,b.symm⟩
    |false=>trivial
   |_=>trivial
 |_=>trivial
theorem uC(v:AV)(a:Value)(b:ai E v=some a):(bytesOf v).path (λl=>a=.string ⟨⟨l⟩⟩):=by
 cases v with
 |str l=>simp only[ai,aD]at b;exact b.symm
 |_=>trivial
theorem Wl(q:Good C)(k:Rel C base E s w)(fn:Func)(e:Ext)(args:List AV)(a:List Value)(b:aN E args=some a):
  (uT C s fn e args).path (eY C base E s w ((VS (a0P fn e ⟨a⟩)).run C.P w)):=by
 cases e with
 |index g=>trivial
 |BI=>
  simp only[uT];split
  case h_2=>trivial
  rename_i x;obtain⟨f,m,d,I,rfl⟩:=aL.1 b;simp only[aN,aD]at I;subst I;exact fh k (c:=f) rfl d
 |indexByte=>
  simp only[uT];split
  case h_2=>trivial
  rename_i x c;obtain⟨f,m,d,I,rfl⟩:=aL.1 b;obtain⟨n,o,i,Y,rfl⟩:=aL.1 I;simp only[aN,aD]at Y;subst Y;refine R.bR _ (uC x f d) λl p=>?_
  refine R.bR _ (Oz c n i) λc j=>?_
  obtain⟨j,rfl⟩:=j;subst p;refine fh k (Go.Lib.run_indexByteString ⟨⟨l⟩⟩ (.ofNat c) w) ?_;simp only[ai,aD,kV,fp];rw[D5 c j l 0];split
  .next h=>exact(eq_of_beq h).symm
  .simp
end
section
variable{C:Ctx}{base:Nat}{E:G}{s:S}{w:World}{nt:Nat}{t:Tr AV}{a:Act}
theorem ZL(h:Good C)(k:Rel C base E s w)(f:FuncId)(args:List AV)(a:List Value)(c:aN E args=some a):
  (a1o C s f args).path (eY C base E s w ((callFunc f ⟨a⟩).run C.P w)):=by
 unfold a1o;cases l:C.F.get f with
 |none=>trivial
 |some fn=>
  have d:=B1 h l;cases i:fn.body with
  |some b=>
   simp only[i];have m:=h.aaJ f fn d (by rw[i];rfl);have j:fn.name≠ "runtime.NumGoroutine":=by simpa using m
   refine⟨E,a,w,?_,c,Step.refl k⟩;simp[callFunc,d,j,i]
  |none=>
   simp only[i];cases n:wC f C.X with
   |none=>trivial
   |some e=>
    have Z:=h.ext f e n;cases e with
    |index g=>exact R.bg _ _
    |_=>obtain⟨o,g1,g2,g3,g4,g5⟩:=Z;rw[d]at g1;obtain rfl:=ae g1;rw[Gf d g2 g3 g4 g5];exact Wl h k fn _ args a c
theorem zA(p:Good C)(q:Rel C base E s w)(f:AV)(o:Value)(e:ai E f=some o)(args:List AV)(a:List Value)(b:aN E args=some a):
  (xH C s f args).path (eY C base E s w ((do let d <-Deferred.ofValue o ⟨a⟩;invoke d.target d.args:Sem Next).run C.P w)):=by
 cases f with
 |fn g first cap=>
  simp only[ai]at e;cases k:lD g with
  |false=>simp[k]at e
  |true=>
   cases Z:aN E first with
   |none=>simp[k,Z]at e
   |some h=>
    cases n:aN E cap with
    |none=>simp[k,Z,n]at e
    |some m=>
     simp only[k,Z,n,aD]at e;subst e;have c:(do let d <-Deferred.ofValue (.func g ⟨h⟩ ⟨m⟩) ⟨a⟩;invoke d.target d.args:Sem Next).run C.P w=(invoke (.fn g ⟨m⟩) (⟨h⟩++⟨a⟩)).run C.P w:=by simp[Deferred.ofValue]
     rw[c];have i:=eU Z b;have j:((⟨h⟩:Array Value)++⟨a⟩)=⟨h++a⟩:=by simp
     rw[j];unfold xH;cases g with
     |func g=>
      have:(invoke (.fn (.func g) ⟨m⟩) ⟨h++a⟩).run C.P w=(callFunc g ⟨h++a++m⟩).run C.P w:=by simp[invoke]
      rw[this];exact ZL p q g _ _ (eU i n)
     |_=>trivial
 |yield l=>simp only[ai,bk]at e;obtain⟨B,r,rfl⟩:=e;refine⟨rfl,B,a,r,b,?_⟩;simp[Deferred.ofValue,invoke]
 |_=>trivial
end
section
variable{C:Ctx}{base:Nat}{E:G}{s:S}{w:World}{nt:Nat}{t:Tr AV}{a:Act}
theorem RJ(e:Good C)(f:Rel C base E s w)(b:Builtin)(argTypes:List TypeId)(rt:TypeId)(d:Array Bool)(args:List AV)(a:List Value)(c:aN E args=some a):
  (Kj b C s argTypes args).path (eY C base E s w ((builtin b ⟨argTypes⟩ rt d ⟨a⟩).run C.P w)):=by
 cases b with
 |append=>exact Wm e f argTypes args a c rt
 |len=>exact a7c e f argTypes args a c rt
 |recover=>exact⟨rfl,rfl⟩
 |unsafeString=>exact Wi e f argTypes args a c rt
 |unsafeSliceData=>exact LU e f argTypes args a c rt
 |_=>trivial
theorem a3o(i:Good C)(h:Rel C base E s w)(j:aW E nt t a.tmps)(c:Call)(rt:TypeId):
  (zz c rt C t s).path (eY C base E s w ((do let d <-resolve a.eval c rt;invoke d.target d.args:Sem Next).run C.P w)):=by
 refine R.bR _ (vX h j c.args.toList) λargs g=>?_
 have k:c.args.map a.eval=⟨c.args.toList.map a.eval⟩:=by apply Array.ext';simp
 cases l:c.callee with
 |builtin b=>
  simp only;have e:(do let d <-resolve a.eval c rt;invoke d.target d.args:Sem Next).run C.P w=(builtin b c.argTypes rt (c.args.map λ| .const _=>true|_=>false) (c.args.map a.eval)).run C.P w:=by simp[resolve,l,invoke];rfl
  rw[e,k];exact RJ i h b c.argTypes.toList rt _ args _ g
 |value f=>
  simp only;refine R.bR _ (bO h j f) λm n=>?_
  have e:(do let d <-resolve a.eval c rt;invoke d.target d.args:Sem Next).run C.P w=(do let d <-Deferred.ofValue (a.eval f) ⟨c.args.toList.map a.eval⟩;invoke d.target d.args:Sem Next).run C.P w:=by simp[resolve,l,k]
  rw[e];exact zA i h m _ n args _ g
 |invoke r name=>exact R.bg _ _
theorem RC(d:Rel C base E s w)(e:aW E nt t a.tmps)(x:Operand)(rt:TypeId):
  (Bz x rt C t s).path (eY C base E s w ((VS (Instr.panic (a.eval x))).run C.P w)):=by
 refine R.bR _ (bO d e x) λv b=>?_
 cases v with
 |iface ty v=>have c:=b;simp only[ai,bk]at b;obtain⟨f,g,b⟩:=b;rw[<-b]at c ⊢;exact⟨E,.iface ty f,w,rfl,c,Step.refl d⟩
 |_=>trivial
theorem CT(g:Good C)(b:Rel C base E s w)(d:aW E nt t a.tmps)(o:Oper):
  (sF o.op o.type C t s).path (eY C base E s w ((execOp a.eval o).run C.P w)):=by
 cases h:o.op with
 |move x=>simp only[execOp,h];exact Ud b d x o.type
 |assign x=>simp only[execOp,h];exact Ud b d x o.type
 |pick x y z=>simp only[execOp,h];exact a3k b d x y z o.type
 |alloc e=>simp only[execOp,h];exact ZO (t:=t) g b e o.type
 |box e x=>simp only[execOp,h];exact a7d g b d e x o.type
 |build ty ps=>simp only[execOp,h];exact ZN g b d ty ps o.type
 |buildSlice ty n ps=>simp only[execOp,h];exact IL g b d ty n ps o.type
 |insert ty m k x=>simp only[execOp,h];exact BB g b d ty m k x o.type
 |load ty x=>simp only[execOp,h];exact a3l g b d ty x o.type
 |store ty x y=>simp only[execOp,h];exact ZH g b d ty x y o.type
 |nilCheck x=>have:=OY (C:=C) (base:=base) (s:=s) (w:=w) b d o x h o.type;exact this
 |binOp op ty x y p=>simp only[execOp,h];exact a7e g b d op ty x y o.type
 |unOp op ty x=>simp only[execOp,h];exact aaC b d op x o.type
 |convert src dst x=>simp only[execOp,h];exact a3n g b d src dst x o.type
 |makeInterface ty x=>simp only[execOp,h];exact ZK g b d ty x o.type
 |makeFunc f x y=>simp only[execOp,h];exact a3m b d f x y o.type
 |makeMap ty r=>simp only[execOp,h];exact RD g b d ty r o.type
 |slice ty x lo V j=>simp only[execOp,h];exact ok_slice g b d ty x lo V j o.type
 |fieldAddr ty x f=>simp only[execOp,h];exact LW g b d ty x f o.type
 |indexAddr ty x i=>simp only[execOp,h];exact LV g b d ty x i o.type
 |index ty x i=>simp only[execOp,h];exact ZJ g b d ty x i o.type
 |lookup ty x k ok=>simp only[execOp,h];exact Wk g b d ty x k ok o.type
 |mapUpdate ty m k x=>simp only[execOp,h];exact BB g b d ty m k x o.type
 |typeAssert x l ty ok=>simp only[execOp,h];exact aaD g b d x l ty ok o.type
 |extract x i=>simp only[execOp,h];exact RE b d x i o.type
 |call c=>simp only[execOp,h];exact a3o g b d c o.type
 |panic x=>simp only[execOp,h];exact RC b d x o.type
 |_=>trivial
end
section
variable{C:Ctx}{base:Nat}{E A:G}{s:S}{w:World}
theorem SH(h:Grow E A){x:cw}{i:Item}(Z:kF E x=some i):kF A x=some i:=by
 cases x<;>simp only[kF,bk]at Z ⊢<;>first|exact Z|skip
 .obtain⟨l,b,rfl⟩:=Z;obtain⟨O,a,e,_⟩:=h _ l b;exact⟨O,a,by rw[e]⟩
 .obtain⟨l,b,rfl⟩:=Z;obtain⟨O,a,e,_⟩:=h _ l b;exact⟨O,a,by rw[e]⟩
theorem dI{x:cw}{l:List cw}{r:List Item}:jc E (x::l)=some r↔∃a b,kF E x=some a/\jc E l=some b/\r=a::b:=by grind[jc,kF]
theorem nW(h:Grow E A):∀{l:List cw}{r:List Item},jc E l=some r->jc A l=some r
 | [],_,c=>c
 |x::l,r,c=>by
  obtain⟨a,b,d,e,rfl⟩:=dI.1 c;exact dI.2 ⟨a,b,SH h d,nW h e,rfl⟩
theorem PX(h:Grow E A){x:jh}{d:Deferred}(Z:uX E x=some d):uX A x=some d:=by
 cases x with
 |call d'=>exact HO h Z
 |collected r=>simp only[uX,bk]at Z ⊢;obtain⟨l,b,rfl⟩:=Z;obtain⟨O,a,e,_⟩:=h _ l b;exact⟨O,a,by rw[e]⟩
theorem hV{tl:List Deferred}{x:jh}{l:List jh}{r:List Deferred}:dY tl E (x::l)=some r↔∃a b,uX E x=some a/\dY tl E l=some b/\r=a::b:=by grind[dY,uX]
theorem df{tl:List Deferred}(h:Grow E A):∀{l:List jh}{r:List Deferred},dY tl E l=some r->dY tl A l=some r
 | [],_,c=>c
 |x::l,r,c=>by
  obtain⟨a,b,d,e,rfl⟩:=hV.1 c;exact hV.2 ⟨a,b,PX h d,df h e,rfl⟩
theorem PW(h:Grow E A){x:PE}{p:PanicEntry}(Z:kq E x=some p):kq A x=some p:=by grind[kq,gL,Option.map_eq_some_iff]
theorem gZ{x:PE}{l:List PE}{r:List PanicEntry}:gM E (x::l)=some r↔∃a b,kq E x=some a/\gM E l=some b/\r=a::b:=by grind[gM,kq]
theorem wE(h:Grow E A):∀{l:List PE}{r:List PanicEntry},gM E l=some r->gM A l=some r
 | [],_,c=>c
 |x::l,r,c=>by
  obtain⟨a,b,d,e,rfl⟩:=gZ.1 c;exact gZ.2 ⟨a,b,PW h d,wE h e,rfl⟩
theorem rB.grow (h:Grow E A) {m:n7} {c:FrameMode} (a:rB E m c):rB A m c:=by
 cases m with
 |gv ch=>obtain⟨c',I,Y⟩:=a;exact⟨c',wE h I,Y⟩
 |_=>exact a
theorem rz.grow (h:Grow E A) {a b:Option Nat} (d:rz E a b):rz A a b:=by
 cases a<;>cases b<;>first|exact d|skip
 obtain⟨l,f,rfl⟩:=d;obtain⟨O,c,e,_⟩:=h _ l f;exact⟨O,c,e⟩
theorem ga.grow (h:Grow E A) {k:CallKind} {ctx:Option (List PE)} {cs:List Frame} (a:ga E k ctx cs):ga A k ctx cs:=by
 cases k with
 |normal=>exact a
 |deferred=>
  obtain⟨c,rest,rfl,Y⟩:=a;refine⟨c,rest,rfl,?_⟩;cases ctx with
  |none=>exact Y
  |some ch=>obtain⟨b,W,U⟩:=Y;exact⟨b,wE h W,U⟩
 |_=>exact a.elim
theorem dK.of_steps {b:G} {n:S} {p:World} {fi:FI} {cs d:List Frame} {m0 q:Machine} {o:Out} (g:Step C base E s w b n p) (i:Steps C.P m0 q) (j:cF fi.kind cs d)
  (h:dK C base b n p fi d q o):dK C base E s w fi cs m0 o:=by
 obtain⟨A,M,k,I,Y,W,U⟩:=h;refine⟨A,M,k,g.trans I,Y,j.trans W,?_⟩;cases r:o.res with
 |ret v=>
  rw[r]at U;obtain⟨t,u,h5⟩:=U;refine⟨t,u,?_⟩;cases f:fi.roundOf with
  |none=>rw[f]at h5;obtain⟨a,g1,g2⟩:=h5;exact⟨a,i.trans g1,g2⟩
  |some l=>rw[f]at h5;exactλc rest e=>i.trans (h5 c rest e)
 |gv ch=>rw[r]at U;obtain⟨m,x,a,g1,g2⟩:=U;exact⟨m,x,a,i.trans g1,g2⟩
end
section
variable{P:Program}{fi:FI}{ro:Option Nat}{tm:Array Value}{k:List Item}{ds:List Deferred}{cs:List Frame}{w:World}
theorem a2u:step P (lone (aV fi ro tm (.code .skip::k) ds .run) cs w)=.next (lone (aV fi ro tm k ds .run) cs w):=
 dE (by simp[stepG,stepG.exec,aV])
theorem Yy{l:Nat}:step P (lone (aV fi ro tm (.code (.label l)::k) ds .run) cs w)=.next (lone (aV fi ro tm k ds .run) cs w):=
 dE (by simp[stepG,stepG.exec,aV])
theorem QW{id:Nat}:step P (lone (aV fi ro tm (.inBlock id::k) ds .run) cs w)=.next (lone (aV fi ro tm k ds .run) cs w):=
 dE (by simp[stepG,stepG.exec,aV])
theorem QV{b:Code}:step P (lone (aV fi ro tm (.inScope b::k) ds .run) cs w)=.next (lone (aV fi ro tm k ds .run) cs w):=
 dE (by simp[stepG,stepG.exec,aV])
theorem a6Q{x y:Code}:step P (lone (aV fi ro tm (.code (.seq x y)::k) ds .run) cs w)=.next (lone (aV fi ro tm (.code x::.code y::k) ds .run) cs w):=
 dE (by simp[stepG,stepG.exec,aV])
theorem UL(x:Operand)(todo:List Item)(m:FrameMode):(aV fi ro tm todo ds m).eval x=Act.eval ⟨tm,ds⟩ x:=by cases x<;>rfl
theorem Hw(todo:List Item)(m:FrameMode):(aV fi ro tm todo ds m).eval=Act.eval ⟨tm,ds⟩:=funext λx=>UL x todo m
theorem TA{c:Operand}{x y:Code}{b:Bool}(h:Act.eval ⟨tm,ds⟩ c=.bool b):
  step P (lone (aV fi ro tm (.code (.cond c x y)::k) ds .run) cs w)=.next (lone (aV fi ro tm (.code (if b then x else y)::k) ds .run) cs w):=
 dE (by
  have:=UL (fi:=fi) (ro:=ro) (tm:=tm) (ds:=ds) c (.code (.cond c x y)::k) .run;simp only[aV]at this;simp[stepG,stepG.exec,aV,this,h])
theorem YB{id:Nat}{c:Code}:step P (lone (aV fi ro tm (.code (.block id c)::k) ds .run) cs w)=.next (lone (aV fi ro tm (.code c::.inBlock id::k) ds .run) cs w):=
 dE (by simp[stepG,stepG.exec,aV])
theorem a2v{c:Code}:step P (lone (aV fi ro tm (.code (.loop c)::k) ds .run) cs w)=.next (lone (aV fi ro tm (.code c::.inLoop c::k) ds .run) cs w):=
 dE (by simp[stepG,stepG.exec,aV])
theorem VG{c:Code}:step P (lone (aV fi ro tm (.inLoop c::k) ds .run) cs w)=.next (lone (aV fi ro tm (.code c::.inLoop c::k) ds .run) cs w):=
 dE (by simp[stepG,stepG.exec,aV])
theorem Yu{c:Code}:step P (lone (aV fi ro tm (.code (.scope c)::k) ds .run) cs w)=.next (lone (aV fi ro tm (.code c::.inScope c::k) ds .run) cs w):=
 dE (by simp[stepG,stepG.exec,aV])
theorem a2w{id:Nat}{k':List Item}(h:exitTo id k=some k'):step P (lone (aV fi ro tm (.code (.exit id)::k) ds .run) cs w)=.next (lone (aV fi ro tm k' ds .run) cs w):=
 dE (by simp[stepG,stepG.exec,aV,h])
theorem VF{id:Nat}{ops:Array Oper}:step P (lone (aV fi ro tm (.code (.region id ops false)::k) ds .run) cs w)=.next (lone (aV fi ro tm (.inRegion ops (List.range ops.size)::k) ds .run) cs w):=
 dE (by simp[stepG,stepG.exec,aV])
theorem yh{ops:Array Oper}:step P (lone (aV fi ro tm (.inRegion ops []::k) ds .run) cs w)=.next (lone (aV fi ro tm k ds .run) cs w):=
 dE (by simp[stepG,stepG.exec,aV])
theorem a6R:step P (lone (aV fi none tm (.code .ret::k) ds .run) cs w)=.next (lone (aV fi none tm (.code .ret::k) ds .returning) cs w):=
 dE (by simp[stepG,stepG.exec,aV])
theorem a6S:step P (lone (aV fi none tm [] ds .run) cs w)=.next (lone (aV fi none tm [] ds .returning) cs w):=
 dE (by simp[stepG,stepG.exec,aV])
end
def pU(tm:Array Value)(dst:Option Tmp)(v:Value):Array Value:=
 match dst with
 |some d=>tm.setIfInBounds d v
 |none=>tm
section
variable{P:Program}{fi:FI}{ro:Option Nat}{tm:Array Value}{k:List Item}{ds:List Deferred}{cs:List Frame}{w:World}{ops:Array Oper}{i:Nat}{rest:List Nat}{o:Oper}
theorem jx(v:Value)(ho:ops[i]? =some o):(aV fi ro tm (.inRegion ops (i::rest)::k) ds .run).finish v=aV fi ro (pU tm o.dst v) (.inRegion ops rest::k) ds .run:=by grind[aV,pU,Frame.finish]
theorem zi(ho:ops[i]? =some o)(a:Region.wanted o (yielded ops tm)=false):
  step P (lone (aV fi ro tm (.inRegion ops (i::rest)::k) ds .run) cs w)=.next (lone (aV fi ro (pU tm o.dst undef) (.inRegion ops rest::k) ds .run) cs w):=by
 rw[<-jx undef ho];exact dE (by simp[stepG,stepG.exec,aV,ho,a])
theorem DA(ho:ops[i]? =some o)(e:Region.wanted o (yielded ops tm)=true)(f:ro=none\/∀c,o.op≠.defer c):
  stepG P true { frame:=aV fi ro tm (.inRegion ops (i::rest)::k) ds .run,callers:=cs,status:=.running,dying:=none } w=
   stepG.apply P true (aV fi ro tm (.inRegion ops (i::rest)::k) ds .run) cs none (execOp (Act.eval ⟨tm,ds⟩) o) w:=by
 have a:=Hw (fi:=fi) (ro:=ro) (tm:=tm) (ds:=ds) (.inRegion ops (i::rest)::k) .run;simp only[aV]at a;cases ro with
 |none=>simp[stepG,stepG.exec,stepG.oper,Frame.oper?,aV,ho,e,a]
 |some l=>have b:∀c,o.op≠.defer c:=f.resolve_left (by simp);simp only[stepG,stepG.exec,stepG.oper,Frame.oper?,aV,ho,e,a,cM,hE,bc];cases d:o.op<;>first|rfl|exact absurd d (b _)
theorem F6(ho:ops[i]? =some o)(a:Region.wanted o (yielded ops tm)=true)(b:ro=none\/∀c,o.op≠.defer c){v:Value}{M:World}(d:(execOp (Act.eval ⟨tm,ds⟩) o).run P w=.ok (.value v) M):
  step P (lone (aV fi ro tm (.inRegion ops (i::rest)::k) ds .run) cs w)=.next (lone (aV fi ro (pU tm o.dst v) (.inRegion ops rest::k) ds .run) cs M):=by
 rw[<-jx v ho];exact dE (by rw[DA ho a b];simp[stepG.apply,d])
theorem VE(ho:ops[i]? =some o)(a:Region.wanted o (yielded ops tm)=true)(b:ro=none\/∀c,o.op≠.defer c){M:World}(d:(execOp (Act.eval ⟨tm,ds⟩) o).run P w=.ok .skip M):
  step P (lone (aV fi ro tm (.inRegion ops (i::rest)::k) ds .run) cs w)=.next (lone (aV fi ro (pU tm o.dst undef) (.inRegion ops rest::k) ds .run) cs M):=by
 rw[<-jx undef ho];exact dE (by rw[DA ho a b];simp[stepG.apply,d])
theorem Yz(ho:ops[i]? =some o)(a:Region.wanted o (yielded ops tm)=true)(b:ro=none\/∀c,o.op≠.defer c){f:FuncId}{args:Array Value}{M:World}(d:(execOp (Act.eval ⟨tm,ds⟩) o).run P w=.ok (.enter f args) M):
  step P (lone (aV fi ro tm (.inRegion ops (i::rest)::k) ds .run) cs w)=.next (lone (Frame.enter P f args .normal) (aV fi ro tm (.inRegion ops (i::rest)::k) ds .run::cs) M):=
 dE (by rw[DA ho a b];simp[stepG.apply,d,aV])
theorem Yv(ho:ops[i]? =some o)(a:Region.wanted o (yielded ops tm)=true)(b:ro=none\/∀c,o.op≠.defer c){l:Nat}{f:FuncId}{tmps:Array Value}{assign body:Code}{M:World}
  (d:(execOp (Act.eval ⟨tm,ds⟩) o).run P w=.ok (.round l f tmps assign body) M):
  step P (lone (aV fi ro tm (.inRegion ops (i::rest)::k) ds .run) cs w)=.next (lone (Frame.round l f tmps assign body .normal) (aV fi ro tm (.inRegion ops (i::rest)::k) ds .run::cs) M):=
 dE (by rw[DA ho a b];simp[stepG.apply,d,aV])
theorem YA(ho:ops[i]? =some o)(a:Region.wanted o (yielded ops tm)=true)(b:ro=none\/∀c,o.op≠.defer c){d:Deferred}{M:World}(f:(execOp (Act.eval ⟨tm,ds⟩) o).run P w=.ok (.defer d) M):
  step P (lone (aV fi ro tm (.inRegion ops (i::rest)::k) ds .run) cs w)=.next (lone (aV fi ro (pU tm o.dst undef) (.inRegion ops rest::k) (d::ds) .run) cs M):=by
 have e:({ aV fi ro tm (.inRegion ops (i::rest)::k) ds .run with defers:=d::ds }:Frame).finish undef=aV fi ro (pU tm o.dst undef) (.inRegion ops rest::k) (d::ds) .run:=
  jx undef ho
 refine dE ?_;rw[DA ho a b];simp only[stepG.apply,Sem.runT_eq,f,GStep.bare_after];exact fo (λg=>GStep.go { frame:=g,callers:=cs,status:=.running,dying:=none } M) e
theorem Yx(ho:ops[i]? =some o)(a:Region.wanted o (yielded ops tm)=true)(b:ro=none\/∀c,o.op≠.defer c){v:Value}{M:World}(d:(execOp (Act.eval ⟨tm,ds⟩) o).run P w=.halt (.panic v) M):
  step P (lone (aV fi ro tm (.inRegion ops (i::rest)::k) ds .run) cs w)=.next (lone (aV fi ro tm (.inRegion ops (i::rest)::k) ds (.panicking [{ v,recovered:=false }])) cs M):=
 dE (by rw[DA ho a b];simp[stepG.apply,d,aV,Frame.raise])
end
section
variable{E:G}
theorem pR(nt:Nat)(t:Tr AV)(d:Nat)(v:AV):put nt t (some d) v=if d<nt then t.set d v else t:=by
 show@Bool.rec (λ_=>Tr AV) t (t.set d v) (Nat.blt d nt)=_;cases h:Nat.blt d nt with
 |true=>have a:d<nt:=bZ h;rw[aJ a]
 |false=>
  rw[av (λh'=>by
   have:Nat.blt d nt=true:=w4 h';rw[this]at h;cases h)]
theorem aW.put {nt:Nat} {t:Tr AV} {tm:Array Value} (h:aW E nt t tm) (d:Option Tmp) {v:AV} {c:Value} (g:ai E v=some c):aW E nt (put nt t d v) (pU tm d c):=by
 obtain⟨I,Y,W⟩:=h;cases d with
 |none=>exact⟨I,Y,W⟩
 |some d=>
  rw[pR];simp only[pU];split
  .next b=>
   refine⟨by simp[I],?_,?_⟩
   .intro e x a;rw[Tr.bY]at a;split at a
    .next heq=>
     subst heq;obtain rfl:=ae a;exact⟨b,c,by simp[I,b],.inr g⟩
    .grind
   .intro e a;rw[Tr.bY]at a;split at a
    .cases a
    .next f=>
     have:=W e a;simp only[oh]at this ⊢;simp only[vx,f,br];exact this
  .next i=>
   have:tm.setIfInBounds d c=tm:=by grind
   rw[this];exact⟨I,Y,W⟩
theorem jb:ai E iK=some undef:=by simp[iK,ai,aN,undef]
theorem vU{nt:Nat}{t:Tr AV}{tm:Array Value}(m:aW E nt t tm)(ops:Array Oper)(o:Oper):
  (eo ops o.guard t).path (λb=>Region.wanted o (yielded ops tm)=b):=by
 unfold Region.wanted;cases z:o.guard with
 |none=>rfl
 |some p=>
  obtain⟨j,want⟩:=p;show(@Option.rec Tmp (λ_=>R Bool) (.ok false) (λd=>@Option.rec AV (λ_=>R Bool) (.ok false) (a0E want) (t.get d)) (tu ops j)).path (λb=>(yielded ops tm j==some want)=b);have q:yielded ops tm j=match(tu ops j).bind (tm[·]?)with|some (.bool b)=>some b|_=>none:=by unfold yielded tu;cases ops[j]? <;>rfl
  rw[q];cases A:tu ops j with
  |none=>rfl
  |some d=>
   simp only[bn];obtain⟨I,Y,W⟩:=m;cases l:t.get d with
   |none=>
    have:=W d l;show((match tm[d]? with|some (.bool b)=>some b|_=>none)==some want)=false;simp only[oh]at this;cases s:tm[d]? with
    |none=>rfl
    |some c=>rw[s]at this;simp only[hE]at this;subst this;rfl
   |some v=>
    obtain⟨u,c,w,h⟩:=Y d v l;simp only[w];rcases h with rfl|e
    .trivial
    .cases v with
     |bool b=>simp only[ai,aD]at e;subst e;cases b<;>cases want<;>rfl
     |fO=>trivial
     |raw r=>trivial
     |cE k i=>trivial
     |iI b n c'=>obtain⟨_,_,_,_,_,_,_,_,rfl⟩:=ja e;rfl
     |jn b i g k=>obtain⟨_,_,_,_,_,_,rfl⟩:=tz e;rfl
     |fn f x y=>
      simp only[ai]at e;have:∃a b c',c=.func a b c':=by grind
      obtain⟨_,_,_,rfl⟩:=this;rfl
     |_=>
      simp only[ai,aD,bk]at e
      first
       |(subst e;rfl)
       |(obtain⟨_,_,rfl⟩:=e;rfl)
theorem Rn{nt:Nat}{t:Tr AV}{tm:Array Value}(l:aW E nt t tm)(ops:Array Oper)(o:Oper){e:SE}{want:Bool}(h:v8 ops o.guard t=some (e,want)):
  ∃b,ax E e=some (.val (.bool b)):=by
 cases g:o.guard with
 |none=>rw[g]at h;cases h
 |some p=>
  obtain⟨j,wt⟩:=p;rw[g]at h;unfold v8 at h;simp only at h;cases i:tu ops j with
  |none=>rw[i]at h;cases h
  |some d=>
   rw[i]at h;simp only at h;cases a:t.get d with
   |none=>rw[a]at h;cases h
   |some v=>
    rw[a]at h;obtain⟨m,c,n,f⟩:=l.2.1 d v a;cases v<;>first|(cases h;done)|skip
    rename_i k q;cases k<;>first|(cases h;done)|skip
    simp only[aD,cB]at h;obtain⟨rfl,rfl⟩:=h;rcases f with h|h
    .cases h
    .obtain⟨r,I,⟨b,rfl⟩,rfl⟩:=ek h;exact⟨b,I⟩
theorem LC{C:Ctx}{base:Nat}{s:S}{w:World}(a:Rel C base E s w){nt:Nat}{t:Tr AV}{tm:Array Value}(c:aW E nt t tm)(ops:Array Oper)(o:Oper):
  (hH ops o.guard t s).path (λr=>Region.wanted o (yielded ops tm)=r.1/\Step C base E s w E r.2 w):=by
 unfold hH;cases e:v8 ops o.guard t with
 |some p=>exact R.bg _ _
 |none=>exact R.pb _ (vU c ops o) λb d=>⟨d,Step.refl a⟩
end
section
theorem u5:∀{a b:List UInt8},eB a b=true->a=b
 | [],[],_=>rfl
 | [],_::_,h=>by simp[eB]at h
 |_::_,[],h=>by simp[eB]at h
 |x::a,y::b,h=>by
  unfold eB at h;cases c:Nat.beq x.toNat y.toNat with
  |false=>simp[c]at h
  |true=>simp only[c]at h;have e:x.toNat=y.toNat:=bj c;rw[hD.1 e,u5 h]
theorem Rh{a b:Value}(h:Zd a b=true):a=b:=by
 unfold Zd at h;split at h
 .rename_i x y;simp only[aM]at h;obtain⟨⟨⟨I,Y⟩,W⟩,U⟩:=h;have I:=bj I;have Y:=bj Y;cases x with
  |mk b o s=>
   cases y with
   |mk N T F=>
    cases s with
    |some _=>cases W
    |none=>
     cases F with
     |some _=>cases U
     |none=>have e1:b=N:=I;have e2:o=T:=Y;rw[e1,e2]
 .cases h
mutual
theorem ij:∀(a b:AV),gx a b=true->a=b
 | .int k n,b,h=>by
   cases b<;>simp[gx,a0q,a5Q]at h;rw[h.1,h.2]
 | .bool x,b,h=>by cases b<;>simp[gx]at h;rw[h]
 | .str x,b,h=>by cases b<;>simp[gx]at h;rw[u5 h]
 | .ptr x i,b,h=>by cases b<;>simp[gx]at h;rw[h.1,h.2]
 | .uH,b,h=>by cases b<;>simp[gx]at h;rfl
 | .sl x o l c,b,h=>by cases b<;>simp[gx]at h;obtain⟨⟨⟨I,Y⟩,W⟩,U⟩:=h;rw[I,Y,W,U]
 | .qY x p e l z,b,h=>by cases b<;>simp[gx]at h;obtain⟨⟨⟨⟨I,Y⟩,W⟩,U⟩,h5⟩:=h;rw[I,Y,W,U,h5]
 | .dq,b,h=>by cases b<;>simp[gx]at h;rfl
 | .qf r,b,h=>by cases b<;>simp[gx]at h;rw[h]
 | .ko,b,h=>by cases b<;>simp[gx]at h;rfl
 | .fn f x y,b,h=>by
   cases b with
   |fn g d m=>cases f<;>cases g<;>simp[gx]at h;obtain⟨⟨I,Y⟩,W⟩:=h;rw[I,mO x d Y,mO y m W]
   |_=>cases f<;>simp[gx]at h
 | .yield l,b,h=>by cases b<;>simp[gx]at h;rw[h]
 | .vd,b,h=>by cases b<;>simp[gx]at h;rfl
 | .iface t v,b,h=>by
   cases b with
   |iface Q q=>simp[gx]at h;rw[h.1,ij v q h.2]
   |_=>simp[gx]at h
 | .qc,b,h=>by cases b<;>simp[gx]at h;rfl
 | .cE k i,b,h=>by
   cases b with
   |cE k' j=>simp only[gx,aM]at h;rw[kA h.1,bh h.2]
   |_=>simp[gx]at h
 | .iI x n c,b,h=>by
   cases b with
   |iI d n' c'=>simp only[gx,aM]at h;rw[bj h.1,bh h.2.1,bh h.2.2]
   |_=>simp[gx]at h
 | .jn x i z k,b,h=>by
   cases b with
   |jn d s w k'=>simp only[gx,aM]at h;rw[bj h.1,bh h.2.1,bj h.2.2.1,bj h.2.2.2]
   |_=>simp[gx]at h
 | .agg x,b,h=>by
   cases b with
   |agg y=>simp[gx]at h;rw[mO x y h]
   |_=>simp[gx]at h
 | .ji x,b,h=>by
   cases b with
   |ji y=>simp[gx]at h;rw[mO x y h]
   |_=>simp[gx]at h
 | .fO,b,h=>by cases b<;>simp[gx]at h
 | .raw v,b,h=>by
   cases b with
   |raw u=>simp only[gx]at h;rw[Rh h]
   |_=>simp[gx]at h
theorem mO:∀(a b:List AV),yY a b=true->a=b
 | [],[],_=>rfl
 | [],_::_,h=>by simp[yY]at h
 |_::_,[],h=>by simp[yY]at h
 |x::a,y::b,h=>by
  simp[yY]at h;rw[ij x y h.1,mO a b h.2]
end
theorem Pw:∀{k:Nat}{l:List Nat},uR k l=false->k ∉ l
 |_,[],_=>by simp
 |k,e::J,h=>by
  unfold uR at h;cases a:Nat.beq k e with
  |true=>rw[a]at h;cases h
  |false=>
   rw[a]at h;intro b;cases b with
   |head=>simp at a
   |tail _ b=>exact Pw h b
theorem DW{ids:List Nat}:∀{l:List Nat},L1 ids l=true->∀a∈l,a ∉ ids
 | [],_,a,c=>by cases c
 |b::l,h,a,c=>by
  unfold L1 at h;cases d:uR b ids with
  |true=>rw[d]at h;cases h
  |false=>
   rw[d]at h;cases c with
   |head=>exact Pw d
   |tail _ c=>exact DW h a c
theorem Hu{id:Nat}{b:gn}:∀{l:List Nat}{h:Tr gn},(oq l h).get id=some b->h.get id=some b/\id ∉ l
 | [],_,e=>⟨e,by simp⟩
 |a::l,h,e=>by
  obtain⟨I,Y⟩:=Hu (l:=l) (h:=h.del a) e;rw[Tr.xI]at I;split at I
  .cases I
  .grind
theorem wH{cs:Tr AV}:∀{l:List AV}{k:Nat},pf cs l k=true->∀i v,l[i]? =some v->v=.fO\/cs.get (k+i)=some v
 | [],_,_,i,v,V=>by simp at V
 |x::l,k,h,i,v,V=>by
  have rest:pf cs l (k+1)=true->∀j,l[j]? =some v->v=.fO\/cs.get (k+(j+1))=some v:=λhh j d=>by
   have:=wH hh j v d
   rwa [show k+1+j=k+(j+1) by omega]at this
  unfold pf at h;cases a:oZ x with
  |true=>
   rw[a]at h;cases i with
   |zero=>simp only[dj,aD]at V;subst V;cases x<;>first|exact .inl rfl|cases a
   |succ i=>exact rest h i (by simpa using V)
  |false=>
   rw[a]at h;simp only at h;cases b:cs.get k with
   |none=>rw[b]at h;cases h
   |some u=>
    rw[b]at h;simp only at h;cases c:gx u x with
    |false=>rw[c]at h;cases h
    |true=>
     rw[c]at h;cases i with
     |zero=>simp only[dj,aD]at V;subst V;exact .inr (by rw[iF,b,ij _ _ c])
     |succ i=>exact rest h i (by simpa using V)
theorem G6:∀{x y:List ME},Up x y=true->x=y
 | [],[],_=>rfl
 | [],_::_,h=>by cases h
 |_::_,[],h=>by cases h
 |a::x,b::y,h=>by
  simp only[Up,aM]at h;obtain⟨⟨⟨I,Y⟩,W⟩,U⟩:=h;have e1:=ij _ _ I;have e2:=ij _ _ Y;have e3:=bj W;cases a;cases b;simp only at e1 e2 e3;subst e1;subst e2;subst e3;rw[G6 U]
theorem Ds{b N:gn}{u:Nat}{l O:Loc}(h:gR b u N l O):u∈EE b/\ez N=true:=by cases b<;>cases N<;>first|exact h.elim|exact⟨h.1,h.2.1⟩
theorem kH{C b:Ctx}(c:C.P=b.P)(d:C.T=b.T)(t:TypeId):aA C t=aA b t:=by
 have h:∀l,Pl C l=Pl b l:=λl=>by
  induction l with
  |nil=>rfl
  |cons a l e=>simp only[Pl,aaY,d,e]
 unfold aA;rw[c];cases b.P.cellTypes b.P.depth t with
 |none=>rfl
 |some l=>exact h l
theorem dC.ctx {C g:Ctx} (p:C.P=g.P) (f:C.T=g.T) {E:G} {l:Loc} {b:gn} {o:Obj} (h:dC C E l b o):dC g E l b o:=by
 cases b with
 |cells e cs n fz gU st sg=>obtain⟨vs,lo,V,rfl,g1,g2,⟨i,j,k⟩,g4⟩:=h;exact⟨vs,lo,V,rfl,g1,g2,⟨i,by rw[<-f];exact j,k⟩,g4⟩
 |Uo m a b c=>cases m<;>exact h
 |vec elem e=>obtain⟨vs,lo,V,J,rfl,I,Y,⟨i,j,k,q⟩,U⟩:=h;exact⟨vs,lo,V,J,rfl,by rw[<-kH p f];exact I,Y,⟨i,by rw[<-f];exact j,by rw[k];unfold lf;rw[kH p f],q⟩,U⟩
 |fV d=>cases d<;>exact h
 |_=>exact h
mutual
theorem Dt.ej.ctx {C e:Ctx} (a:C.P=e.P) (b:C.T=e.T) {w:World} {F:Nat->Prop}:∀(d:Dt),d.ej C w F->d.ej e w F
 | .val v,c=>c
 | .sl v t g J,c=>by
   rcases c with c|⟨f,I,Y⟩
   .exact .inl c
   .exact .inr ⟨by rw[f];unfold lf;rw[kH a b],I,by rw[<-kH a b];exact Dt.cu.ctx a b _ 0 J Y⟩
 | .pt v t g J i k,⟨f,I,Y⟩=>⟨by rw[f];unfold lf;rw[kH a b],I,by rw[<-kH a b];exact Dt.cu.ctx a b _ 0 J Y⟩
 | .ls P J,Y=>Dt.cu.ctx a b P 0 J Y
theorem Dt.cu.ctx {C a:Ctx} (b:C.P=a.P) (c:C.T=a.T) {w:World} {F:Nat->Prop} (P:List Kd):∀(j:Nat)(l:List Dt),Dt.cu C w F P j l->Dt.cu a w F P j l
 |_,[],_=>trivial
 |j,d::l,⟨I,Y,W⟩=>⟨I,Dt.ej.ctx b c d Y,Dt.cu.ctx b c P (j+1) l W⟩
end
theorem dD.ctx {C a:Ctx} (b:C.P=a.P) (c:C.T=a.T) {E:G} {s:S} {w:World} {Z:Nat->Prop} (h:dD C E s w Z):dD a E s w Z:=λid l d I Y=>Dt.ej.ctx b c d (h id l d I Y)
theorem Rel.ctx {C a:Ctx} (c:C.P=a.P) (d:C.T=a.T) (e:C.nG=a.nG) {base:Nat} {E:G} {s:S} {w:World} (h:Rel C base E s w):Rel a base E s w:=
 ⟨λid b f=>let⟨l,o,I,Y,W⟩:=h.aO id b f;⟨l,o,I,Y,W.ctx c d⟩,h.sep,h.new,λg i=>h.gm g (by rw[e];exact i),h.low,h.bs,h.pc,h.rd.ctx c d⟩
theorem Step.ctx {C a:Ctx} (b:C.P=a.P) (c:C.T=a.T) (d:C.nG=a.nG) {base:Nat} {E A:G} {s F:S} {w M:World} (h:Step C base E s w A F M):Step a base E s w A F M:=
 ⟨h.grow,h.rel.ctx b c d,h.keep,h.live,h.next,h.Xi,h.Se,h.p0,λZ e f=>(h.rdz Z e (f.ctx b.symm c.symm)).ctx b c⟩
section
variable{C:Ctx}{base:Nat}{E:G}{s:S}{w:World}
theorem Px(a:Good C):C.T=(iD C.P (λ_=>false) []).T/\C.nG=(iD C.P (λ_=>false) []).nG:=by
 have e:=a.eq;constructor
 .have:=fo Ctx.T e;exact this
 .have:=fo Ctx.nG e;exact this
end
end
theorem wo{α:Type}{e:α->α->Bool}(c:∀a b,e a b=true->a=b):∀{x y:List α},lEq e x y=true->x=y
 | [],[],_=>rfl
 | [],_::_,h=>by cases h
 |_::_,[],h=>by cases h
 |a::x,b::y,h=>by
  simp only[lEq]at h;split at h
  .next d=>rw[c a b d,wo c h]
  .cases h
theorem mP{α:Type}{e:α->α->Bool}(c:∀a b,e a b=true->a=b){x y:Array α}(h:M6 e x y=true):x=y:=Array.toList_inj.1 (wo c h)
theorem BE{α:Type}{e:α->α->Bool}(c:∀a b,e a b=true->a=b){x y:Option α}(h:oEq e x y=true):x=y:=by cases x<;>cases y<;>first|rfl|cases h|(rw[c _ _ h])
theorem OI{α j:Type}{e:α->α->Bool}{f:j->j->Bool}(c:∀a b,e a b=true->a=b)(d:∀a b,f a b=true->a=b)(x y:α×j)(h:pEq e f x y=true):x=y:=by grind[pEq]
theorem ib{α:Type}[DecidableEq α](a b:α)(h:HL a b=true):a=b:=b7 h
theorem dv(a b:Nat)(h:kM a b=true):a=b:=bj h
theorem HW{a b:ByteArray}(h:a.data.toList=b.data.toList):a=b:=by cases a;cases b;congr 1;exact Array.toList_inj.1 h
mutual
theorem zc:∀(a b:Value),iJ a b=true->a=b
 | .int k n,b,h=>by cases b<;>simp[iJ,HL]at h;rw[h.1,h.2]
 | .bool x,b,h=>by cases b<;>simp[iJ,HL]at h;rw[h]
 | .string s,b,h=>by cases b<;>simp[iJ]at h;rw[HW (u5 h)]
 | .pointer none,b,h=>by grind[iJ]
 | .pointer (some _),b,h=>by simp[iJ]at h
 | .slice none n c,b,h=>by
   simp only[iJ]at h;split at h
   .grind[dv]
   .cases h
 | .slice (some _) _ _,b,h=>by simp[iJ]at h
 | .map none,b,h=>by grind[iJ]
 | .map (some _),b,h=>by simp[iJ]at h
 | .nilFunc,b,h=>by cases b<;>simp[iJ]at h;rfl
 | .func f ⟨[]⟩ ⟨[]⟩,b,h=>by
   simp only[iJ]at h;split at h
   .rw[ib _ _ h]
   .cases h
 | .func f ⟨_::_⟩ _,b,h=>by simp[iJ]at h
 | .func f ⟨[]⟩ ⟨_::_⟩,b,h=>by simp[iJ]at h
 | .nilIface,b,h=>by cases b<;>simp[iJ]at h;rfl
 | .iface t v,b,h=>by
   cases b with
   |iface Q d=>simp only[iJ,aM]at h;rw[dv _ _ h.1,zc v d h.2]
   |_=>simp[iJ]at h
 | .agg ⟨l⟩,b,h=>by
   cases b with
   |agg m=>obtain⟨m⟩:=m;simp only[iJ]at h;rw[Dy l m h]
   |_=>simp[iJ]at h
 | .float _ _,b,h| .complex _ _ _,b,h| .chan _,b,h| .tuple _,b,h=>by simp[iJ]at h
theorem Dy:∀(a b:List Value),CF a b=true->a=b
 | [],[],_=>rfl
 | [],_::_,h=>by simp[CF]at h
 |_::_,[],h=>by simp[CF]at h
 |v::l,u::m,h=>by
  simp only[CF,aM]at h;rw[zc v u h.1,Dy l m h.2]
end
theorem js(a b:Operand)(h:eL a b=true):a=b:=by cases a<;>cases b<;>simp[eL]at h<;>first|rw[dv _ _ h]|rw[zc _ _ h]
theorem W1(a b:Callee)(h:a8A a b=true):a=b:=by
 cases a<;>cases b<;>simp[a8A]at h
 .rw[js _ _ h]
 .rw[js _ _ h.1,ib _ _ h.2]
 .rw[ib _ _ h]
theorem W2(a b:Call)(h:a4D a b=true):a=b:=by simp only[a4D,aM]at h;obtain⟨⟨I,Y⟩,W⟩:=h;cases a;cases b;rw[Call.mk.injEq];exact⟨W1 _ _ I,mP js Y,mP dv W⟩
theorem LJ{a b:Array (Nat×Operand)}(h:LK a b=true):a=b:=mP (OI dv js) h
theorem Rx(a b:Op)(h:ZB a b=true):a=b:=by
 cases a<;>cases b<;>simp only[ZB,aM,fa]at h<;>
  simp only[Op.move.injEq,Op.assign.injEq,Op.pick.injEq,Op.alloc.injEq,Op.box.injEq,Op.build.injEq,Op.buildSlice.injEq,Op.insert.injEq,Op.load.injEq,Op.store.injEq,Op.nilCheck.injEq,
   Op.binOp.injEq,Op.unOp.injEq,Op.convert.injEq,Op.makeInterface.injEq,Op.makeFunc.injEq,Op.makeMap.injEq,Op.makeSlice.injEq,Op.slice.injEq,Op.fieldAddr.injEq,Op.field.injEq,Op.indexAddr.injEq,Op.index.injEq,
   Op.lookup.injEq,Op.mapUpdate.injEq,Op.mapEntry.injEq,Op.entryStore.injEq,Op.range.injEq,Op.next.injEq,Op.entry.injEq,Op.typeAssert.injEq,Op.extract.injEq,Op.call.injEq,Op.defer.injEq,Op.panic.injEq]<;>
  (repeat' refine And.intro ?_ ?_)<;>
  first
  |exact js _ _ (by first|exact h|exact h.1|exact h.2|exact h.2.1|exact h.2.2|exact h.2.2.1|exact h.2.2.2|exact h.2.2.2.1)
  |exact dv _ _ (by first|exact h|exact h.1|exact h.2|exact h.2.1|exact h.2.2|exact h.2.2.1|exact h.2.2.2|exact h.2.2.2.1|exact h.2.2.2.2)
  |exact ib _ _ (by first|exact h|exact h.1|exact h.2|exact h.2.1|exact h.2.2|exact h.2.2.1|exact h.2.2.2|exact h.2.2.2.1|exact h.2.2.2.2)
  |exact LJ (by first|exact h|exact h.2|exact h.2.2)
  |exact mP js (by first|exact h.2.1|exact h.2.2)
  |exact BE js (by first|exact h.2|exact h.2.2.1|exact h.2.2.2.1|exact h.2.2.2.2)
  |exact W2 _ _ h
theorem WR(a b:Edge)(h:a7T a b=true):a=b:=by simp only[a7T,aM]at h;cases a;cases b;rw[Edge.mk.injEq];exact⟨dv _ _ h.1,ib _ _ h.2⟩
theorem OO(a b:Oper)(h:Ry a b=true):a=b:=by simp only[Ry,aM]at h;obtain⟨I,Y,W,U,h5,h6⟩:=h;cases a;cases b;rw[Oper.mk.injEq];exact⟨BE dv I,Rx _ _ Y,dv _ _ W,ib _ _ U,mP WR h5,BE (OI dv ib) h6⟩
theorem ey:∀(a b:Code),dA a b=true->a=b
 | .skip,b,h=>by cases b<;>simp[dA]at h;rfl
 | .region i ops d,b,h=>by
   cases b with
   |region k g d'=>simp only[dA,aM]at h;rw[dv _ _ h.1,ib _ _ h.2.1,mP OO h.2.2]
   |_=>simp[dA]at h
 | .seq x y,b,h=>by
   cases b with
   |seq e j=>simp only[dA,aM]at h;rw[ey _ _ h.1,ey _ _ h.2]
   |_=>simp[dA]at h
 | .cond c x y,b,h=>by
   cases b with
   |cond c' e j=>simp only[dA,aM]at h;rw[js _ _ h.1,ey _ _ h.2.1,ey _ _ h.2.2]
   |_=>simp[dA]at h
 | .block i x,b,h=>by
   cases b with
   |block k e=>simp only[dA,aM]at h;rw[dv _ _ h.1,ey _ _ h.2]
   |_=>simp[dA]at h
 | .loop x,b,h=>by
   cases b with
   |loop e=>simp only[dA]at h;rw[ey _ _ h]
   |_=>simp[dA]at h
 | .rangeFunc f p x y,b,h=>by
   cases b with
   |rangeFunc l p' e j=>simp only[dA,aM]at h;rw[js _ _ h.1,mP dv h.2.1,ey _ _ h.2.2.1,ey _ _ h.2.2.2]
   |_=>simp[dA]at h
 | .exit i,b,h=>by cases b<;>simp[dA]at h;rw[dv _ _ h]
 | .scope x,b,h=>by
   cases b with
   |scope e=>simp only[dA]at h;rw[ey _ _ h]
   |_=>simp[dA]at h
 | .label i,b,h=>by cases b<;>simp[dA]at h;rw[dv _ _ h]
 | .goto i,b,h=>by cases b<;>simp[dA]at h;rw[dv _ _ h]
 | .ret,b,h=>by cases b<;>simp[dA]at h;rfl
 | .refuse _,b,h=>by simp[dA]at h
section
variable{C:Ctx}{base:Nat}{E:G}{s:S}{w:World}
theorem Step.con (K:Rel C base E s w) {m:Nat->Nat} {Ii:G} {S2:S} {γ1:G} {s1:S} {M:World} {A:G} {F:S}
  (a7E:∀id b,S2.h.get id=some b->∃b0 l B,s.h.get (m id)=some b0/\E (m id)=some l/\Ii id=some B/\B.aO=l.aO/\ez b=ez b0)
  (hRv:∀id l d,Ii id=some l->l.v=some d->∃e,ax E e=some d)
  (n:Step C base Ii S2 w γ1 s1 M)
  (x:Nat->Nat->gn->Prop)
  (a3U:∀i j b i' j' N,x i j b->x i' j' N->i≠i'->j≠j')
  (p:∀i j b,x i j b->∃H t O,s1.h.get j=some H/\ez H=false/\ez b=false/\γ1 j=some t/\A i=some O/\t.aO=O.aO/\
    (∀o,dC C γ1 t H o->dC C A O b o)/\(i<s.next->∃b0,s.h.get i=some b0))
  (L:∀id b,F.h.get id=some b->(∃j,x id j b)\/(s.h.get id=some b/\∀c P,S2.h.get c=some P->ez P=false->id≠m c/\id ∉ H4 s.h (m c)))
  (Q:∀i,i<s.next->A i=E i)
  (aa5:∀i O,A i=some O->s.next<=i->i<F.next/\(w.heap.size<=O.aO\/∃j t,S2.next<=j/\γ1 j=some t/\t.aO=O.aO))
  (acT:∀i O d,A i=some O->s.next<=i->O.v=some d->∃e,ax γ1 e=some d)
  (hnx:s.next<=F.next)
  (hpc:∀f∈F.pc,f.pos=true/\f.holds A):Step C base E s w A F M:=by
 have y:∀k,Live Ii S2 k->∃id b,S2.h.get id=some b/\ez b=false/\∃l,E (m id)=some l/\l.aO=k:=by rintro k ⟨id,b,l,I,Y,W,U⟩;obtain⟨b0,l0,B,R,J,q3,q4,q5⟩:=a7E id b I;rw[W]at q3;obtain rfl:=ae q3;exact⟨id,b,I,Y,l0,J,by rw[<-q4];exact U⟩
 have q:∀k,Live Ii S2 k->Live E s k:=by intro k hk;obtain⟨id,b,I,Y,l,W,U⟩:=y k hk;obtain⟨b0,l0,B,R,J,q3,q4,q5⟩:=a7E id b I;rw[W]at J;obtain rfl:=ae J;exact⟨m id,b0,_,R,by rw[<-q5];exact Y,W,U⟩
 have lt:∀id b l,s.h.get id=some b->E id=some l->l.aO<w.heap.size:=by
  intro id b l I Y;obtain⟨O,T,W,U,_⟩:=K.aO id b I;rw[Y]at W;obtain rfl:=ae W;rcases ed l.aO w.heap.size with h|h
  .exact h
  .grind
 have apart:∀id b l,s.h.get id=some b->(∀c P,S2.h.get c=some P->ez P=false->id≠m c/\id ∉ H4 s.h (m c))->E id=some l->¬Live Ii S2 l.aO:=by
  intro id b l hb Z hl abg;obtain⟨c,P,I,Y,lx,W,U⟩:=y _ abg;obtain⟨bx,l0,B,R,J,q3,q4,q5⟩:=a7E c P I;obtain⟨n1,n2⟩:=Z c P I Y;rcases K.sep id (m c) b bx l lx hb R hl W n1 U.symm with h|h
  .have:=(Ds h).2;rw[<-q5,Y]at this;cases this
  .grind[H4,Ds]
 have kept:∀id b,s.h.get id=some b->∃l,E id=some l/\A id=some l:=λid b h=>by
  obtain⟨l,o,I,_⟩:=K.aO id b h;exact⟨l,I,by rw[Q id (K.lt I)];exact I⟩
 have ack:∀id b l i j N O,s.h.get id=some b->(∀c P,S2.h.get c=some P->ez P=false->id≠m c/\id ∉ H4 s.h (m c))->E id=some l->x i j N->A i=some O->l.aO=O.aO->False:=by intro id b l i j N O hb Z hl V hl' he;obtain⟨H,t,B,p1,X,p3,p4,D,p6, -⟩:=p i j N V;rw[hl']at D;obtain rfl:=ae D;exact apart id b l hb Z hl (n.live l.aO ⟨j,H,t,p1,X,p4,by rw[p6,he]⟩ (lt id b l hb hl))
 have grow:Grow E A:=λid l h=>⟨l,by rw[Q id (K.lt h)];exact h,rfl,rfl,rfl⟩
 have a5L:∀k,Live A F k->k<w.heap.size->Live E s k:=by
  rintro k ⟨id,b,l,I,Y,W,U⟩ hk;rcases L id b I with⟨j,V⟩|⟨k1,k2⟩
  .obtain⟨H,t,B,p1,X,p3,p4,D,p6, -⟩:=p id j b V;rw[W]at D;obtain rfl:=ae D;exact q k (n.live k ⟨j,H,t,p1,X,p4,by rw[p6];exact U⟩ hk)
  .obtain⟨l0,g1,g2⟩:=kept id b k1;rw[W]at g2;obtain rfl:=ae g2;exact⟨id,b,l,k1,Y,g1,U⟩
 have abc:∀a:Nat->Prop,(∀k,a k->k<w.heap.size/\¬Live E s k)->dD C E s w a->dD C A F M a:=by
  intro a hZ hg;have hg':dD C Ii S2 w λk=>a k\/(Live E s k/\¬Live Ii S2 k):=λid l d I Y=>by
   obtain⟨e,he⟩:=hRv id l d I Y;exact Dt.ej.stays (λk z=>⟨⟨z.1,λh=>z.2.1 (q k h),λh=>h.elim z.2.2 λh=>z.2.1 h.1⟩,rfl⟩) d (fL (λid l d I Y=>hg id l d I Y) e d he)
  have hl:∀k,Live E s k->k<w.heap.size:=by rintro k ⟨id,b,l,I, -,W,rfl⟩;exact lt id b l I W
  have Y:=n.rdz _ (λk hk=>hk.elim (λh=>⟨(hZ k h).1,λhh=>(hZ k h).2 (q k hh)⟩) λh=>⟨hl k h.1,h.2⟩) hg';intro id O d R J;rcases ed id s.next with r|r
  .rw[Q id r]at R;refine Dt.ej.stays (λk z=>⟨⟨kY z.1 n.keep.size,λhh=>z.2.1 (a5L k hh z.1),z.2.2⟩,?_⟩) d (hg id O d R J);rw[fb z.1];exact n.keep.stays k _ (fb z.1) λhh=>z.2.1 (q k hh)
  .obtain⟨e,he⟩:=acT id O d R r J;refine Dt.ej.stays (λk z=>⟨⟨z.1,λhh=>?_,λhz=>z.2.2 (.inl hz)⟩,rfl⟩) d (fL (λid l d I W=>Y id l d I W) e d he);obtain⟨c,b,B,r1,r2,r3,rfl⟩:=hh;rcases L c b r1 with⟨j,V⟩|⟨k1,k2⟩
   .obtain⟨H,t,l3,p1,X,p3,p4,D,p6, -⟩:=p c j b V;rw[r3]at D;obtain rfl:=ae D;exact z.2.1 ⟨j,H,t,p1,X,p4,p6⟩
   .obtain⟨l0,g1,g2⟩:=kept c b k1;rw[r3]at g2;obtain rfl:=ae g2;exact z.2.2 (.inr ⟨⟨c,b,B,k1,r2,g1,rfl⟩,apart c b B k1 k2 g1⟩)
 have acz:Rel C base A F M:=by
  refine⟨λid b hb=>?_,λid u b N l O I Y W U Mq he=>?_,λid r=>?_,λg hg=>?_,λid b l I Y W=>?_,n.rel.bs,hpc,abc _ (λ_ h=>h.elim) K.rd⟩
  .rcases L id b hb with⟨j,V⟩|⟨I,Y⟩
   .obtain⟨H,t,B,p1,X,p3,p4,D,p6,p7, -⟩:=p id j b V;obtain⟨l,o,r1,r2,r3⟩:=n.rel.aO _ _ p1;rw[p4]at r1;obtain rfl:=ae r1;exact⟨B,o,D,by rw[<-p6];exact r2,p7 o r3⟩
   .obtain⟨l,o,r1,r2,r3⟩:=K.aO id b I;exact⟨l,o,by rw[Q id (K.lt r1)];exact r1,n.keep.stays _ o r2 (apart id b l I Y r1),r3.mono grow ⟨rfl,rfl,rfl⟩⟩
  .rcases L id b I with⟨j,V⟩|⟨k1,k2⟩<;>rcases L u N Y with⟨j',hp'⟩|⟨j1,j2⟩
   .obtain⟨H,t,B,p1,X,p3,p4,D,p6, -⟩:=p id j b V;obtain⟨P,l3,l4,t1,t2,t3,t4,t5,t6, -⟩:=p u j' N hp';rw[W]at D;obtain rfl:=ae D;rw[U]at t5;obtain rfl:=ae t5;rcases n.rel.sep _ _ H P t l3 p1 t1 p4 t4 (a3U _ _ _ _ _ _ V hp' Mq) (by rw[p6,t6];exact he)with h|h
    .rw[(Ds h).2]at t2;cases t2
    .rw[(Ds h).2]at X;cases X
   .grind
   .grind
   .obtain⟨l0,R,J⟩:=kept _ _ k1;obtain⟨l3,u1,u2⟩:=kept _ _ j1;rw[W]at J;obtain rfl:=ae J;rw[U]at u2;obtain rfl:=ae u2;exact K.sep id u b N l O k1 j1 R u1 Mq he
  .cases hg:A id with
   |none=>rfl
   |some O=>exact absurd (aa5 id O hg (iG hnx r)).1 (Nat.not_lt.2 r)
  .obtain⟨l,I,Y⟩:=K.gm g hg;exact⟨l,by rw[Q g (K.lt I)];exact I,Y⟩
  .rcases L id b I with⟨j,V⟩|⟨k1,k2⟩
   .obtain⟨H,t,B,p1,X,p3,p4,D,p6, -⟩:=p id j b V;rw[Y]at D;obtain rfl:=ae D;rw[n.rel.low j H t p1 p4 (by rw[p6];exact W)]at X;cases X
   .obtain⟨l0,R,J⟩:=kept _ _ k1;rw[Y]at J;obtain rfl:=ae J;exact K.low id b l k1 R W
 refine⟨grow,acz,⟨n.keep.size,n.keep.tape,n.keep.os,n.keep.output,λk o hk hnl=>n.keep.stays k o hk λh=>hnl (q k h)⟩,a5L,hnx,λ_ _ h=>K.lt h,?_,?_,abc⟩
 .intro id O h;rcases ed id s.next with r|r
  .rw[Q id r]at h;exact .inl ⟨O,h⟩
  .refine .inr ⟨r,?_⟩;rcases(aa5 id O h r).2 with I|⟨j,t,hj,I,Y⟩
   .exact .inl I
   .rcases n.Se j t I with⟨B,W⟩|⟨W,U⟩
    .exact absurd (n.Xi j B W) (Nat.not_lt.2 hj)
    .grind
 .grind
end
structure RR(y6:G)(Cw:Nat->Nat)(y5:Nat->SE)(Du:G)(Ih:Nat->Nat)(EI:Nat->SE)(ok:Nat->Bool):Prop where
 aO:∀i l,ok i=true->y6 (Cw i)=some l->∃O,Du (Ih i)=some O/\O.aO=l.aO/\O.dl=l.dl/\O.cp=l.cp
 val:∀i d,ax y6 (y5 i)=some d->ax Du (EI i)=some d
section
variable{y6 Du:G}{Cw Ih:Nat->Nat}{y5 EI:Nat->SE}{ok:Nat->Bool}
theorem RR.se (h:RR y6 Cw y5 Du Ih EI ok):∀(e:SE)(d:Dt),ax y6 (e.sub y5)=some d->ax Du (e.sub EI)=some d
 | .var i,d,a=>h.val i d a
 | .int _ _,d,a| .bool _,d,a| .str _,d,a=>a
 | .a1 o x,d,a=>by
   simp only[SE.sub,ax,cV]at a ⊢;obtain⟨u,b,a⟩:=a;exact⟨u,h.se x u b,a⟩
 | .a2 o x y,d,a=>by
   simp only[SE.sub,ax,cV]at a ⊢;obtain⟨u,b,v,c,a⟩:=a;exact⟨u,h.se x u b,v,h.se y v c,a⟩
 | .a3 o x y z,d,a=>by
   simp only[SE.sub,ax,cV]at a ⊢;obtain⟨u,b,v,c,q,f,a⟩:=a;exact⟨u,h.se x u b,v,h.se y v c,q,h.se z q f,a⟩
theorem RR.jj (h:RR y6 Cw y5 Du Ih EI ok):∀(l:List SE)(r:List Dt),jj y6 (SE.iq y5 l)=some r->jj Du (SE.iq EI l)=some r
 | [],r,a=>a
 |x::l,r,a=>by
  simp only[SE.iq,Go.Proofs.YtokipodjggomfaaGreatDoor.Abs.jj,cV,bk]at a ⊢;obtain⟨d,b,q,c,a⟩:=a;exact⟨d,h.se x d b,q,h.jj l q c,a⟩
theorem RR.fact (h:RR y6 Cw y5 Du Ih EI ok):∀{f:Fact},f.pos=true->(f.sub y5).holds y6->(f.sub EI).holds Du
 | .tr e,_,b=>h.se e _ b
 | .fl e,_,b=>h.se e _ b
 | .inr i n,_,⟨k,a,m,I,Y,W⟩=>⟨k,a,m,h.se i _ I,h.se n _ Y,W⟩
 | .rel _ false p l,_,⟨ds,I,Y⟩=>⟨ds,h.jj l _ I,Y⟩
 | .rel _ true p l,c,_=>by cases c
mutual
theorem RR.ai (h:RR y6 Cw y5 Du Ih EI ok):∀(v:AV)(c:Value),AV.ids ok v=true->ai y6 (v.sub Cw y5)=some c->ai Du (v.sub Ih EI)=some c
 | .int _ _,c,_,e| .bool _,c,_,e| .str _,c,_,e| .uH,c,_,e| .dq,c,_,e| .ko,c,_,e| .vd,c,_,e| .qc,c,_,e| .raw _,c,_,e=>by
   simpa[AV.sub,Go.Proofs.YtokipodjggomfaaGreatDoor.Abs.ai]using e
 | .fO,c,_,e=>by simp[AV.sub,Go.Proofs.YtokipodjggomfaaGreatDoor.Abs.ai]at e
 | .cE k x,c,_,e=>by
   simp only[AV.sub,Ad]at e ⊢;simp only[Go.Proofs.YtokipodjggomfaaGreatDoor.Abs.ai,cV]at e ⊢;obtain⟨d,s,e⟩:=e;exact⟨d,h.se x d s,e⟩
 | .iI b n c',c,ho,e=>by
   simp only[AV.sub,Go.Proofs.YtokipodjggomfaaGreatDoor.Abs.ai,cV]at e ⊢;obtain⟨l,m,x,Z,y,u,e⟩:=e;obtain⟨O,j,s1,s2,o⟩:=h.aO b l ho m;refine⟨O,j,x,h.se n x Z,y,h.se c' y u,?_⟩;rw[<-e];unfold Yd;rw[s1,s2,o]
 | .jn b i g k,c,ho,e=>by
   simp only[AV.sub,Go.Proofs.YtokipodjggomfaaGreatDoor.Abs.ai,cV]at e ⊢;obtain⟨l,m,x,Z,e⟩:=e;obtain⟨O,j,s1,s2,o⟩:=h.aO b l ho m;refine⟨O,j,x,h.se i x Z,?_⟩;rw[<-e];unfold Nt;rw[s1,s2,o]
 | .ptr b off,c,ho,e=>by
   simp only[AV.sub,Go.Proofs.YtokipodjggomfaaGreatDoor.Abs.ai,bk]at e ⊢;obtain⟨l,m,rfl⟩:=e;obtain⟨O,j,s1,s2,o⟩:=h.aO b l ho m;exact⟨O,j,by rw[s1,s2]⟩
 | .sl b off len cap,c,ho,e=>by
   simp only[AV.sub,Go.Proofs.YtokipodjggomfaaGreatDoor.Abs.ai,bk]at e ⊢;obtain⟨l,m,rfl⟩:=e;obtain⟨O,j,s1,s2,o⟩:=h.aO b l ho m;exact⟨O,j,by rw[s1,s2]⟩
 | .qY b pre e0 len g,c,ho,e=>by
   simp only[AV.sub,Go.Proofs.YtokipodjggomfaaGreatDoor.Abs.ai,bk]at e ⊢;obtain⟨l,m,rfl⟩:=e;obtain⟨O,j,s1,s2,o⟩:=h.aO b l ho m;exact⟨O,j,by rw[s1,s2,o]⟩
 | .qf b,c,ho,e=>by
   simp only[AV.sub,Go.Proofs.YtokipodjggomfaaGreatDoor.Abs.ai,bk]at e ⊢;obtain⟨l,m,rfl⟩:=e;obtain⟨O,j,s1,s2,o⟩:=h.aO b l ho m;exact⟨O,j,by rw[s1]⟩
 | .yield b,c,ho,e=>by
   simp only[AV.sub,Go.Proofs.YtokipodjggomfaaGreatDoor.Abs.ai,bk]at e ⊢;obtain⟨l,m,rfl⟩:=e;obtain⟨O,j,s1,s2,o⟩:=h.aO b l ho m;exact⟨O,j,by rw[s1]⟩
 | .fn f a b,c,ho,e=>by
   simp only[AV.ids,aM]at ho;simp only[AV.sub,Go.Proofs.YtokipodjggomfaaGreatDoor.Abs.ai]at e ⊢;cases p:lD f with
   |false=>simp[p]at e
   |true=>
    cases q:Go.Proofs.YtokipodjggomfaaGreatDoor.Abs.aN y6 (AV.iq Cw y5 a)with
    |none=>simp[p,q]at e
    |some x=>
     cases r:Go.Proofs.YtokipodjggomfaaGreatDoor.Abs.aN y6 (AV.iq Cw y5 b)with
     |none=>simp[p,q,r]at e
     |some y=>simp only[p,q,r,h.aN a x ho.1 q,h.aN b y ho.2 r]at e ⊢;exact e
 | .iface t v,c,ho,e=>by
   simp only[AV.sub,Go.Proofs.YtokipodjggomfaaGreatDoor.Abs.ai,bk]at e ⊢;obtain⟨x,Z,rfl⟩:=e;exact⟨x,h.ai v x ho Z,rfl⟩
 | .agg cs,c,ho,e=>by
   simp only[AV.sub,Go.Proofs.YtokipodjggomfaaGreatDoor.Abs.ai,bk]at e ⊢;obtain⟨x,Z,rfl⟩:=e;exact⟨x,h.aN cs x ho Z,rfl⟩
 | .ji cs,c,ho,e=>by
   simp only[AV.sub,Go.Proofs.YtokipodjggomfaaGreatDoor.Abs.ai,bk]at e ⊢;obtain⟨x,Z,rfl⟩:=e;exact⟨x,h.aN cs x ho Z,rfl⟩
theorem RR.aN (h:RR y6 Cw y5 Du Ih EI ok):∀(l:List AV)(r:List Value),AV.jv ok l=true->aN y6 (AV.iq Cw y5 l)=some r->aN Du (AV.iq Ih EI l)=some r
 | [],r,_,e=>by simpa[AV.iq,Go.Proofs.YtokipodjggomfaaGreatDoor.Abs.aN]using e
 |v::l,r,ho,e=>by
  simp only[AV.jv,aM]at ho;simp only[AV.iq]at e ⊢;obtain⟨a,b,c,d,rfl⟩:=aL.1 e;exact aL.2 ⟨a,b,h.ai v a ho.1 c,h.aN l b ho.2 d,rfl⟩
end
theorem NG{m:Nat->Nat}{D:Nat->SE}:∀{l:List AV}{i:Nat}{v:AV},(AV.iq m D l)[i]? =some v->∃u,l[i]? =some u/\v=u.sub m D
 | [],i,v,h=>by simp[AV.iq]at h
 |x::l,0,v,h=>by grind[AV.iq]
 |x::l,i+1,v,h=>by simpa using NG (l:=l) (i:=i) (by simpa[AV.iq]using h)
theorem Ju{m:Nat->Nat}{D:Nat->SE}:∀{l:List AV}{i:Nat}{u:AV},l[i]? =some u->(AV.iq m D l)[i]? =some (u.sub m D)
 | [],i,v,h=>by simp at h
 |x::l,0,v,h=>by grind[AV.iq]
 |x::l,i+1,v,h=>by simpa[AV.iq]using Ju (l:=l) (i:=i) (by simpa using h)
theorem vD{m:Nat->Nat}{D:Nat->SE}:∀{l:List AV},(AV.iq m D l).length=l.length
 | []=>rfl
 |x::l=>by simp[AV.iq,vD (l:=l)]
theorem Pt{ok:Nat->Bool}:∀{l:List AV}{i:Nat}{v:AV},AV.jv ok l=true->l[i]? =some v->AV.ids ok v=true
 | [],i,v,_,h=>by simp at h
 |x::l,0,v,ho,h=>by grind[AV.jv]
 |x::l,i+1,v,ho,h=>by
  simp only[AV.jv,aM]at ho;exact Pt ho.2 (by simpa using h)
theorem C8:∀{n i:Nat},(J7 n)[i]? =if i<n then some .fO else none
 |0,i=>by simp[J7]
 |n+1,0=>by simp[J7]
 |n+1,i+1=>by
  simp only[J7,og,C8 (n:=n) (i:=i)];by_cases h:i<n
  .rw[aJ h,aJ (by omega)]
  .rw[av h,av (by omega)]
theorem Ga{d:Nat}:∀{l:List (Nat×AV)}{t:Tr AV},(NT l t).get d=none->t.get d=none
 | [],_,h=>h
 |x::l,t,h=>by
  have:=Ga (l:=l) (t:=t.set x.1 x.2) h;rw[Tr.bY]at this;split at this
  .cases this
  .exact this
theorem Vx{nt d:Nat}{l:List (Nat×AV)}(h:(Ir nt l).get d=none):nt<=d:=by
 have:=Ga h;rw[Tr.eP,C8]at this;split at this
 .cases this
 .next a=>exact Nat.not_lt.1 a
theorem Jr{ok:Nat->Bool}{y:Nat×AV}:∀{l:List (Nat×AV)},F0 ok l=true->y∈l->AV.ids ok y.2=true
 |x::l,ho,h=>by
  simp only[F0,aM]at ho;cases h with
  |head=>exact ho.1
  |tail _ h=>exact Jr ho.2 h
end
def jI(d:Nat):List (Nat×AV)->Option AV
 | []=>none
 |x::l=>match jI d l with
  |some v=>some v
  |none=>if x.1=d then some x.2 else none
theorem wm{d:Nat}{x:Nat×AV}{l:List (Nat×AV)}:jI d (x::l)=match jI d l with|some v=>some v|none=>if x.1=d then some x.2 else none:=rfl
theorem Gb{d:Nat}:∀{l:List (Nat×AV)}{t:Tr AV},(NT l t).get d=match jI d l with|some v=>some v|none=>t.get d
 | [],t=>rfl
 |x::l,t=>by
  show(NT l (t.set x.1 x.2)).get d=_;rw[Gb (l:=l),wm];cases h:jI d l with
  |some v=>rfl
  |none=>
   show(t.set x.1 x.2).get d=_;rw[Tr.bY];by_cases a:x.1=d
   .grind
   .grind
theorem zF{m:Nat->Nat}{D:Nat->SE}{d:Nat}:∀{l:List (Nat×AV)},jI d (AY m D l)=(jI d l).map (AV.sub m D)
 | []=>rfl
 |x::l=>by
  show(match jI d (AY m D l)with|some v=>some v|none=>if x.1=d then some (x.2.sub m D)else none)=_;rw[zF (l:=l),wm];cases h:jI d l with
  |some v=>rfl
  |none=>
   show(if x.1=d then some (x.2.sub m D)else none)=Option.map (AV.sub m D) (if x.1=d then some x.2 else none);by_cases a:x.1=d
   .rw[aJ a,aJ a];rfl
   .rw[av a,av a];rfl
theorem zG{d:Nat}{v:AV}:∀{l:List (Nat×AV)},jI d l=some v->(d,v)∈l
 | [],h=>by cases h
 |x::l,h=>by
  rw[wm]at h;cases I:jI d l with
  |some u=>rw[I]at h;obtain rfl:=ae h;exact bQ _ (zG I)
  |none=>
   rw[I]at h;simp only at h;split at h
   .grind
   .cases h
theorem CH{nt d:Nat}{l:List (Nat×AV)}:(Ir nt l).get d=match jI d l with|some v=>some v|none=>if d<nt then some .fO else none:=by unfold Ir;rw[Gb,Tr.eP,C8]
theorem Jq{E:G}{nt:Nat}{l:List (Nat×AV)}{a:Array Value}(f:a.size=nt)(h:∀d v,jI d l=some v->d<nt/\∃c,a[d]? =some c/\VR E v c):aW E nt (Ir nt l) a:=by
 refine⟨f,λd v b=>?_,λd b=>?_⟩
 .rw[CH]at b;cases e:jI d l with
  |some u=>rw[e]at b;obtain rfl:=ae b;exact h d _ e
  |none=>
   rw[e]at b;simp only at b;split at b
   .next I=>
    obtain rfl:=ae b;have:d<a.size:=by omega
    exact⟨I,a[d],fb this,.inl rfl⟩
   .cases b
 .have I:=Vx b;unfold Array.getD;rw[dif_neg (by omega)]
theorem Yr{m:Nat->Nat}{D:Nat->SE}{v:AV}(h:v.sub m D=.fO):v=.fO:=by
 cases v with
 |fO=>rfl
 |cE k e=>
  simp only[AV.sub,Un]at h
  repeat' split at h
  all_goals cases h
 |_=>simp[AV.sub]at h
section
variable{y6 Du:G}{Cw Ih:Nat->Nat}{y5 EI:Nat->SE}{ok:Nat->Bool}
theorem RR.vr (h:RR y6 Cw y5 Du Ih EI ok) {v:AV} {c:Value} (ho:AV.ids ok v=true) (a:VR y6 (v.sub Cw y5) c):VR Du (v.sub Ih EI) c:=by
 rcases a with a|a
 .rw[Yr a];exact .inl rfl
 .exact .inr (h.ai v c ho a)
theorem RR.tmps (h:RR y6 Cw y5 Du Ih EI ok) {nt:Nat} {l:List (Nat×AV)} {a:Array Value} (ho:F0 ok l=true) (b:aW y6 nt (Ir nt (AY Cw y5 l)) a):aW Du nt (Ir nt (AY Ih EI l)) a:=by
 refine Jq b.1 λd v e=>?_
 rw[zF]at e;obtain⟨u,f,rfl⟩:=bk.1 e;obtain⟨I,c,Y,W⟩:=b.2.1 d (u.sub Cw y5) (by rw[CH,zF,f];rfl);exact⟨I,c,Y,h.vr (Jr ho (zG f)) W⟩
theorem RR.hU (h:RR y6 Cw y5 Du Ih EI ok):∀{l:List AD}{r:List Deferred},AD.jv ok l=true->hU y6 (AD.oQ Cw y5 l)=some r->hU Du (AD.oQ Ih EI l)=some r
 | [],r,_,e=>e
 |d::l,r,ho,e=>by
  simp only[AD.jv,aM]at ho;simp only[AD.oQ,Go.Proofs.YtokipodjggomfaaGreatDoor.Abs.hU]at e ⊢;cases I:oM y6 (d.sub Cw y5)with
  |none=>simp[I]at e
  |some a=>
   cases Y:Go.Proofs.YtokipodjggomfaaGreatDoor.Abs.hU y6 (AD.oQ Cw y5 l)with
   |none=>simp[I,Y]at e
   |some b=>
    have e1:oM Du (d.sub Ih EI)=some a:=by
     simp only[AD.sub,oM]at I ⊢;cases W:Go.Proofs.YtokipodjggomfaaGreatDoor.Abs.ai y6 (d.target.sub Cw y5)with
     |none=>simp[W]at I
     |some x=>
      rw[W]at I;rw[h.ai _ x ho.1.1 W];cases U:Go.Proofs.YtokipodjggomfaaGreatDoor.Abs.aN y6 (AV.iq Cw y5 d.args)with
      |none=>cases x<;>simp[U]at I
      |some y=>rw[U]at I;rw[h.aN _ y ho.1.2 U];exact I
    rw[I,Y]at e;rw[e1,h.hU ho.2 Y];exact e
theorem a0r{d:TypeDesc}{k:AV}(hk:keyOf d k=true):Go.Proofs.YtokipodjggomfaaGreatDoor.Abs.ai y6 k=Go.Proofs.YtokipodjggomfaaGreatDoor.Abs.ai Du k:=by cases d<;>cases k<;>first|rfl|(cases hk;done)
theorem AZ{m:Nat->Nat}{D:Nat->SE}{d:TypeDesc}:∀{J:List ME},(∀e∈ME.oQ m D J,keyOf d e.k=true)↔∀e∈J,keyOf d e.k=true
 | []=>by simp[ME.oQ]
 |e::J=>by
  simp only[ME.oQ,cC,forall_eq_or_imp];rw[AZ]
theorem RR.a5J (h:RR y6 Cw y5 Du Ih EI ok) {d:TypeDesc}:∀{J:List ME}{ms:List MapEntry},ME.jv ok J=true->(∀e∈J,keyOf d e.k=true)->ep y6 (ME.oQ Cw y5 J) ms->ep Du (ME.oQ Ih EI J) ms
 | [],[],_,_,_=>trivial
 | [],_::_,_,_,a=>a.elim
 |_::_,[],_,_,a=>a.elim
 |e::J,m::ms,ho,hk,a=>by
  simp only[ME.jv,aM]at ho;obtain⟨⟨m1,m2,m3⟩,m4⟩:=a;refine⟨⟨?_,h.ai _ _ ho.1 m2,m3⟩,h.a5J ho.2 (λx Z=>hk x (bQ _ Z)) m4⟩;rw[<-m1];exact(a0r (hk e bB)).symm
theorem RR.a1v (h:RR y6 Cw y5 Du Ih EI ok) {C:Ctx} {g:CB} (ho:g.ids ok=true) {j m:Loc} (e1:m.dl=j.dl) (e2:m.cp=j.cp) {o:Obj} (f:dC C y6 j (g.sub Cw y5).aO o):dC C Du m (g.sub Ih EI).aO o:=by
 cases g with
 |cells e cs fz st sg=>obtain⟨vs,lo,V,rfl,g1,g2,g3,g4,g5⟩:=f;rw[vD]at g1 g3;refine⟨vs,lo,V,rfl,by rw[vD,e1];exact g1,λi v V r=>?_,by rw[vD,e1,e2];exact g3,by rw[e1];exact g4,g5⟩;rw[Tr.eP]at r;obtain⟨u,s,rfl⟩:=NG r;obtain⟨c,n,p⟩:=g2 i (u.sub Cw y5) (by rw[vD]at V ⊢;exact V) (by rw[Tr.eP];exact Ju s);exact⟨c,by rw[e1];exact n,h.vr (Pt ho s) p⟩
 |fV ds=>obtain⟨l,g1,rfl⟩:=f;exact⟨l,h.hU ho g1,rfl⟩
 |loop st pe fn nt tm ps a b d=>simp only[CB.ids,aM]at ho;obtain⟨arr,ld,g1,g2,rfl⟩:=f;obtain⟨q,n,p, -⟩:=h.aO d ld ho.2 g2;exact⟨arr,q,h.tmps ho.1 g1,n,by rw[p]⟩
 |vec el e=>obtain⟨vs,lo,V,J,rfl,g1,g2,g3,g4⟩:=f;exact⟨vs,lo,V,J,rfl,h.se e _ g1,by rw[e1];exact g2,by rw[e1,e2];exact g3,by rw[e1];exact g4⟩
 |Ie e k zs=>exact f
 |map J c=>obtain⟨iZ,rfl,g1,d,g2⟩:=f;exact⟨iZ,rfl,h.a5J (d:=d) ho (AZ.1 g2) g1,d,AZ.2 (AZ.1 g2)⟩
end
theorem ql{a:CB}:ez a.aO= !a.live:=by cases a<;>simp[CB.aO,ez,CB.live]
theorem qh{m:Nat->Nat}{D:Nat->SE}{a:CB}:(a.sub m D).live=a.live:=by cases a<;>rfl
theorem gG{E:G}:∀(e:SE),ax E (e.sub .var)=ax E e
 | .var _| .int _ _| .bool _| .str _=>rfl
 | .a1 o x=>by simp only[SE.sub,ax,gG x]
 | .a2 o x y=>by simp only[SE.sub,ax,gG x,gG y]
 | .a3 o x y z=>by simp only[SE.sub,ax,gG x,gG y,gG z]
theorem JB{E:G}:∀(l:List SE),jj E (SE.iq .var l)=jj E l
 | []=>rfl
 |x::l=>by simp only[SE.iq,jj,gG x,JB l]
mutual
theorem Ac{E:G}:∀(v:AV),ai E (v.sub Xg .var)=ai E v
 | .int _ _| .bool _| .str _| .uH| .dq| .ko| .vd| .qc| .raw _| .fO=>rfl
 | .ptr _ _| .sl _ _ _ _| .qY _ _ _ _ _| .qf _| .yield _=>rfl
 | .cE k e=>by simp only[AV.sub,Ad,ai,gG]
 | .iI b n c=>by simp only[AV.sub,ai,gG];rfl
 | .jn b i g k=>by simp only[AV.sub,ai,gG];rfl
 | .fn f a b=>by simp only[AV.sub,ai,nV a,nV b]
 | .iface t v=>by simp only[AV.sub,ai,Ac v]
 | .agg l=>by simp only[AV.sub,ai,nV l]
 | .ji l=>by simp only[AV.sub,ai,nV l]
theorem nV{E:G}:∀(l:List AV),aN E (AV.iq Xg .var l)=aN E l
 | []=>rfl
 |v::l=>by simp only[AV.iq,aN,Ac v,nV l]
end
theorem BW:∀(v:AV),AV.ids (λ_=>true) v=true:=by
 have key:(∀v:AV,AV.ids (λ_=>true) v=true)/\∀l:List AV,AV.jv (λ_=>true) l=true:=by
  refine⟨λv=>?_,λl=>?_⟩
  .exact(AV.rec (motive_1:=λv=>AV.ids (λ_=>true) v=true) (motive_2:=λl=>AV.jv (λ_=>true) l=true)
    (λ_ _=>rfl) (λ_=>rfl) (λ_=>rfl) (λ_ _=>rfl) rfl (λ_ _ _ _=>rfl) (λ_ _ _ _ _=>rfl) rfl (λ_=>rfl) rfl
    (λ_ _ _ I Y=>by simp only[AV.ids,I,Y,EX]) (λ_=>rfl) rfl (λ_ _ h=>h) rfl (λ_ h=>h) (λ_ h=>h) rfl (λ_=>rfl) (λ_ _=>rfl) (λ_ _ _=>rfl) (λ_ _ _ _=>rfl) rfl
    (λ_ _ I Y=>by simp only[AV.jv,I,Y,EX]) v)
  .induction l with
   |nil=>rfl
   |cons v l a=>
    simp only[AV.jv,a,Bool.and_true];exact(AV.rec (motive_1:=λv=>AV.ids (λ_=>true) v=true) (motive_2:=λl=>AV.jv (λ_=>true) l=true)
     (λ_ _=>rfl) (λ_=>rfl) (λ_=>rfl) (λ_ _=>rfl) rfl (λ_ _ _ _=>rfl) (λ_ _ _ _ _=>rfl) rfl (λ_=>rfl) rfl
     (λ_ _ _ I Y=>by simp only[AV.ids,I,Y,EX]) (λ_=>rfl) rfl (λ_ _ h=>h) rfl (λ_ h=>h) (λ_ h=>h) rfl (λ_=>rfl) (λ_ _=>rfl) (λ_ _ _=>rfl) (λ_ _ _ _=>rfl) rfl
     (λ_ _ I Y=>by simp only[AV.jv,I,Y,EX]) v)
 exact key.1
theorem Db:∀(l:List AV),AV.jv (λ_=>true) l=true
 | []=>rfl
 |v::l=>by simp only[AV.jv,BW v,Db l,EX]
theorem H6:∀(l:List AD),AD.jv (λ_=>true) l=true
 | []=>rfl
 |d::l=>by simp only[AD.jv,BW,Db,H6 l,EX]
theorem zf:∀(l:List (Nat×AV)),F0 (λ_=>true) l=true
 | []=>rfl
 |x::l=>by simp only[F0,BW,zf l,EX]
theorem G7:∀(l:List ME),ME.jv (λ_=>true) l=true
 | []=>rfl
 |x::l=>by simp only[ME.jv,BW,G7 l,EX]
theorem SN(a:CB):a.ids (λ_=>true)=true:=by
 cases a with
 |cells=>exact Db _
 |fV=>exact H6 _
 |loop=>simp only[CB.ids,zf,EX]
 |vec=>rfl
 |Ie=>rfl
 |map=>exact G7 _
theorem H5:∀{x y:List AD},Qh x y=true->x=y
 | [],[],_=>rfl
 | [],_::_,h=>by cases h
 |_::_,[],h=>by cases h
 |a::x,b::y,h=>by
  simp only[Qh,aM]at h;obtain⟨I,Y,W⟩:=h;cases a;cases b;rw[H5 W];congr 1;rw[AD.mk.injEq];exact⟨ij _ _ I,mO _ _ Y⟩
theorem BT{α:Type}{o:Option α}(h:BU o=true):∃a,o=some a:=by
 cases o with
 |none=>cases h
 |some a=>exact⟨a,rfl⟩
theorem Pq{v:AV}(h:oZ v=true):v=.fO:=by cases v<;>first|rfl|cases h
theorem vB{t:Tr AV}:∀{l:List (Nat×AV)},uh t l=true->∀x∈l,(x.2=.fO/\∃u,t.get x.1=some u)\/t.get x.1=some x.2
 | [],_,x,Z=>by cases Z
 |y::l,h,x,Z=>by
  unfold uh at h;cases a:oZ y.2 with
  |true=>
   rw[a]at h;simp only[aM]at h;cases Z with
   |head=>exact .inl ⟨Pq a,BT h.1⟩
   |tail _ Z=>exact vB h.2 x Z
  |false=>
   rw[a]at h;simp only at h;cases b:t.get y.1 with
   |none=>rw[b]at h;cases h
   |some u=>
    rw[b]at h;simp only[aM]at h;cases Z with
    |head=>exact .inr (by rw[b,ij _ _ h.1])
    |tail _ Z=>exact vB h.2 x Z
theorem AX{E:G}{nt:Nat}{t:Tr AV}{l:List (Nat×AV)}{a:Array Value}(h:uh t l=true)(b:aW E nt t a):aW E nt (Ir nt l) a:=by
 refine Jq b.1 λd v e=>?_
 rcases vB h _ (zG e)with⟨I,u,Y⟩|I
 .obtain⟨g1,c,g2, -⟩:=b.2.1 d u Y;exact⟨g1,c,g2,.inl I⟩
 .exact b.2.1 d v I
theorem ru{b:gn}{g:CB}(h:sI b g=true):(∀(C:Ctx)(E:G)(l:Loc)(o:Obj),dC C E l b o->dC C E l g.aO o)/\ez b= !g.live:=by
 cases g with
 |cells s l Sp j t=>
  cases b with
  |cells e cs n fz gU st sg=>
   simp only[sI,aM]at h;obtain⟨I,Y,W,U,h5,h6⟩:=h;obtain rfl:=bj I;have Y:l.length<=n:=bZ Y;obtain rfl:=bj W;obtain rfl:=ib _ _ U;obtain rfl:=ib _ _ h5;refine⟨λC E B o f=>?_,by simp[ez,CB.live]⟩;obtain⟨vs,lo,V,rfl,g1,g2,⟨ti,g3,u,m⟩,g4⟩:=f;refine⟨vs,lo,V,rfl,by omega,λi v H r=>?_,⟨ti,g3,by omega,m⟩,g4⟩;rw[Tr.eP]at r;rcases wH h6 i v r with rfl|L
   .have p:B.dl+i<vs.size:=by omega
    exact⟨vs[B.dl+i],fb p,.inl rfl⟩
   .grind
  |_=>cases h
 |fV l=>
  cases b with
  |fV d=>
   cases d with
   |none=>cases h
   |some O=>obtain rfl:=H5 (show Qh O l=true from h);exact⟨λ_ _ _ _ f=>f,rfl⟩
  |_=>cases h
 |loop st pe fn nt tm ps a c d=>
  cases b with
  |loop j w x y z A a' c' d'=>simp only[sI,aM]at h;obtain⟨I,D,Y,W,U,h5,h6,h7,F⟩:=h;obtain rfl:=ib _ _ I;obtain rfl:=BE ey D;obtain rfl:=dv _ _ Y;obtain rfl:=dv _ _ W;obtain rfl:=wo dv h5;obtain rfl:=ey _ _ h6;obtain rfl:=ey _ _ h7;obtain rfl:=dv _ _ F;refine⟨λC E B o f=>?_,rfl⟩;obtain⟨arr,ld,g1,g2,rfl⟩:=f;exact⟨arr,ld,AX U g1,g2,rfl⟩
  |_=>cases h
 |vec el e=>
  cases b with
  |vec q s=>simp only[sI,aM]at h;obtain rfl:=bj h.1;obtain rfl:=bh h.2;exact⟨λ_ _ _ _ f=>f,rfl⟩
  |_=>cases h
 |Ie el k zs=>
  cases b with
  |Ie q k' K=>simp only[sI,aM]at h;obtain rfl:=bj h.1;obtain rfl:=e8 h.2.1;obtain rfl:=wo ib h.2.2;exact⟨λ_ _ _ _ f=>f,rfl⟩
  |_=>cases h
 |map J c=>
  cases b with
  |map lS c'=>simp only[sI,aM]at h;obtain rfl:=bj h.1;obtain rfl:=G6 h.2;exact⟨λ_ _ _ _ f=>f,rfl⟩
  |_=>cases h
theorem Pn(x y:cw)(h:Mj x y=true):x=y:=by cases x<;>cases y<;>simp only[Mj,fa]at h<;>first|rfl|rw[ey _ _ h]|rw[dv _ _ h]
theorem yk{h:Tr gn}{m:Nat->Nat}{D:Nat->SE}{ids:List Nat}:∀{l:List (Nat×CB)},pV h m D ids l=true->∀x∈l,∃b,h.get (m x.1)=some b/\sI b (x.2.sub m D)=true/\∀a∈EE b,a ∉ ids
 | [],_,x,Z=>by cases Z
 |y::l,e,x,Z=>by
  unfold pV at e;cases c:h.get (m y.1)with
  |none=>rw[c]at e;cases e
  |some b=>
   rw[c]at e;simp only[aM]at e;cases Z with
   |head=>exact⟨b,c,e.1,DW e.2.1⟩
   |tail _ Z=>exact yk e.2.2 x Z
theorem qe{m:Nat->Nat}{x:Nat×CB}:∀{l:List (Nat×CB)},x∈l->m x.1∈lF m l
 |y::l,h=>by
  unfold lF;cases h with
  |head=>exact bB
  |tail _ h=>exact bQ _ (qe h)
theorem GZ:∀{l:List Nat}{t:Tr Unit}{a:Nat},uG l t=true->a∈l->t.get a=none
 |b::l,t,a,h,c=>by
  unfold uG at h;cases d:t.get b with
  |some u=>rw[d]at h;cases h
  |none=>
   rw[d]at h;cases c with
   |head=>exact d
   |tail _ c=>
    have:=GZ h c;rw[Tr.bY]at this;split at this
    .cases this
    .exact this
theorem O2{l:List Nat}{t:Tr Unit}{a:Nat}(h:uG (a::l) t=true):a ∉ l/\∃Q,uG l Q=true:=by
 unfold uG at h;cases b:t.get a with
 |some u=>rw[b]at h;cases h
 |none=>rw[b]at h;refine⟨λc=>?_,_,h⟩;have:=GZ h c;rw[Tr.get_set_same]at this;cases this
theorem DX{m:Nat->Nat}:∀{l:List (Nat×CB)}{t:Tr Unit},uG (lF m l) t=true->∀x∈l,∀y∈l,x.1≠y.1->m x.1≠m y.1
 | [],_,_,x,Z,_,_,_=>by cases Z
 |z::l,t,h,x,Z,y,a,b=>by
  obtain⟨c,Q,Y⟩:=O2 (show uG (m z.1::lF m l) t=true from h);cases Z with
  |head=>
   cases a with
   |head=>exact absurd rfl b
   |tail _ a=>exactλe=>c (by rw[e];exact qe a)
  |tail _ Z=>
   cases a with
   |head=>exactλe=>c (by rw[<-e];exact qe Z)
   |tail _ a=>exact DX Y x Z y a b
theorem GY{m:Nat->Nat}{l:List (Nat×CB)}(h:L2 (lF m l)=true):∀x∈l,∀y∈l,x.1≠y.1->m x.1≠m y.1:=DX h
theorem Dg{m:Nat->Nat}{D:Nat->SE}{id:Nat}{b:gn}:∀{l:List (Nat×CB)}{h:Tr gn},(NV m D l h).get id=some b->(∃x∈l,m x.1=id/\b=(x.2.sub m D).aO)\/h.get id=some b
 | [],_,e=>.inr e
 |x::l,h,e=>by
  rcases Dg (l:=l) (h:=h.set (m x.1) (x.2.sub m D).aO) e with⟨y,a,I,Y⟩|I
  .grind
  .grind[Tr.bY]
theorem wB{c:Tr gn}{m:Nat->Nat}{id:Nat}{b:gn}:∀{l:List (Nat×CB)}{h:Tr gn},(B7 c m l h).get id=some b->
  h.get id=some b/\∀x∈l,CB.live x.2=true->id≠m x.1/\id ∉ H4 c (m x.1)
 | [],_,e=>⟨e,λx Z=>by cases Z⟩
 |x::l,h,e=>by
  unfold B7 at e;cases d:CB.live x.2 with
  |false=>
   rw[d]at e;obtain⟨I,Y⟩:=wB (l:=l) (h:=h) e;refine⟨I,λy f a=>?_⟩;cases f with
   |head=>rw[d]at a;cases a
   |tail _ f=>exact Y y f a
  |true=>
   rw[d]at e;obtain⟨I,Y⟩:=wB (l:=l) (h:=(oq (H4 c (m x.1)) h).del (m x.1)) e;rw[Tr.xI]at I;split at I
   .cases I
   .grind[Hu]
theorem C6{α:Type}{i:Nat}{a:α}:∀{l:List (Nat×α)},nP i l=some a->(i,a)∈l
 | [],h=>by cases h
 |x::l,h=>by
  unfold nP at h;cases b:Nat.beq x.1 i with
  |true=>rw[b]at h;obtain rfl:=bj b;obtain rfl:=ae h;exact bB
  |false=>rw[b]at h;exact bQ _ (C6 h)
theorem CI{nG:Nat}{h:Tr gn}{n:Nat}:∀{l:List (Nat×Nat)},Jt nG h n l=true->∀x∈l,(∃b,h.get x.2=some b)/\x.1<n/\(x.1<nG->x.2=x.1)
 | [],_,x,Z=>by cases Z
 |y::l,e,x,Z=>by
  simp only[Jt,aM]at e;cases Z with
  |head=>
   refine⟨BT e.1,bZ e.2.1,λa=>?_⟩;have:=e.2.2.1;simp only[il]at this;rcases this with I|I
   .exact absurd a (Nat.not_lt.2 (bZ I))
   .exact(bj I).symm
  |tail _ Z=>exact CI e.2.2.2 x Z
def Ii(E:G)(n:Nat)(m:Nat->Nat)(D:Nat->SE):G:=λi=>
 if i<n then some (match E (m i)with|some l=>⟨l.aO,l.dl,l.cp,ax E (D i)⟩|none=>⟨0,0,0,ax E (D i)⟩)else none
section
variable{C:Ctx}{base:Nat}{E:G}{s:S}{w:World}
theorem JG{nG n next:Nat}{l:List (Nat×Nat)}{i:Nat}(h:n<=i):eb nG n next l i=next:=by
 unfold eb;cases a:Nat.blt i n with
 |false=>rfl
 |true=>exact absurd (bZ a) (by omega)
theorem VI{nG n:Nat}{l:List (Nat×SE)}{i:Nat}(h:n<=i):fe nG n l i=Kp:=by
 unfold fe;cases a:Nat.blt i n with
 |false=>rfl
 |true=>exact absurd (bZ a) (by omega)
theorem lM{i n:Nat}(h:i<n):Nat.blt i n=true:=w4 h
theorem pg{i n:Nat}(h:n<=i):Nat.blt i n=false:=by
 cases a:Nat.blt i n with
 |false=>rfl
 |true=>exact absurd (bZ a) (by omega)
theorem FZ{α:Type}(i:Nat):∀(l:List (Nat×α)),(a2p l).get i=nP i l
 | []=>rfl
 |x::l=>by
  unfold a2p nP;rw[Tr.bY,FZ i l];cases a:Nat.beq x.1 i with
  |true=>rw[aJ (bj a)]
  |false=>rw[av λh=>by rw[h,show Nat.beq i i=true from Nat.beq_refl i]at a;cases a]
theorem Gk{nG n next:Nat}{l:List (Nat×Nat)}{i j:Nat}(h:i<n)(a:nP i l=some j):eb nG n next l i=j:=by grind[eb,lM,FZ]
theorem Gl{nG n next:Nat}{l:List (Nat×Nat)}{i:Nat}(h:i<n)(a:nP i l=none)(b:i<nG):eb nG n next l i=i:=by grind[eb,lM,FZ]
theorem vq{n:Nat}{m:Nat->Nat}{D:Nat->SE}{i:Nat}(h:i<n):∃l,Ii E n m D i=some l/\l.v=ax E (D i)/\∀l0,E (m i)=some l0->l.aO=l0.aO/\l.dl=l0.dl/\l.cp=l0.cp:=by
 unfold Ii;rw[aJ h];cases b:E (m i)with
 |none=>exact⟨_,rfl,rfl,λl0 a=>by cases a⟩
 |some l=>exact⟨_,rfl,rfl,λl0 a=>by obtain rfl:=ae a;exact⟨rfl,rfl,rfl⟩⟩
theorem YU(a:Rel C base E s w){n:Nat}{rl:List (Nat×Nat)}{sl:List (Nat×SE)}:
  RR E (eb C.nG n s.next rl) (fe C.nG n sl) (Ii E n (eb C.nG n s.next rl) (fe C.nG n sl)) Xg .var (λ_=>true):=by
 refine⟨λi l _ h=>?_,λi d h=>?_⟩
 .rcases ed i n with V|V
  .obtain⟨O,I, -,Y⟩:=vq (E:=E) (m:=eb C.nG n s.next rl) (D:=fe C.nG n sl) V;exact⟨O,I,Y l h⟩
  .rw[JG V,a.new _ (bD _)]at h;cases h
 .rcases ed i n with V|V
  .obtain⟨O,I,Y, -⟩:=vq (E:=E) (m:=eb C.nG n s.next rl) (D:=fe C.nG n sl) V;simp only[ax,I,bn,Y];exact h
  .rw[VI V]at h;cases h
theorem Hz{f:Fact}:(f.sub .var).holds E↔f.holds E:=by
 cases f with
 |tr e=>simp only[Fact.sub,Fact.holds,gG]
 |fl e=>simp only[Fact.sub,Fact.holds,gG]
 |inr i n=>simp only[Fact.sub,Fact.holds,gG]
 |rel nm b p l=>cases b<;>simp only[Fact.sub,Fact.holds,JB]
theorem My{f:Fact}{D:Nat->SE}:(f.sub D).pos=f.pos:=by cases f<;>rfl
theorem nX{c:bX}{id:Nat}{b:gn}(h:c.S.h.get id=some b):∃x∈c.pre,x.1=id/\b=(x.2.sub Xg .var).aO:=by
 rcases Dg h with h|h
 .exact h
 .cases h
theorem zx(g:Rel C base E s w){c:bX}{rl:List (Nat×Nat)}{sl:List (Nat×SE)}
  (b:pV s.h (eb C.nG c.n s.next rl) (fe C.nG c.n sl) (lF (eb C.nG c.n s.next rl) c.pre) c.pre=true) {x:Nat×CB} (Z:x∈c.pre):
  ∃b0 l o d,s.h.get (eb C.nG c.n s.next rl x.1)=some b0/\E (eb C.nG c.n s.next rl x.1)=some l/\w.heap[l.aO]? =some o/\x.1<c.n/\
   Ii E c.n (eb C.nG c.n s.next rl) (fe C.nG c.n sl) x.1=some d/\d.aO=l.aO/\
   dC C (Ii E c.n (eb C.nG c.n s.next rl) (fe C.nG c.n sl)) d (x.2.sub Xg .var).aO o/\ez b0= !x.2.live/\∀a∈EE b0,a ∉ lF (eb C.nG c.n s.next rl) c.pre:=by
 obtain⟨b0,i,j,k⟩:=yk b x Z;obtain⟨l,o,f,r2,p⟩:=g.aO _ _ i;have e:x.1<c.n:=by
  rcases ed x.1 c.n with h|h
  .exact h
  .rw[JG h,g.new _ (bD _)]at f;cases f
 obtain⟨d,I, -,Y⟩:=vq (E:=E) (m:=eb C.nG c.n s.next rl) (D:=fe C.nG c.n sl) e;obtain⟨e1,e2,e3⟩:=Y l f;refine⟨b0,l,o,d,i,f,r2,e,I,e1,(YU g).a1v (SN _) e2 e3 ((ru j).1 C E l o p),?_,k⟩;rw[(ru j).2,qh]
theorem a2U(e:Rel C base E s w){c:bX}{rl:List (Nat×Nat)}{sl:List (Nat×SE)}
  (a:pV s.h (eb C.nG c.n s.next rl) (fe C.nG c.n sl) (lF (eb C.nG c.n s.next rl) c.pre) c.pre=true)
  (B:L2 (lF (eb C.nG c.n s.next rl) c.pre)=true) (F:Jt C.nG s.h c.n rl=true) (G:Nat.ble C.nG c.n=true)
  (H:∀f∈c.facts,f.pos=true/\(f.sub (fe C.nG c.n sl)).holds E):Rel C base (Ii E c.n (eb C.nG c.n s.next rl) (fe C.nG c.n sl)) c.S w:=by
 refine⟨λid b hb=>?_,λid u b N l O I Y W U J he=>?_,λid p=>?_,λg z=>?_,λid b l I Y W=>?_,e.bs,λf K=>?_,λid l d I Y=>?_⟩
 .grind[nX,zx]
 .obtain⟨x,Z,rfl,rfl⟩:=nX I;obtain⟨y,P,rfl,rfl⟩:=nX Y;obtain⟨b0,l0,o,Q,r,t,R, -,i,v,V,A,q9⟩:=zx e a Z;obtain⟨b1,l1,T,lR',p1,p2,p3, -,X,p6,p7,p8,p9⟩:=zx e a P;rw[W]at i;obtain rfl:=ae i;rw[U]at X;obtain rfl:=ae X;rcases e.sep _ _ b0 b1 l0 l1 r p1 t p2 (GY B x Z y P J) (by rw[<-v,<-p6];exact he)with h|h
  .grind[qe,Ds]
  .grind[qe,Ds]
 .unfold Ii;have:c.n<=id:=p;rw[av (by omega)]
 .have q:g<c.n:=kY z (bZ G);obtain⟨l0,g1,g2,g3⟩:=e.gm g z;have L:eb C.nG c.n s.next rl g=g:=by
   cases M:nP g rl with
   |none=>exact Gl q M z
   |some j=>rw[Gk q M];exact(CI F _ (C6 M)).2.2 z
  obtain⟨l,I, -,Y⟩:=vq (E:=E) (m:=eb C.nG c.n s.next rl) (D:=fe C.nG c.n sl) q;obtain⟨e1,e2,e3⟩:=Y l0 (by rw[L];exact g1);exact⟨l,I,by rw[e1];exact g2,by rw[e2];exact g3⟩
 .obtain⟨x,Z,rfl,rfl⟩:=nX I;obtain⟨b0,l0,o,Q,r,t,R, -,i,v,V,A, -⟩:=zx e a Z;rw[Y]at i;obtain rfl:=ae i;rw[ql,qh,<-A];exact e.low _ b0 l0 r t (by rw[<-v];exact W)
 .exact⟨(H f K).1,Hz.1 ((YU e).fact (H f K).1 (H f K).2)⟩
 .have p:id<c.n:=by
    rcases ed id c.n with h|h
    .exact h
    .grind[Ii]
  obtain⟨O,k1,k2, -⟩:=vq (E:=E) (m:=eb C.nG c.n s.next rl) (D:=fe C.nG c.n sl) p;rw[I]at k1;obtain rfl:=ae k1;rw[Y]at k2;refine Dt.ej.stays (λk hk=>⟨⟨hk.1,λhh=>hk.2.1 ?_,hk.2.2⟩,rfl⟩) d (fL (λid l d I Y=>e.rd id l d I Y) _ d k2.symm);obtain⟨id2,b,l2,r1,r2,r3,r4⟩:=hh;obtain⟨x,Z,rfl,rfl⟩:=nX r1;obtain⟨b0,l0,o,Q,r,t,R, -,i,v,V,A, -⟩:=zx e a Z;rw[r3]at i;obtain rfl:=ae i;exact⟨_,b0,l0,r,by rw[A];rw[ql,qh]at r2;exact r2,t,by rw[<-v];exact r4⟩
theorem Lm{e:SE}:(∃ds,jj E [e]=some ds/\pTr ds)↔ax E e=some (.val (.bool true)):=by
 constructor
 .rintro⟨ds,I,rfl⟩;simp only[jj,cV,bk]at I;obtain⟨d,a,r,b,e⟩:=I;injection e with e _;rw[a,e]
 .exactλh=>⟨_,a6V h,rfl⟩
theorem Rc{e:SE}:(∃ds,jj E [e]=some ds/\pFl ds)↔ax E e=some (.val (.bool false)):=by
 constructor
 .rintro⟨ds,I,rfl⟩;simp only[jj,cV,bk]at I;obtain⟨d,a,r,b,e⟩:=I;injection e with e _;rw[a,e]
 .exactλh=>⟨_,a6V h,rfl⟩
theorem Gs{i n:SE}:(∃ds,jj E [i,n]=some ds/\Wb ds)↔(Fact.inr i n).holds E:=by
 constructor
 .rintro⟨ds,I,k,a,m,rfl,Y,W⟩;simp only[jj,cV,bk]at I;obtain⟨d,c,r,⟨d',b,r',f,rfl⟩,e⟩:=I;injection e with e1 e;injection e with e2 _;exact⟨k,a,m,by rw[c,e1],by rw[b,e2],Y,W⟩
 .rintro⟨k,a,m,I,Y,W,U⟩;exact⟨_,A5 I Y,k,a,m,rfl,W,U⟩
theorem zP{e:SE}:∀{pc:List Fact},(∀f∈pc,f.holds E)->yF e pc=true->(Fact.tr e).holds E
 | [],_,h=>by cases h
 |f::l,a,h=>by
  have rest:=λ(h':yF e l=true)=>zP (pc:=l) (λf c=>a f (bQ _ c)) h'
  cases f with
  |tr x=>
   simp only[yF]at h;cases b:db x e with
   |false=>rw[b]at h;exact rest h
   |true=>rw[<-bh b];exact a _ bB
  |fl _=>exact rest h
  |inr _ _=>exact rest h
  |rel _ _ _ _=>exact rest h
theorem zQ{e:SE}:∀{pc:List Fact},(∀f∈pc,f.holds E)->yG e pc=true->(Fact.fl e).holds E
 | [],_,h=>by cases h
 |f::l,a,h=>by
  have rest:=λ(h':yG e l=true)=>zQ (pc:=l) (λf c=>a f (bQ _ c)) h'
  cases f with
  |fl x=>
   simp only[yG]at h;cases b:db x e with
   |false=>rw[b]at h;exact rest h
   |true=>rw[<-bh b];exact a _ bB
  |tr _=>exact rest h
  |inr _ _=>exact rest h
  |rel _ _ _ _=>exact rest h
theorem wz{i n:SE}:∀{pc:List Fact},(∀f∈pc,f.holds E)->sr i n pc=true->(Fact.inr i n).holds E
 | [],_,h=>by cases h
 |f::l,a,h=>by
  have rest:=λ(h':sr i n l=true)=>wz (pc:=l) (λf c=>a f (bQ _ c)) h'
  cases f with
  |inr j m=>
   simp only[sr]at h;cases b:db j i&&db m n with
   |false=>rw[b]at h;exact rest h
   |true=>obtain⟨d,e⟩:=oe.1 b;rw[<-bh d,<-bh e];exact a _ bB
  |tr _=>exact rest h
  |fl _=>exact rest h
  |rel _ _ _ _=>exact rest h
theorem lA{D:Nat->SE}{pc:List Fact}(c:∀f∈pc,f.holds E):∀l:List Fact,(dZ pc D l).path (λ_=>∀f∈l,f.pos=true/\(f.sub D).holds E)
 | []=>λf a=>by cases a
 | .tr e::l=>by
   have go:(Fact.tr (SE.sub D e)).holds E->(dZ pc D l).path (λ_=>∀f∈Fact.tr e::l,f.pos=true/\(f.sub D).holds E):=λg=>R.aZ (λ_ h f a=>by
    cases a with
    |head=>exact⟨rfl,g⟩
    |tail _ a=>exact h f a) (lA c l)
   show(match yF (SE.sub D e) pc with|true=>dZ pc D l|false=>R.must (.rel "" true pTr [SE.sub D e]::pc) (dZ pc D l)).path _;cases hk:yF (SE.sub D e) pc with
   |true=>exact go (zP c hk)
   |false=>
    by_cases d:∃ds,jj E [SE.sub D e]=some ds/\pTr ds
    .exact .inr (go (Lm.1 d))
    .refine .inl ⟨E,λf a=>?_⟩;cases a with
     |head=>exact d
     |tail _ a=>exact c f a
 | .fl e::l=>by
   have go:(Fact.fl (SE.sub D e)).holds E->(dZ pc D l).path (λ_=>∀f∈Fact.fl e::l,f.pos=true/\(f.sub D).holds E):=λg=>R.aZ (λ_ h f a=>by
    cases a with
    |head=>exact⟨rfl,g⟩
    |tail _ a=>exact h f a) (lA c l)
   show(match yG (SE.sub D e) pc with|true=>dZ pc D l|false=>R.must (.rel "" true pFl [SE.sub D e]::pc) (dZ pc D l)).path _;cases hk:yG (SE.sub D e) pc with
   |true=>exact go (zQ c hk)
   |false=>
    by_cases d:∃ds,jj E [SE.sub D e]=some ds/\pFl ds
    .exact .inr (go (Rc.1 d))
    .refine .inl ⟨E,λf a=>?_⟩;cases a with
     |head=>exact d
     |tail _ a=>exact c f a
 | .inr i n::l=>by
   have go:(Fact.inr (SE.sub D i) (SE.sub D n)).holds E->(dZ pc D l).path (λ_=>∀f∈Fact.inr i n::l,f.pos=true/\(f.sub D).holds E):=λg=>R.aZ (λ_ h f a=>by
    cases a with
    |head=>exact⟨rfl,g⟩
    |tail _ a=>exact h f a) (lA c l)
   show(match sr (SE.sub D i) (SE.sub D n) pc with|true=>dZ pc D l|false=>R.must (.rel "" true Wb [SE.sub D i,SE.sub D n]::pc) (dZ pc D l)).path _;cases hk:sr (SE.sub D i) (SE.sub D n) pc with
   |true=>exact go (wz c hk)
   |false=>
    by_cases d:∃ds,jj E [SE.sub D i,SE.sub D n]=some ds/\Wb ds
    .exact .inr (go (Gs.1 d))
    .refine .inl ⟨E,λf a=>?_⟩;cases a with
     |head=>exact d
     |tail _ a=>exact c f a
 | .rel nm b p args::l=>by
   cases b with
   |true=>trivial
   |false=>
    by_cases d:∃ds,jj E (SE.iq D args)=some ds/\p ds
    .refine .inr (R.aZ (λ_ h f a=>?_) (lA c l));cases a with
     |head=>exact⟨rfl,d⟩
     |tail _ a=>exact h f a
    .refine .inl ⟨E,λf a=>?_⟩;cases a with
     |head=>exact d
     |tail _ a=>exact c f a
theorem J8{A:G}{m:Nat->Nat}(h:∀i l,E (m i)=some l->∃O,A i=some O/\O.aO=l.aO):∀{l:List cw}{r:List Item},jc E (cw.oQ m l)=some r->jc A l=some r
 | [],r,e=>e
 |x::l,r,e=>by
  obtain⟨a,b,c,f,rfl⟩:=dI.1 e;refine dI.2 ⟨a,b,?_,J8 h f,rfl⟩;cases x with
  |rf i=>simp only[cw.sub,kF,bk]at c ⊢;obtain⟨l0,I,rfl⟩:=c;obtain⟨d,Y,W⟩:=h i l0 I;exact⟨d,Y,by rw[W]⟩
  |lI i=>simp only[cw.sub,kF,bk]at c ⊢;obtain⟨l0,I,rfl⟩:=c;obtain⟨d,Y,W⟩:=h i l0 I;exact⟨d,Y,by rw[W]⟩
  |_=>exact c
end
section
variable{C:Ctx}{base:Nat}{E:G}{s:S}{w M:World}
theorem a2x{P:Program}{a:Frame}{cs:List Frame}{b:Nat}{l ds:List Deferred}(d:a.mode=.returning)(e:a.defers={ target:=.collected b,args:=#[] }::ds)(c:w.heap[b]? =some (.deferred (some l))):
  step P (lone a cs w)=.next (lone { a with defers:=l++ds } cs { w with heap:=w.heap.setIfInBounds b (.deferred none) }):=by
 have I:(getObj b).run P w=.ok (.deferred (some l)) w:=o7 c (by simp);have Y:(setObj b (.deferred none)).run P w=.ok () { w with heap:=w.heap.setIfInBounds b (.deferred none) }:=sY c (by simp);have f:(Instr.takeDeferred b).run P w=.ok l { w with heap:=w.heap.setIfInBounds b (.deferred none) }:=by unfold Instr.takeDeferred;simp only[aS,I,Y,bw,bE]
 refine dE ?_;simp[stepG,unwind,d,e,f]
theorem JL{tl:List Deferred}{cs:List Frame}:∀{ds:List jh}{ck:List Deferred}{s:S}{w:World}(_:Rel C base E s w)(_:dY tl E ds=some ck)(a:Frame)(_:a.mode=.returning)(_:a.defers=ck),
  (a3d s ds).path (λF=>∃M,Step C base E s w E F M/\Steps C.P (lone a cs w) (lone { a with defers:=tl } cs M))
 | [],ck,s,w,f,g,a,i,b=>by
   obtain rfl:=ae (show some tl=some ck from g);subst b;exact⟨w,Step.refl f,Steps.refl _ _⟩
 | .call _::_,_,_,_,_,_,_,_,_=>trivial
 | .collected r::ds,ck,s,w,f,g,a,i,b=>by
   obtain⟨q,c,d,j,rfl⟩:=hV.1 g;simp only[uX,bk]at d;obtain⟨B,m,rfl⟩:=d;show(match s.h.get r with|some (.fV (some []))=>a3d ⟨s.h.set r (.fV none),s.next,s.pc⟩ ds|_=>R.bad "").path _;cases n:s.h.get r with
   |none=>trivial
   |some x=>
    cases x with
    |fV y=>
     cases y with
     |none=>trivial
     |some l=>
      cases l with
      |cons _ _=>trivial
      |nil=>
       simp only;obtain⟨k,o,g1,g2,p,g3,rfl⟩:=f.aO r _ n;obtain rfl:B=k:=by rw[m]at g1;exact ae g1
       obtain rfl:[]=p:=ae (show some []=some p from g3);have e:Step C base E s w E ⟨s.h.set r (.fV none),s.next,s.pc⟩ { w with heap:=w.heap.setIfInBounds B.aO (.deferred none) }:=
        Step.sX f n m g2 rfl rfl (N:=.fV none) (T:=.deferred none) rfl rfl rfl rfl rfl
       refine R.aZ ?_ (JL (cs:=cs) e.rel j { a with defers:=c } i rfl);rintro F ⟨M,I,Y⟩;exact⟨M,e.trans I,.head (a2x i b g2) Y⟩
    |_=>trivial
theorem results_none{P:Program}{fn:Func}(h:fn.results.size=0){tm:Array Value}{b:Value}(a:(results fn tm).run P w=.ok b w):(results fn tm).run P M=.ok b M:=by have e:fn.results=#[]:=Array.eq_empty_of_size_eq_zero h;unfold results at a ⊢;rw[e]at a ⊢;simp only[Array.mapM_empty,pure_bind,bE]at a ⊢;injection a with I Y;rw[I]
theorem jg.over {C a:Ctx} (b:C.P=a.P) (c:C.T=a.T) (d:C.nG=a.nG) {fi:FI} {ro:Option Nat} {t:Tr AV} {todo:List cw} {ds:List jh} {mode:n7} {ctx:Option (List PE)}
  {tm:Array Value} {items:List Item} {ck:List Deferred} {m:FrameMode} {cs:List Frame} (h:jg C base E fi ro t todo ds mode ctx s tm items ck m cs w):jg a base E fi ro t todo ds mode ctx s tm items ck m cs w:=
 ⟨h.rel.ctx b c d,h.ro,h.tmps,h.todo,h.defs,h.mode,h.ctx,by rw[<-b];exact h.fn,h.rk⟩
theorem O7{f:Fact}{D:Nat->SE}:∀{l:List Fact},f∈Fact.oQ D l->∃f0∈l,f=f0.sub D
 | [],h=>by cases h
 |x::l,h=>by
  simp only[Fact.oQ,cC]at h;rcases h with rfl|h
  .exact⟨x,bB,rfl⟩
  .obtain⟨f0,I,Y⟩:=O7 h;exact⟨f0,bQ _ I,Y⟩
theorem DH{ok:Nat->Bool}:∀{l:List (Nat×CB)},E5 ok l=true->∀x∈l,ok x.1=true/\x.2.ids ok=true/\x.2.live=true
 | [],_,x,Z=>by cases Z
 |y::l,h,x,Z=>by
  simp only[E5,aM]at h;cases Z with
  |head=>exact⟨h.1,h.2.1,h.2.2.1⟩
  |tail _ Z=>exact DH h.2.2.2 x Z
theorem GL{nG n:Nat}{rl:List (Nat×Nat)}:∀{l:List ee},LP nG n rl l=true->∀o∈l,OM nG n rl o=true
 | [],_,x,Z=>by cases Z
 |y::l,h,x,Z=>by
  simp only[LP,aM]at h;cases Z with
  |head=>exact h.1
  |tail _ Z=>exact GL h.2 x Z
def Xl(E a:G)(w:World)(n next m:Nat)(c:Nat->Nat)(b:Nat->SE):G:=λi=>
 if i<next then E i else if i<next+m then(match a (c (n+(i-next)))with
  |some l=>some ⟨l.aO,l.dl,l.cp,ax a (b (n+(i-next)))⟩
  |none=>match ax a (b (n+(i-next)))with
   |none=>none
   |some d=>some ⟨w.heap.size,0,0,some d⟩)else none
theorem S3{a:G}{n next m:Nat}{c:Nat->Nat}{b:Nat->SE}{i:Nat}(I:n<=i)(Y:i<n+m):Xl E a w n next m c b (next+(i-n))=match a (c i)with
  |some l=>some ⟨l.aO,l.dl,l.cp,ax a (b i)⟩
  |none=>match ax a (b i)with
   |none=>none
   |some d=>some ⟨w.heap.size,0,0,some d⟩:=by
 unfold Xl;rw[av (by omega),aJ (by omega),show n+(next+(i-n)-next)=i by omega]
theorem Yt(B:Rel C base E s w){c:bX}{rl:List (Nat×Nat)}{sl:List (Nat×SE)}
  (N:pV s.h (eb C.nG c.n s.next rl) (fe C.nG c.n sl) (lF (eb C.nG c.n s.next rl) c.pre) c.pre=true)
  (htg:Jt C.nG s.h c.n rl=true) {o:ee} (ho:OM C.nG c.n rl o=true)
  {a:G} {s1:S} {g:Nat->Nat} {r:Nat->SE}
  (t:Step C base (Ii E c.n (eb C.nG c.n s.next rl) (fe C.nG c.n sl)) c.S w a s1 M)
  (F:∀i,i<c.n->g i=i/\r i=.var i) (P:∀i,c.n<=i->c.n<=g i)
  (H:∀x∈o.post,∃K u,s1.h.get (g x.1)=some K/\ez K=false/\a (g x.1)=some u/\∀Q,dC C a u K Q->dC C a u (x.2.sub g r).aO Q)
  (a3U:∀x∈o.post,∀y∈o.post,x.1≠y.1->g x.1≠g y.1) (hν:∀i,c.n+o.m<=i->ax a (r i)=none)
  (k:∀f∈o.facts,f.pos=true/\(f.sub r).holds a):
  ∃A,Step C base E s w A (a8e s c o (eb C.nG c.n s.next rl) (A8 c.n s.next (eb C.nG c.n s.next rl)) (A4 c.n s.next o.m (fe C.nG c.n sl))) M/\
   RR a g r A (A8 c.n s.next (eb C.nG c.n s.next rl)) (A4 c.n s.next o.m (fe C.nG c.n sl)) (GR C.nG c.n o.m rl):=by
 simp only[OM,aM]at ho;have grow:Grow E (Xl E a w c.n s.next o.m g r):=λid l h=>⟨l,by unfold Xl;rw[aJ (B.lt h)];exact h,rfl,rfl,rfl⟩
 have R:∀i,i<c.n->GR C.nG c.n o.m rl i=true->∃l0,E (eb C.nG c.n s.next rl i)=some l0:=by
  intro i V p;cases U:nP i rl with
  |some j=>obtain⟨⟨b,W⟩, -, -⟩:=CI htg _ (C6 U);obtain⟨l0,_,I, -⟩:=B.aO _ b W;exact⟨l0,by rw[Gk V U];exact I⟩
  |none=>
   unfold GR at p;rw[lM V,U]at p;have L:i<C.nG:=by simpa[BU]using p
   obtain⟨l0,I, -⟩:=B.gm i L;exact⟨l0,by rw[Gl V U L];exact I⟩
 have X:RR a g r (Xl E a w c.n s.next o.m g r) (A8 c.n s.next (eb C.nG c.n s.next rl)) (A4 c.n s.next o.m (fe C.nG c.n sl)) (GR C.nG c.n o.m rl):=by
  refine⟨λi l p h=>?_,λi d h=>?_⟩
  .rcases ed i c.n with V|V
   .rw[(F i V).1]at h;obtain⟨l0,h0⟩:=R i V p;obtain⟨lR,z, -,J⟩:=vq (E:=E) (m:=eb C.nG c.n s.next rl) (D:=fe C.nG c.n sl) V;obtain⟨e1,e2,e3⟩:=J l0 h0;obtain⟨u,g1,g2,g3,g4⟩:=t.grow i lR z;rw[h]at g1;obtain rfl:=ae g1;refine⟨l0,?_,by rw[g2,e1],by rw[g3,e2],by rw[(ub g4).1,e3]⟩;unfold A8;rw[lM V];unfold Xl;rw[aJ (B.lt h0)];exact h0
   .grind[GR,pg,ax,A8,Xl,S3]
  .rcases ed i c.n with V|V
   .rw[(F i V).2]at h;obtain⟨lR,z,J, -⟩:=vq (E:=E) (m:=eb C.nG c.n s.next rl) (D:=fe C.nG c.n sl) V;obtain⟨u,g1,g2,g3,g4⟩:=t.grow i lR z;simp only[ax,g1,bn]at h;rw[(ub g4).2,J]at h;unfold A4;rw[lM V];exact bG grow _ _ h
   .rcases ed i (c.n+o.m)with q|hge
    .unfold A4;rw[pg V,show Nat.blt i (Nat.add c.n o.m)=true from lM q];show(Xl E a w c.n s.next o.m g r (s.next+(i-c.n))).bind (λl=>l.v)=some d;rw[S3 V q,h];cases a (g i)<;>rfl
    .rw[hν i hge]at h;cases h
 refine⟨_,Step.con (m:=eb C.nG c.n s.next rl) B (λid b W=>?_) (λid l d I Y=>?_) t
  (λi j b=>∃x∈o.post,i=A8 c.n s.next (eb C.nG c.n s.next rl) x.1/\j=g x.1/\b=(x.2.sub (A8 c.n s.next (eb C.nG c.n s.next rl)) (A4 c.n s.next o.m (fe C.nG c.n sl))).aO)
  ?_ ?_ (λid b W=>?_) (λi V=>by unfold Xl;rw[aJ V]) (λi O h V=>?_) (λi O d h V hd=>?_) (Nat.le_add_right _ _) (λf T=>?_),X⟩
 .grind[nX,zx,ql,qh]
 .have hid:id<c.n:=by
    rcases ed id c.n with h|h
    .exact h
    .grind[Ii]
  obtain⟨O,z,J, -⟩:=vq (E:=E) (m:=eb C.nG c.n s.next rl) (D:=fe C.nG c.n sl) hid;rw[I]at z;obtain rfl:=ae z;exact⟨_,by rw[<-J];exact Y⟩
 .grind
 .rintro i j b ⟨x,Z,rfl,rfl,rfl⟩;obtain⟨K,u,g1,g2,g3,g4⟩:=H x Z;obtain⟨z,J,k3⟩:=DH ho.2 x Z;obtain⟨O,r1,r2,r3,r4⟩:=X.aO x.1 u z g3;refine⟨K,u,O,g1,g2,by rw[ql,qh,k3];rfl,g3,r1,r2.symm,λQ hob=>X.a1v J r3 r4 (g4 Q hob),λq=>?_⟩;rcases ed x.1 c.n with V|V
  .rw[(F _ V).1]at g1;obtain⟨b2,hb2⟩:=t.p0 _ K g1 V;obtain⟨y,hy,e,rfl⟩:=nX hb2;obtain⟨b0,l,Q,lR,q1, -⟩:=zx (sl:=sl) B N hy;refine⟨b0,?_⟩;unfold A8;rw[lM V,<-e];exact q1
  .grind[A8,pg]
 .rcases Dg W with⟨x,Z,I,Y⟩|h
  .exact .inl ⟨_,x,Z,I.symm,rfl,Y⟩
  .grind[wB,nX,ql,qh]
 .unfold Xl at h;rw[av (by omega)]at h;split at h
  .next q=>
   refine⟨q,?_⟩;cases L:a (g (c.n+(i-s.next)))with
   |some l=>rw[L]at h;obtain rfl:=ae h;exact .inr ⟨_,l,P _ (Nat.le_add_right _ _),L,rfl⟩
   |none=>
    rw[L]at h;cases hv:ax a (r (c.n+(i-s.next)))with
    |none=>rw[hv]at h;cases h
    |some d=>rw[hv]at h;obtain rfl:=ae h;exact .inl (bD _)
  .cases h
 .grind[Xl,ax]
 .rcases kR.1 T with T|T
  .obtain⟨f0,I,rfl⟩:=O7 T;exact⟨by rw[My];exact(k f0 I).1,X.fact (k f0 I).1 (k f0 I).2⟩
  .exact B.LB grow f T
end
section
variable{C:Ctx}{base:Nat}{E:G}{s:S}{w:World}
theorem ue(F:Rel C base E s w){b:Nat}{el:TypeId}{y:SE}{m g:Nat}(h:AO C s b=some (el,y,m,g)){B:Loc}(G:E b=some B):
  Step C base E s w E ⟨s.h.set b (.vec el y),s.next,s.pc⟩ w/\m<=B.cp*g/\∃ds,ax E y=some (.ls (aA C el) ds)/\ds.length=m/\g=(aA C el).length:=by
 unfold AO at h;cases u:s.h.get b with
 |none=>rw[u]at h;cases h
 |some x=>
  rw[u]at h;cases x with
  |cells a cs m' fz gU st sg=>
   cases gU with
   |cons _ _=>cases h
   |nil=>
    simp only at h;cases J:(Nat.beq fz 0&&(!st && !sg))with
    |false=>rw[J]at h;cases h
    |true=>
     rw[J]at h;simp only[aM,im]at J;obtain⟨S,rfl,rfl⟩:=J;obtain rfl:=bj S;simp only at h;cases V:C.T.get a with
     |none=>rw[V]at h;cases h
     |some i=>
      rw[V]at h;simp only at h;cases M:Nat.beq i.size (aA C a).length with
      |false=>rw[M]at h;cases h
      |true=>
       rw[M]at h;simp only at h;obtain⟨X,o,I,Y,vs,lo,H,rfl,g1,g2,⟨c,g3,g4,g5,g6⟩,g7,g8⟩:=F.aO b _ u;rw[G]at I;obtain rfl:=ae I;rw[V]at g3;obtain rfl:=ae g3;have v:i.size=(aA C a).length:=bj M;have p:=jT (E:=E) (vs:=vs) (dl:=B.dl) g2 m' 0 (by omega);cases K:nR cs m' 0 with
       |ok l=>
        rw[K]at h p;simp only at h;cases N:sW C (aA C a) l (aA C a) (.a1 (.nl (aA C a)) (.bool true))with
        |none=>rw[N]at h;cases h
        |some L=>
         rw[N]at h;obtain⟨rfl,rfl,rfl,rfl⟩:a=el/\L=y/\m'=m/\i.size=g:=by simpa using h
         obtain⟨r,R,r2,r3⟩:=p;obtain⟨ds,O,Z⟩:=uj (E:=E) l (aA C a) (.a1 (.nl (aA C a)) (.bool true)) L [] r R rfl ⟨0,rfl,wY _,by simp⟩ N;rw[fH]at O;have z:ds.length=m':=by rw[<-r2,<-bJ R,<-Z,k8]
         refine⟨?_,g4,ds,O,z,v⟩;have A:∀c f li,c≠b->s.h.get c=some f->E c=some li->li.aO=B.aO->False:=by
          intro c f li n t P Q;rcases F.sep c b f _ li B t u P G n Q with h'|h'
          .cases f<;>simp[gR]at h'
          .cases f<;>simp[gR]at h'
         have q:∀c f,c≠b->(s.h.set b (.vec a L)).get c=some f->s.h.get c=some f:=by grind[Tr.get_set_other]
         have D:Rel C base E ⟨s.h.set b (.vec a L),s.next,s.pc⟩ w:=by
          refine F.CN u G G ⟨rfl,rfl,rfl⟩ rfl (λ_ _=>rfl) q (Tr.get_set_same _ _ _) (T:=.cells vs a (lo,H)) (λ_ _=>rfl) Y rfl ?_
           (λc f li n t W U=>(A c f li n (q c f n t) W U).elim) (λc f li n t W U=>(A c f li n (q c f n t) W U).elim)
          refine⟨vs,lo,H,ds,rfl,O,λj d hj=>?_,⟨i,V,v,by rw[z];exact g4,g5,g6⟩,λoff W U=>?_,g8⟩
          .grind
          .grind
         refine Step.of ⟨Grow.refl E,D,vp.refl _ _ _,?_,bD _,λ_ _ h=>F.lt h,λ_ l h=>.inl ⟨l,h⟩,λc f W _=>?_⟩
         .rintro k ⟨c,f,li,W,U,h5,h6⟩ _;by_cases e:c=b
          .subst e;exact⟨c,_,li,u,rfl,h5,h6⟩
          .exact⟨c,f,li,q c f e W,U,h5,h6⟩
         .grind
       |bad _=>rw[K]at h;cases h
       |ask _ _=>rw[K]at h;cases h
       |must _ _=>rw[K]at h;cases h
  |_=>cases h
theorem qU{n c m g:Nat}(h:uk n c m g=true):g≠0/\c*g<=m/\n<=c:=by simp only[uk,aM,im]at h;refine⟨λe=>?_,bZ h.2.1,bZ h.2.2⟩;rw[e]at h;cases h.1
theorem Step.Xh (i:Rel C base E s w) {b:Nat} {el:TypeId} {e:SE} {B:Loc} (D:s.h.get b=some (.vec el e)) (y:E b=some B) {J:List Dt} (N:ax E e=some (.ls (aA C el) J)) {k q:Nat} (hk:k*lf C el<=J.length):
  Step C base E s w (λid=>if id=s.next then some ⟨w.heap.size,0,0,some (.sl (.slice (some ⟨B.aO,B.dl,none⟩) k q) el (lf C el) (J.take (k*lf C el)))⟩else E id) ⟨s.h.del b,s.next+1,s.pc⟩ w:=by
 have m:Grow E (λid=>if id=s.next then some ⟨w.heap.size,0,0,some (.sl (.slice (some ⟨B.aO,B.dl,none⟩) k q) el (lf C el) (J.take (k*lf C el)))⟩else E id):=by intro id l y;have:id≠s.next:=gE (i.lt y);exact⟨l,by simp[this,y],rfl,rfl,rfl⟩
 have f:∀id x,s.h.get id=some x->id≠s.next:=by intro id x h;obtain⟨l,o,I,_⟩:=i.aO id x h;exact gE (i.lt I)
 have c:∀{id x},(s.h.del b).get id=some x->id≠b/\s.h.get id=some x:=by grind[Tr.xI]
 have n:∀k',Live (λid=>if id=s.next then some ⟨w.heap.size,0,0,some (.sl (.slice (some ⟨B.aO,B.dl,none⟩) k q) el (lf C el) (J.take (k*lf C el)))⟩else E id) ⟨s.h.del b,s.next+1,s.pc⟩ k'->Live E s k'/\k'≠B.aO:=by
  rintro k' ⟨id,x,l,I,Y,W,U⟩;obtain⟨r,Z⟩:=c I;have:=f id x Z;simp only[this,br]at W;refine⟨⟨id,x,l,Z,Y,W,U⟩,λt=>?_⟩;rcases i.sep id b x _ l B Z D W y r (U.trans t)with h'|h'
  .cases x<;>simp[gR]at h'
  .simp[gR]at h'
 have F:Live E s B.aO:=⟨b,_,B,D,rfl,y,rfl⟩;obtain⟨O,o,I,Y,vs,lo,H,lS,rfl,g1,g2,⟨V,g3,g4,g5,g6,g7⟩,g8,g9⟩:=i.aO b _ D;rw[y]at I;obtain rfl:=ae I;rw[N]at g1;have g1:=ae g1;injection g1 with _ g1;subst g1;have G:B.aO<w.heap.size:=by grind
 have p:∀a:Nat->Prop,(a B.aO->False)->dD C E s w a->dD C (λid=>if id=s.next then some ⟨w.heap.size,0,0,some (.sl (.slice (some ⟨B.aO,B.dl,none⟩) k q) el (lf C el) (J.take (k*lf C el)))⟩else E id) ⟨s.h.del b,s.next+1,s.pc⟩ w a:=by
  intro a R z id l d' v A;have mono:∀k',(k'<w.heap.size/\¬Live E s k'/\¬a k')->(k'<w.heap.size/\¬Live (λid=>if id=s.next then some ⟨w.heap.size,0,0,some (.sl (.slice (some ⟨B.aO,B.dl,none⟩) k q) el (lf C el) (J.take (k*lf C el)))⟩else E id) ⟨s.h.del b,s.next+1,s.pc⟩ k'/\¬a k')/\w.heap[k']? =w.heap[k']? :=
   λk' K=>⟨⟨K.1,λhh=>K.2.1 (n k' hh).1,K.2.2⟩,rfl⟩
  by_cases e0:id=s.next
  .simp only[e0,bc,aD]at v;subst v;obtain rfl:=ae A;have L:(Dt.ls (aA C el) J).ej C w _:=fL z e _ N;refine .inr ⟨rfl,⟨_,k,q,rfl,by rw[c8];omega,λ_=>⟨rfl,⟨G,λhh=>(n _ hh).2 rfl,R⟩,vs,el,lo,H,Y,λj d X=>?_⟩⟩,?_⟩
   .grind
   .exact Dt.cu.stays mono _ _ _ (Dt.cu.take _ L)
  .simp only[e0,br]at v;exact Dt.ej.stays mono d' (z id l d' v A)
 refine⟨m,⟨?_,?_,?_,?_,?_,i.bs,i.LB m,p _ (λh=>h) i.rd⟩,vp.refl E s w,λk' h _=>(n k' h).1,Nat.le_succ _,λ_ _ h=>i.lt h,?_,λid x h _=>⟨x,(c h).2⟩,λa S z=>p a (λh=>(S _ h).2 F) z⟩
 .intro id x h;obtain⟨r,Z⟩:=c h;obtain⟨l,o,I,Y,W⟩:=i.aO id x Z;have:=f id x Z;exact⟨l,o,by simp[this,I],Y,W.mono m ⟨rfl,rfl,rfl⟩⟩
 .intro id u x P l O I Y W U r t;have e1:=f id x (c I).2;have e2:=f u P (c Y).2;simp only[e1,br]at W;simp only[e2,br]at U;exact i.sep id u x P l O (c I).2 (c Y).2 W U r t
 .intro id M;have Q:s.next+1<=id:=M;have:id≠s.next:=by omega
  simp only[this,br];exact i.new id (by omega)
 .intro g z;obtain⟨l,v,A,T⟩:=i.gm g z;have:g≠s.next:=gE (i.lt v);exact⟨l,by simp[this,v],A,T⟩
 .intro id x l I Y W;have:=f id x (c I).2;simp only[this,br]at Y;exact i.low id x l (c I).2 Y W
 .grind
theorem HR(i:Rel C base E s w){t b n c:Nat}{v:AV}{B:Loc}(k:E b=some B){cap:Nat}(o:ai E v=some (.slice (some ⟨B.aO,B.dl,none⟩) n cap)):
  ∃A,Step C base E s w A (HS C t b n c v s).2 w/\ai A (HS C t b n c v s).1=some (.slice (some ⟨B.aO,B.dl,none⟩) n cap):=by
 unfold HS;cases r:AO C s b with
 |none=>exact⟨E,Step.refl i,o⟩
 |some q=>
  obtain⟨el,y,m,g⟩:=q;simp only;cases u:Nat.beq el t&&uk n c m g with
  |false=>exact⟨E,Step.refl i,o⟩
  |true=>
   obtain⟨x,z⟩:=oe.1 u;obtain rfl:=bj x;obtain⟨I,Y,W⟩:=qU z;obtain⟨h,G,ds,p,D,F⟩:=ue i r k;have hk:n*lf C el<=ds.length:=by rw[D];have e:lf C el=g:=F.symm;rw[e];exact iG (kZ _ W) Y
   have d:=Step.Xh h.rel (Tr.get_set_same _ _ _) k p hk (q:=cap);have a:ax (λid=>if id=s.next then some ⟨w.heap.size,0,0,some (.sl (.slice (some ⟨B.aO,B.dl,none⟩) n cap) el (lf C el) (ds.take (n*lf C el)))⟩else E id) (.var s.next)=some (.sl (.slice (some ⟨B.aO,B.dl,none⟩) n cap) el (lf C el) (ds.take (n*lf C el))):=by show((if s.next=s.next then _ else _:Option Loc).bind λl=>l.v)=_;rw[aJ rfl];rfl
   have j:=Step.add d.rel (f:=.rel "" false (Rv el (aA C el).length) [.var s.next,y,.int .i64 (.ofNat n)]) rfl ⟨_,ID a (bG d.grow _ _ p) rfl,⟨B.aO,B.dl,none⟩,n,cap,_,ds,rfl,hk⟩;exact⟨_,(h.trans d).trans j,eA a ⟨_,_,_,_,_,rfl⟩ rfl⟩
theorem Ci(o:Rel C base E s w)(p v:AV){c:Value}(f:ai E v=some c):∃A,Step C base E s w A (coV C p v s).2 w/\ai A (coV C p v s).1=some c:=by
 have same:∃A,Step C base E s w A (v,s).2 w/\ai A (v,s).1=some c:=⟨E,Step.refl o,f⟩;cases p<;>first|exact same|skip
 .rename_i q e;cases q<;>first|exact same|skip
  cases v<;>first|exact same|skip
  .rename_i b off n cp;cases off with
   |succ _=>exact same
   |zero=>have i:=f;simp only[ai,bk]at i;obtain⟨B,j,rfl⟩:=i;exact HR o j f
  .rename_i b pre e0 n a;cases e0 with
   |succ _=>exact same
   |zero=>
    unfold coV;simp only;cases r:(Nat.beq a (aA C _).length && !Nat.beq n 0)with
    |false=>exact same
    |true=>
     simp only[aM,im]at r;have u:n≠0:=by intro e;rw[e]at r;cases r.2
     simp only;have i:=f;simp only[ai,bk]at i;obtain⟨B,j,rfl⟩:=i;by_cases J:0<B.cp
     .have F:ai E (.qY b pre 0 n a)=some (.slice (some ⟨B.aO,B.dl,none⟩) n B.cp):=by
        simp only[ai,j,cM,aJ J,mr,iF,Nat.sub_zero]
      rw[aJ J,mr,iF,Nat.sub_zero];exact HR o j F
     .suffices e:∀t,HS C t b n n (.qY b pre 0 n a) s=(.qY b pre 0 n a,s) by rw[e];exact same
      intro t;unfold HS;cases x:AO C s b with
      |none=>rfl
      |some q=>
       obtain⟨el,y,m,g⟩:=q;simp only;cases G:Nat.beq el t&&uk n n m g with
       |false=>rfl
       |true=>
        exfalso;obtain⟨-,L⟩:=oe.1 G;obtain⟨I,Y, -⟩:=qU L;obtain⟨-,z, -⟩:=ue o x j;have M:B.cp=0:=by omega
        rw[M,mr]at z;have:n*g=0:=by omega
        rcases Nat.mul_eq_zero.1 this with h|h
        .exact u h
        .exact I h
  .have f:some (Value.slice none 0 0)=some c:=f;obtain rfl:=ae f;exact⟨E,Step.refl o,eA (d:=.sl (.slice none 0 0) _ _ []) rfl ⟨_,_,_,_,_,rfl⟩ rfl⟩
 cases v<;>first|exact same|skip
 .rename_i b off n cp;cases off with
  |succ _=>exact same
  |zero=>
   unfold coV;simp only;cases x:AO C s b with
   |none=>exact same
   |some q=>
    obtain⟨el,y,m,g⟩:=q;simp only;cases r:uk n cp m g with
    |false=>exact same
    |true=>obtain⟨I,Y,W⟩:=qU r;simp only[ai,bk]at f;obtain⟨B,j,rfl⟩:=f;obtain⟨k,z, -⟩:=ue o x j;refine⟨E,k,?_⟩;have D:cp<=B.cp:=FM (iG Y z) (uc I);simp only[ai,j,ax,bn];exact qT W D
 .rename_i b pre e0 n a;cases e0 with
  |succ _=>exact same
  |zero=>
   unfold coV;simp only;cases x:AO C s b with
   |none=>exact same
   |some q=>
    obtain⟨el,y,m,g⟩:=q;simp only;cases r:((Nat.beq a g && !Nat.beq n 0)&&uk n n m g)with
    |false=>exact same
    |true=>
     simp only[aM,im]at r;obtain⟨⟨N,K⟩,O⟩:=r;obtain rfl:=bj N;have u:n≠0:=by intro e;rw[e]at K;cases K
     obtain⟨I,Y,W⟩:=qU O;simp only[ai,bk]at f;obtain⟨B,j,rfl⟩:=f;obtain⟨k,z, -⟩:=ue o x j;have D:n<=B.cp:=FM (iG Y z) (uc I);have H:=Step.ghost k.rel (.val (.int .i64 (.ofNat B.cp))) (λ_=>rfl);refine⟨_,k.trans H,?_⟩;have P:b≠s.next:=gE (o.lt j);simp only[ai,cV];refine⟨B,?_,_,rfl,.val (.int .i64 (.ofNat B.cp)),?_,?_⟩
     .grind
     .show((if s.next=s.next then _ else _:Option Loc).bind λl=>l.v)=_;rw[aJ rfl];rfl
     .grind[qT]
theorem Step.cell (f:Rel C base E s w) {b:Nat} {e:TypeId} {cs:Tr AV} {k fz:Nat} {gU:List Nat} {st sg:Bool} (p:s.h.get b=some (.cells e cs k fz gU st sg)) {i:Nat} {v r:AV} (V:cs.get i=some v)
  (F:∀c,VR E v c->VR E r c):Step C base E s w E ⟨s.h.set b (.cells e (cs.set i r) k fz gU st sg),s.next,s.pc⟩ w:=by
 have a:∀j x,(s.h.set b (.cells e (cs.set i r) k fz gU st sg)).get j=some x->(j=b/\x=.cells e (cs.set i r) k fz gU st sg)\/(j≠b/\s.h.get j=some x):=by grind[Tr.bY]
 have g:∀k',Live E ⟨s.h.set b (.cells e (cs.set i r) k fz gU st sg),s.next,s.pc⟩ k'->Live E s k':=by
  rintro k' ⟨id,x,l,I,Y,W,U⟩;rcases a id x I with⟨rfl,rfl⟩|⟨_,Z⟩
  .exact⟨id,_,l,p,Y,W,U⟩
  .exact⟨id,x,l,Z,Y,W,U⟩
 refine Step.of ⟨Grow.refl E,⟨?_,?_,f.new,f.gm,?_,f.bs,f.pc,?_⟩,vp.refl _ _ _,λk' h _=>g k' h,bD _,λ_ _ h=>f.lt h,λ_ l h=>.inl ⟨l,h⟩,λid x I _=>?_⟩
 .intro j x Z;rcases a j x Z with⟨rfl,rfl⟩|⟨_,z⟩
  .obtain⟨l,o,I,Y,vs,lo,H,rfl,g1,g2,g3⟩:=f.aO j _ p;refine⟨l,_,I,Y,vs,lo,H,rfl,g1,λq u D A=>?_,g3⟩;rw[Tr.bY]at A;split at A
   .grind
   .exact g2 q u D A
  .exact f.aO j x z
 .intro j t x y l O I Y W U m n;rcases a j x I with⟨rfl,rfl⟩|⟨_,Z⟩
  .rcases a t y Y with⟨rfl,_⟩|⟨_,B⟩
   .exact absurd rfl m
   .rcases f.sep j t _ y l O p B W U m n with h|h
    .left;cases y<;>exact h
    .right;cases y<;>exact h
  .rcases a t y Y with⟨rfl,rfl⟩|⟨_,B⟩
   .rcases f.sep j t x _ l O Z p W U m n with h|h
    .left;cases x<;>exact h
    .right;cases x<;>exact h
   .exact f.sep j t x y l O Z B W U m n
 .intro j x l I Y W;rcases a j x I with⟨rfl,rfl⟩|⟨_,Z⟩
  .have:=f.low j (.cells e cs k fz gU st sg) l p Y W;exact this
  .exact f.low j x l Z Y W
 .exact f.rd' (bD _) (λ_ _ _=>rfl) (λk' _ h=>g k' h) (λid l d I Y=>⟨id,l,I,Y⟩)
 .grind
theorem PZ(f:Rel C base E s w)(j i:Nat)(p:AV):∃A,Step C base E s w A (SL C j i p s) w:=by
 unfold SL;cases y:s.h.get j with
 |none=>exact⟨E,Step.refl f⟩
 |some x=>
  cases x with
  |cells e cs n fz gU st sg=>
   simp only;cases z:cs.get i with
   |none=>exact⟨E,Step.refl f⟩
   |some v=>
    simp only;cases g:(!oZ v&&Nat.blt i n)with
    |false=>exact⟨E,Step.refl f⟩
    |true=>
     simp only[aM,im]at g;have l:i<n:=by simpa[Nat.blt_eq]using g.2
     obtain⟨B,o,I,Y,vs,lo,H,rfl,g1,g2,g3⟩:=f.aO j _ y;obtain⟨c,D,d⟩:=g2 i v l z;have r:ai E v=some c:=d.resolve_left λe=>by rw[e]at g;cases g.1
     obtain⟨A,a,b⟩:=Ci f p v r;revert a b;obtain⟨N,F⟩:=coV C p v s;intro a b;simp only at a b ⊢;unfold a5Z;cases m:F.h.get j with
     |none=>exact⟨A,a⟩
     |some G=>
      cases G with
      |cells e2 q J fz2 t K L=>
       simp only;cases M:q.get i with
       |none=>exact⟨A,a⟩
       |some u=>
        simp only;cases k:(gx u v&&Nat.blt i J)with
        |false=>exact⟨A,a⟩
        |true=>
         simp only[aM]at k;obtain rfl:=ij _ _ k.1;refine⟨A,a.trans (Step.cell a.rel m M λc2 d=>?_)⟩;have e1:ai A u=some c2:=d.resolve_left λe=>by rw[e]at g;cases g.1
         have e2:=gL a.grow _ _ r;obtain rfl:=WZ e1 e2;exact .inr b
      |_=>exact⟨A,a⟩
  |_=>exact⟨E,Step.refl f⟩
end
theorem uZ{C:Ctx}{base:Nat}{w:World}(j:Nat):∀(l:List AV)(i:Nat){E:G}{s:S},Rel C base E s w->∃A,Step C base E s w A (Ck C j l i s) w
 | [],_,E,_,a=>⟨E,Step.refl a⟩
 |p::l,i,E,s,a=>by
  unfold Ck;cases KR p with
  |false=>exact uZ j l (i+1) a
  |true=>obtain⟨c,I⟩:=PZ a j i p;obtain⟨b,Y⟩:=uZ j l (i+1) I.rel;exact⟨b,I.trans Y⟩
theorem Kl{C:Ctx}{base:Nat}{w:World}(rl:List (Nat×Nat)):∀(l:List (Nat×CB)){E:G}{s:S},Rel C base E s w->∃A,Step C base E s w A (a4y C rl l s) w
 | [],E,_,a=>⟨E,Step.refl a⟩
 |x::l,E,s,a=>by
  have I:∃b,Step C base E s w b (coB C rl x s) w:=by
   unfold coB;cases a8C x.2 with
   |false=>exact⟨E,Step.refl a⟩
   |true=>
   simp only;cases nP x.1 rl with
   |none=>exact⟨E,Step.refl a⟩
   |some j=>
    simp only;cases x.2 with
    |cells e cs fz st sg=>exact uZ j cs 0 a
    |_=>exact⟨E,Step.refl a⟩
  obtain⟨b,I⟩:=I;obtain⟨c,Y⟩:=Kl rl l I.rel;exact⟨c,I.trans Y⟩
theorem Cj{C:Ctx}{base:Nat}{w:World}{nt:Nat}{a:Array Value}:∀(l:List (Nat×AV)){E:G}{s:S}{t:Tr AV},Rel C base E s w->aW E nt t a->
  ∃A,Step C base E s w A (coT C l t s).2 w/\aW A nt (coT C l t s).1 a
 | [],E,_,_,i,h=>⟨E,Step.refl i,h⟩
 |x::l,E,s,t,i,h=>by
  unfold coT;cases r:t.get x.1 with
  |none=>exact Cj l i h
  |some v=>
   simp only;cases q:oZ v with
   |true=>exact Cj l i h
   |false=>
    obtain⟨j,c,k,m⟩:=h.2.1 x.1 v r;have y:ai E v=some c:=m.resolve_left λe=>by rw[e]at q;cases q
    obtain⟨A,b,f⟩:=Ci i x.2 v y;revert b f;obtain⟨z,F⟩:=coV C x.2 v s;intro b f;simp only at b f ⊢;have n:aW A nt (t.set x.1 z) a:=by
     have o:=h.grow b.grow;refine⟨o.1,λd u g=>?_,λd g=>?_⟩
     .rw[Tr.bY]at g;split at g
      .next e=>
       subst e;obtain rfl:=ae g;exact⟨j,c,k,.inr f⟩
      .exact o.2.1 d u g
     .rw[Tr.bY]at g;split at g
      .cases g
      .exact o.2.2 d g
    obtain⟨p,I,Y⟩:=Cj l b.rel n;exact⟨p,b.trans I,Y⟩
section
variable{C:Ctx}{base:Nat}{E:G}{s:S}{w:World}
theorem Ro(g:Rel C base E s w)(t b:Nat)(n c:SE){i:Value}(p:ai E (.iI b n c)=some i):(a0H C s t b n (.iI b n c)).path (λr=>∃A,Step C base E s w A r.2 w/\ai A r.1=some i):=by
 have same:(R.ok (AV.iI b n c,s)).path (λr=>∃A,Step C base E s w A r.2 w/\ai A r.1=some i):=⟨E,Step.refl g,p⟩;unfold a0H;cases u:s.h.get b with
 |none=>exact same
 |some x=>
  cases x<;>first|exact same|skip
  rename_i el e;simp only;cases z:Nat.beq el t with
  |false=>exact same
  |true=>
   obtain rfl:=bj z;obtain⟨B,k,q,D,y,G,F,K,rfl⟩:=ja p;obtain⟨O,o,I,Y,vs,lo,H,J,rfl,g1, -⟩:=g.aO b _ u;refine R.gb g λj=>?_
   have hk:k*lf C el<=J.length:=by
    rcases EY (k*lf C el<=J.length)with h|h
    .exact h
    .exact absurd ⟨_,_,_,rfl,λhh=>h hh.2⟩ (j6 j (A5 g1 y))
   have a:=Step.Xh g u D g1 hk (q:=q);have d:ax (λid=>if id=s.next then some ⟨w.heap.size,0,0,some (.sl (.slice (some ⟨B.aO,B.dl,none⟩) k q) el (lf C el) (J.take (k*lf C el)))⟩else E id) (.var s.next)=some (.sl (.slice (some ⟨B.aO,B.dl,none⟩) k q) el (lf C el) (J.take (k*lf C el))):=by show((if s.next=s.next then _ else _:Option Loc).bind λl=>l.v)=_;rw[aJ rfl];rfl
   have m:=Step.add a.rel (f:=.rel "" false (Rv el (aA C el).length) [.var s.next,e,n]) rfl ⟨_,ID d (bG a.grow _ _ g1) (bG a.grow _ _ y),⟨B.aO,B.dl,none⟩,k,q,_,J,rfl,hk⟩;exact⟨_,a.trans m,eA d ⟨_,_,_,_,_,rfl⟩ rfl⟩
theorem dn(b:Rel C base E s w)(p v:AV){c:Value}(a:ai E v=some c):(a34 C s p v).path (λr=>∃A,Step C base E s w A r.2 w/\ai A r.1=some c):=by
 have same:(R.ok (v,s)).path (λr=>∃A,Step C base E s w A r.2 w/\ai A r.1=some c):=⟨E,Step.refl b,a⟩;unfold a34;cases p<;>first|exact same|skip
 rename_i q _;cases q<;>first|exact same|skip
 cases v<;>first|exact same|skip
 .exact Ci b _ _ a
 .exact Ci b _ _ a
 .have a:some (Value.slice none 0 0)=some c:=a;obtain rfl:=ae a;exact⟨E,Step.refl b,eA (d:=.sl (.slice none 0 0) _ _ []) rfl ⟨_,_,_,_,_,rfl⟩ rfl⟩
 .exact Ro b _ _ _ _ a
end
theorem xq{C:Ctx}{base:Nat}{w:World}{nt:Nat}{a:Array Value}:∀(l:List (Nat×AV)){E:G}{s:S}{t:Tr AV},Rel C base E s w->aW E nt t a->
  (WK C l t s).path (λr=>∃A,Step C base E s w A r.2 w/\aW A nt r.1 a)
 | [],E,_,_,h,g=>⟨E,Step.refl h,g⟩
 |x::l,E,s,t,h,g=>by
  unfold WK;cases z:t.get x.1 with
  |none=>exact xq l h g
  |some v=>
   simp only;cases y:Tl x.2 v with
   |false=>exact xq l h g
   |true=>
    obtain⟨i,c,j,k⟩:=g.2.1 x.1 v z;have B:ai E v=some c:=k.resolve_left λe=>by rw[e]at y;cases y
    refine R.pb _ (dn h x.2 v B) λr⟨A,f,m⟩=>?_
    have n:aW A nt (t.set x.1 r.1) a:=by
     have o:=g.grow f.grow;refine⟨o.1,λd u b=>?_,λd b=>?_⟩
     .rw[Tr.bY]at b;split at b
      .next e=>
       subst e;obtain rfl:=ae b;exact⟨i,c,j,.inr m⟩
      .exact o.2.1 d u b
     .rw[Tr.bY]at b;split at b
      .cases b
      .exact o.2.2 d b
    exact R.aZ (λq⟨p,Y,W⟩=>⟨p,f.trans Y,W⟩) (xq l f.rel n)
mutual
theorem JM{C:Ctx}{base:Nat}{w:World}:∀(p v:AV){E:G}{s:S}{h:Value},Rel C base E s w->ai E v=some h->(a33 C p v s).path (λr=>∃A,Step C base E s w A r.2 w/\ai A r.1=some h)
 | .agg l,v,E,s,h,g,d=>by
   have same:(R.ok (v,s)).path (λr=>∃A,Step C base E s w A r.2 w/\ai A r.1=some h):=⟨E,Step.refl g,d⟩;cases v<;>first|exact same|skip
   rename_i O;simp only[ai,bk]at d;obtain⟨m,I,rfl⟩:=d;show((WL C l O s).bind _).path _;refine R.pb _ (CS l O g I) λr j=>?_
   obtain⟨A,g1,g2⟩:=j;exact⟨A,g1,by simp only[ai,g2,cM]⟩
 | .ji l,v,E,s,h,g,d=>by
   have same:(R.ok (v,s)).path (λr=>∃A,Step C base E s w A r.2 w/\ai A r.1=some h):=⟨E,Step.refl g,d⟩;cases v<;>first|exact same|skip
   rename_i O;simp only[ai,bk]at d;obtain⟨m,I,rfl⟩:=d;show((WL C l O s).bind _).path _;refine R.pb _ (CS l O g I) λr j=>?_
   obtain⟨A,g1,g2⟩:=j;exact⟨A,g1,by simp only[ai,g2,cM]⟩
 | .int k n,v,_,_,_,g,d=>dn g (.int k n) v d
 | .bool b,v,_,_,_,g,d=>dn g (.bool b) v d
 | .str l,v,_,_,_,g,d=>dn g (.str l) v d
 | .ptr b o,v,_,_,_,g,d=>dn g (.ptr b o) v d
 | .uH,v,_,_,_,g,d=>dn g (.uH) v d
 | .sl b o n c,v,_,_,_,g,d=>dn g (.sl b o n c) v d
 | .qY b p e n z,v,_,_,_,g,d=>dn g (.qY b p e n z) v d
 | .dq,v,_,_,_,g,d=>dn g (.dq) v d
 | .qf r,v,_,_,_,g,d=>dn g (.qf r) v d
 | .ko,v,_,_,_,g,d=>dn g (.ko) v d
 | .fn f a b,v,_,_,_,g,d=>dn g (.fn f a b) v d
 | .yield l,v,_,_,_,g,d=>dn g (.yield l) v d
 | .vd,v,_,_,_,g,d=>dn g (.vd) v d
 | .iface u x,v,_,_,_,g,d=>dn g (.iface u x) v d
 | .qc,v,_,_,_,g,d=>dn g (.qc) v d
 | .fO,v,_,_,_,g,d=>dn g (.fO) v d
 | .raw x,v,_,_,_,g,d=>dn g (.raw x) v d
 | .cE k e,v,_,_,_,g,d=>dn g (.cE k e) v d
 | .iI b n c,v,_,_,_,g,d=>dn g (.iI b n c) v d
 | .jn b i z k,v,_,_,_,g,d=>dn g (.jn b i z k) v d
theorem CS{C:Ctx}{base:Nat}{w:World}:∀(l O:List AV){E:G}{s:S}{c:List Value},Rel C base E s w->aN E O=some c->(WL C l O s).path (λr=>∃A,Step C base E s w A r.2 w/\aN A r.1=some c)
 | [],O,E,s,c,d,e=>⟨E,Step.refl d,e⟩
 |p::l,[],E,s,c,d,e=>⟨E,Step.refl d,e⟩
 |p::l,v::O,E,s,c,d,e=>by
  obtain⟨a,b,I,Y,rfl⟩:=aL.1 e;show((a33 C p v s).bind _).path _;refine R.pb _ (JM p v d I) λr h=>?_
  obtain⟨i,g1,g2⟩:=h;refine R.pb _ (CS l O g1.rel (mL g1.grow _ _ Y)) λq j=>?_
  obtain⟨f,g,k⟩:=j;exact⟨f,g1.trans g,aL.2 ⟨a,b,gL g.grow _ _ g2,k,rfl⟩⟩
end
end Go.Proofs.YtokipodjggomfaaGreatDoor.Abs
