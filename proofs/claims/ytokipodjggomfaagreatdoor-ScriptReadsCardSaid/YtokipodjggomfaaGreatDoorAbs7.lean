/- Part 7 of an abstract machine that evaluates programs of the model in the kernel. Conditions: those of each theorem. -/
import Derived.Test.YtokipodjggomfaaGreatDoorAbs6
import Derived.ProofKit
import Derived.HandedShaped
import Derived.Lay
import Derived.LaidMore
import Derived.Stop.Joined
import Derived.ChangeArms
import Derived.DataReads
import Derived.ChangeBook
import Derived.ChangeStays
import Derived.ChangeShapes
import Derived.WideShapes
import Derived.SevenTiedAt
noncomputable section
set_option linter.unusedVariables false
set_option linter.unusedSimpArgs false
namespace Go.Proofs.YtokipodjggomfaaGreatDoor.Abs
def Ap:List PI->Prop
 | []=>True
 |p::l=>match p with
  | .on _=>Ap l
  | .act _=>True
  |_=>False
def jw:List PI->Option Nat
 | []=>none
 |p::l=>match p with
  | .on _=>jw l
  | .act a=>some a
  |_=>none
theorem kv(nt:Nat)(t:Tr AV){dst:Option Tmp}(v:AV){d:Nat}(h:dst≠some d):(put nt t dst v).get d=t.get d:=by
 cases dst with
 |none=>rfl
 |some e=>
  rw[pR];split
  .grind[Tr.get_set_other]
  .rfl
theorem Bi(nt:Nat)(t:Tr AV){dst:Option Tmp}(v:AV){d:Nat}(h:dst=some d)(a:d<nt):(put nt t dst v).get d=some v:=by grind[pR,Tr.get_set_same]
theorem Cq{x:PO}:∀{l:List PO},Cr x l=true->∀y∈l,iC x.dst (Nat.lor y.look y.dst)=true/\(has x.before y.i=true\/iC x.look y.dst=true)
 | [],_,y,a=>by cases a
 |z::l,h,y,a=>by
  unfold Cr at h;cases b:(iC x.dst (Nat.lor z.look z.dst)&&(has x.before z.i||iC x.look z.dst))with
  |false=>rw[b]at h;cases h
  |true=>
   rw[b]at h;cases a with
   |head=>simpa using b
   |tail _ a=>exact Cq h y a
theorem yZ{x:PO}:∀{l:List PO},wN x l=true->∀y∈l,has x.before y.i=true\/(iC x.dst (Nat.lor y.look y.dst)=true/\iC x.look y.dst=true)
 | [],_,y,a=>by cases a
 |z::l,h,y,a=>by
  unfold wN at h;cases b:(has x.before z.i||(iC x.dst (Nat.lor z.look z.dst)&&iC x.look z.dst))with
  |false=>rw[b]at h;cases h
  |true=>
   rw[b]at h;cases a with
   |head=>simpa using b
   |tail _ a=>exact yZ h y a
theorem Kt{a b c:Nat}(h:iC a (Nat.lor b c)=true):(∀d,has a d=true->has b d=true->False)/\∀d,has a d=true->has c d=true->False:=
 ⟨λd I Y=>tK h d I (by rw[gD,Y];rfl),λd I Y=>tK h d I (by rw[gD,Y];simp)⟩
theorem a0R{ops:Array Oper}{o:Oper}{C:Ctx}{t Q:Tr AV}{s:S}(h:∀d,has (mh ops.toList o) d=true->t.get d=Q.get d):UQ ops o C t s=UQ ops o C Q s:=by
 unfold UQ;rw[kl ops o (Q:=Q) λd a=>h d (iU a)];congr 1;funext b;cases b with
 |false=>rfl
 |true=>show evQ o C t s=evQ o C Q s;unfold evQ;rw[MA o.op o.type s (Q:=Q) λd a=>h d (qg a)]
theorem R.Bs {α j:Type} {Q:j->Prop} {r:R α} {f:α->R j} (h:∀a,r=.ok a->(f a).path Q):((R.Cy r).bind f).path Q:=by
 cases r with
 |ok a=>exact h a rfl
 |bad w=>trivial
 |ask n k=>trivial
 |must pc k=>trivial
theorem Le{nt:Nat}{t:Tr AV}{dst:Option Tmp}{v:AV}(h:j5 nt t dst v=true):∀d,dst=some d->d<nt->t.get d=some v:=by
 intro d c a;subst c;unfold j5 at h;have e:Nat.blt d nt=true:=w4 a;simp only[e]at h;cases b:t.get d with
 |none=>simp[b]at h
 |some u=>simp only[b]at h;rw[ij u v h]
theorem uF(ops:Array Oper)(i:Nat):nth ops.toList i=ops[i]? :=by rw[wg];simp
theorem Rf{o:Op}(h:lk o=.ev):rn o=true:=by grind[lk,rn]
theorem Rg{o:Op}(h:lk o=.al):Ej o=true:=by grind[lk,rn,Ej]
section
variable{X:DC}{D:Ia}{Ld:List Nat}{pe:vb}{t:Tr AV}{ds:List jh}{ctx:Option (List PE)}{s:S}{E:G}{w:World}{tm:Array Value}{ck:List Deferred}{cs:List Frame}{i:Nat}
theorem tc{x:PO}(h:ZR D x=true):has D.done x.i=false/\(∀k,has x.before k=true->has D.done k=true)/\(∀k,has D.acts k=true->has x.before k=true)/\D.run=0/\iC x.dst x.look=true/\Cr x D.fl=true:=by grind[ZR,Tz,wL]
theorem qa{x:PO}(h:ZS D x=true):has D.done x.i=false/\(∀k,has x.before k=true->has D.done k=true)/\(∀k,has D.acts k=true->has x.before k=true)/\(∀k,has D.run k=true->has x.before k=true)/\D.gV=0/\wN x D.fl=true:=by grind[ZS,Tz,wL]
structure Cv(X:DC)(D:Ia)(t:Tr AV)(x:PO)(o:Oper)(i:Nat):Prop where
 ho:X.ops[i]? =some o
 xi:x.i=i
 xl:x.look=mh X.ops.toList o
 xd:x.dst=HF o
 new:has D.done i=false
 self:∀d,o.dst=some d->has x.look d=true->False
 p0:∀y,y∈D.fl->(∀d,o.dst=some d->has y.look d=true->False)/\(∀d,o.dst=some d->has y.dst d=true->False)/\(has x.before y.i=true\/∀d,has x.look d=true->has y.dst d=true->False)
theorem a5T(a:lQ X.ops X.all){x:PO}(Z:dR X.all i=some x)(h:ZR D x=true):∃o,Cv X D t x o i/\x.kind=lk o.op:=by
 obtain⟨o,ho,I,Y,W,U⟩:=a i x Z;obtain⟨g1,g2,g3,g4,g5,g6⟩:=tc h;have b:∀d,o.dst=some d->has x.dst d=true:=λd b=>by rw[W];exact qt b
 refine⟨o,⟨ho,I,Y,W,I▸g1,λd e1 e2=>tK g5 d (b d e1) e2,λy c=>?_⟩,U⟩;obtain⟨e,f⟩:=Cq g6 y c;obtain⟨g,j⟩:=Kt e;exact⟨λd e1 e2=>g d (b d e1) e2,λd e1 e2=>j d (b d e1) e2,f.imp id λq d e1 e2=>tK q d e1 e2⟩
theorem Cv.keeps {x:PO} {o:Oper} (c:Cv X D t x o i) (a:lQ X.ops X.all) {y:PO} (e:y∈D.fl) {k:Nat} (hk:dR X.all k=some y) (v:AV) {T:Oper} (b:X.ops[k]? =some T):
  (∀d,has (mh X.ops.toList T) d=true->t.get d=(put X.fi.nt t o.dst v).get d)/\∀d,T.dst=some d->t.get d=(put X.fi.nt t o.dst v).get d:=by
 obtain⟨g,r2,h,j⟩:=CO a hk b;obtain⟨l,m,n⟩:=c.p0 y e;refine⟨λd f=>?_,λd f=>?_⟩
 .grind[kv]
 .grind[kv,qt]
theorem Cv.pw {x:PO} {o:Oper} (k:Cv X D t x o i) (h:∀a b,a∈D.fl->b∈D.fl->has a.before b.i=true\/∀d,has a.look d=true->has b.dst d=true->False):
  ∀a b,a∈x::D.fl->b∈x::D.fl->has a.before b.i=true\/∀d,has a.look d=true->has b.dst d=true->False:=by
 have g:∀d,has x.dst d=true->o.dst=some d:=λd c=>by
  rw[k.xd]at c;unfold HF at c;cases m:o.dst with
  |none=>rw[m]at c;simp only[tp]at c;cases c
  |some e=>rw[m]at c;simp only[ka,rC]at c;rw[c]
 intro a b q n;rcases cC.1 q with p|j
 .rcases cC.1 n with l|f
  .subst p;subst l;exact .inr λd I Y=>k.self d (g d Y) I
  .subst p;exact(k.p0 b f).2.2
 .rcases cC.1 n with l|f
  .subst l;exact .inr λd I Y=>(k.p0 a j).1 d (g d Y) I
  .exact h a b j f
theorem gQ.a0Q (e:lQ X.ops X.all) (h:gQ X D Ld pe t ds ctx s E w tm ck cs) {x:PO} (Z:dR X.all i=some x) {o:Oper} (c:Cv X D t x o i) (hk:rn o.op=true) (l:PS.ev i o∈X.lp) (v:AV):
  gQ X ⟨Nat.lor D.done (bit i),D.acts,Nat.lor D.zT (bit i),D.Cz,D.OV,D.gV,0,D.last,x::D.fl⟩ Ld pe (put X.fi.nt t o.dst v) ds ctx s E w tm ck cs:=by
 have b:=c.new;have m:i ∉ Ld:=λr=>by rw[h.Sx i r]at b;cases b
 refine⟨h.step,h.ro,h.ds,h.ctx,h.cs,?_,h.sL,?_,?_,?_,?_,?_,?_,c.pw h.pw,h.r6,?_,?_,h.nM,h.ids,h.Gc,h.Xk,?_,h.al2⟩
 .intro k hk;rw[aI];exact .inl (h.Sx k hk)
 .intro k hk;rw[aI]at hk;rcases hk with hk|rfl
  .rcases h.kinds k hk with g|g|g
   .exact .inl g
   .grind[aI]
   .exact .inr (.inr g)
  .grind[aI]
 .intro k hk;rw[aI]at hk ⊢;exact hk.imp (h.B5 k) id
 .intro k hk;rw[aI];exact .inl (h.xY k hk)
 .intro k hk q;rw[aI]at hk;rcases hk with hk|rfl
  .exact h.two k hk q
  .rw[h.xY k q]at b;cases b
 .intro k hk;rw[aI]at hk;rcases hk with(hk|rfl)|hk
  .obtain⟨y,f,j⟩:=h.fl k (.inl hk);exact⟨y,bQ _ f,j⟩
  .exact⟨x,by simp,Z⟩
  .obtain⟨y,f,j⟩:=h.fl k (.inr hk);exact⟨y,bQ _ f,j⟩
 .intro k a;rw[aI]at a;rcases a with a|rfl
  .exact h.evc k a
  .exact⟨o,c.ho,hk⟩
 .refine h.tm.a65 o.dst v ?_ ?_
  .rintro d ⟨k,T,I,Y⟩;exact⟨k,T,I.imp (λg=>(aI _ _ _).2 (.inl g)) id,Y⟩
  .intro d u;exact⟨i,o,.inl ((aI _ _ _).2 (.inr rfl)),m,c.ho,u⟩
 .intro k a;rw[aI]at a;rcases a with(a|rfl)|a
  .exact h.Rk k (.inl a)
  .exact⟨o,c.ho,.inl l⟩
  .exact h.Rk k (.inr a)
 .intro k a n;obtain⟨y,f,j⟩:=h.fl k (.inr a);exact(h.al1 k a n).step (Step.refl h.step.rel) λT p=>c.keeps e f j v p
theorem tO.a0Q (c:lQ X.ops X.all) (h:gQ X D Ld pe t ds ctx s E w tm ck cs) (q:tO X D Ld t s) {x:PO} {o:Oper} (l:Cv X D t x o i) (hk:rn o.op=true) {v:AV} (r:UQ X.ops o X.C t s=.ok v):
  tO X ⟨Nat.lor D.done (bit i),D.acts,Nat.lor D.zT (bit i),D.Cz,D.OV,D.gV,0,D.last,x::D.fl⟩ Ld (put X.fi.nt t o.dst v) s:=by
 intro k f m n;rw[aI]at f;by_cases g:k=i
 .subst g;refine⟨o,v,l.ho,hk,?_,λd b a=>Bi _ _ _ b a⟩;rw[<-a0R (t:=t),r];intro d b;rw[kv];intro e;exact l.self d e (by rw[l.xl];exact b)
 .have j:=f.resolve_right g;obtain⟨T,u,p,z,A,B⟩:=q k j m n;obtain⟨y,F,G⟩:=h.fl k (.inl j);obtain⟨H,z2⟩:=l.keeps c F G v p;refine⟨T,u,p,z,?_,λd b a=>by rw[<-z2 d b];exact B d b a⟩;rw[<-a0R (t:=t) H];exact A
end
section
variable{X:DC}{D Vr:Ia}{Ld:List Nat}{pe:vb}{t:Tr AV}{ds:List jh}{ctx:Option (List PE)}{s:S}{E:G}{w:World}{tm:Array Value}{ck:List Deferred}{cs:List Frame}{i:Nat}
theorem gQ.mask (h:gQ X D Ld pe t ds ctx s E w tm ck cs) (st run:Nat):gQ X ⟨D.done,D.acts,D.zT,D.Cz,D.OV,st,run,D.last,D.fl⟩ Ld pe t ds ctx s E w tm ck cs:=
 ⟨h.step,h.ro,h.ds,h.ctx,h.cs,h.Sx,h.sL,h.kinds,h.B5,h.xY,h.two,h.fl,h.evc,h.pw,h.r6,h.tm,h.Rk,h.nM,h.ids,h.Gc,h.Xk,h.al1,h.al2⟩
theorem uz(k i id:Nat)(b:gn)(pe:vb):dW k ((i,(id,b))::pe)=if i=k then some (id,b)else dW k pe:=by
 show(match Nat.beq i k with|true=>some (id,b)|false=>dW k pe)=_;by_cases h:i=k
 .subst h;simp
 .have:Nat.beq i k=false:=by
    cases a:Nat.beq i k with
    |false=>rfl
    |true=>exact absurd (bj a) h
  simp[this,h]
theorem Step.more {C:Ctx} {base:Nat} {Qo E:G} {s0 s:S} {w0 w:World} (h:Step C base Qo s0 w0 E s w):Step C base Qo s0 w0 E ⟨s.h,s.next+1,s.pc⟩ w:=
 ⟨h.grow,h.rel.more,h.keep,λk⟨id,b,l,q⟩hk=>h.live k ⟨id,b,l,q⟩ hk,Nat.le_succ_of_le h.next,h.Xi,h.Se,h.p0,h.rdz⟩
theorem gQ.a9c (m:lQ X.ops X.all) (h:gQ X D Ld pe t ds ctx s E w tm ck cs) {x:PO} (Z:dR X.all i=some x) {o:Oper} (f:Cv X D t x o i) (hk:Ej o.op=true) (A:PS.al i o∈X.lp)
  (J:eo X.ops o.guard t=.ok false) (st:Nat):
  gQ X ⟨Nat.lor D.done (bit i),D.acts,D.zT,Nat.lor D.Cz (bit i),D.OV,st,0,D.last,x::D.fl⟩ Ld pe (put X.fi.nt t o.dst iK) ds ctx s E w tm ck cs:=by
 have c:=f.new;have n:i ∉ Ld:=λK=>by rw[h.Sx i K]at c;cases c
 refine⟨h.step,h.ro,h.ds,h.ctx,h.cs,?_,h.sL,?_,?_,?_,?_,?_,h.evc,f.pw h.pw,h.r6,?_,?_,?_,h.ids,h.Gc,h.Xk,?_,?_⟩
 .intro k hk;rw[aI];exact .inl (h.Sx k hk)
 .intro k hk;rw[aI]at hk;rcases hk with hk|rfl
  .rcases h.kinds k hk with g|g|g
   .exact .inl g
   .exact .inr (.inl g)
   .grind[aI]
  .grind[aI]
 .intro k hk;rw[aI];exact .inl (h.B5 k hk)
 .intro k hk;rw[aI]at hk ⊢;exact hk.imp (h.xY k) id
 .intro k hk z;rw[aI]at z;rcases z with z|rfl
  .exact h.two k hk z
  .rw[h.B5 k hk]at c;cases c
 .intro k hk;rw[aI]at hk;rcases hk with hk|(hk|rfl)
  .obtain⟨y,j,l⟩:=h.fl k (.inl hk);exact⟨y,bQ _ j,l⟩
  .obtain⟨y,j,l⟩:=h.fl k (.inr hk);exact⟨y,bQ _ j,l⟩
  .exact⟨x,by simp,Z⟩
 .refine h.tm.a65 o.dst iK ?_ ?_
  .rintro d ⟨k,T,I,Y⟩;exact⟨k,T,I.imp id (λg=>(aI _ _ _).2 (.inl g)),Y⟩
  .intro d q;exact⟨i,o,.inr ((aI _ _ _).2 (.inr rfl)),n,f.ho,q⟩
 .intro k a;rw[aI]at a;rcases a with a|(a|rfl)
  .exact h.Rk k (.inl a)
  .exact h.Rk k (.inr a)
  .exact⟨o,f.ho,.inr A⟩
 .intro k id b B;obtain⟨j,l⟩:=h.nM k id b B;exact⟨(aI _ _ _).2 (.inl j),l⟩
 .intro k a C;rw[aI]at a;by_cases r:k=i
  .subst r;refine⟨o,f.ho,hk,.inl ⟨?_,?_,λd q F=>Bi _ _ _ q F⟩⟩
   .rw[<-kl X.ops o (t:=t),J];intro d q;rw[kv];intro e;exact f.self d e (by rw[f.xl];exact iU q)
   .cases B:dW k pe with
    |none=>rfl
    |some p=>obtain⟨id,b⟩:=p;rw[h.xY k (h.nM k id b B).1]at c;cases c
  .have u:=a.resolve_right r;obtain⟨y,j,l⟩:=h.fl k (.inr u);exact(h.al1 k u C).step (Step.refl h.step.rel) λT G=>f.keeps m j l _ G
 .intro k a v H;rw[aI]at a;rcases a with a|rfl
  .exact h.al2 k a v H
  .exact absurd v n
theorem gQ.a9b (M:lQ X.ops X.all) (h:gQ X D Ld pe t ds ctx s E w tm ck cs) {x:PO} (Z:dR X.all i=some x) {o:Oper} (B:Cv X D t x o i) (hk:Ej o.op=true) (S:PS.al i o∈X.lp)
  (hw:eo X.ops o.guard t=.ok true) {P:AK} {aO:gn} (ha:aF o.op X.C t=.ok (P,aO)) (st:Nat):
  gQ X ⟨Nat.lor D.done (bit i),D.acts,D.zT,Nat.lor D.Cz (bit i),D.OV,st,0,D.last,x::D.fl⟩ Ld ((i,(s.next,aO))::pe) (put X.fi.nt t o.dst (Z3 P s.next)) ds ctx ⟨s.h,Nat.add s.next 1,s.pc⟩ E w tm ck cs:=by
 have j:=B.new;have F:i ∉ Ld:=λhm=>by rw[h.Sx i hm]at j;cases j
 have q:E s.next=none:=h.step.rel.new s.next (bD _);have hpi:dW i pe=none:=by
  cases m:dW i pe with
  |none=>rfl
  |some p=>obtain⟨id,b⟩:=p;rw[h.xY i (h.nM i id b m).1]at j;cases j
 have a:∀k id b,dW k ((i,(s.next,aO))::pe)=some (id,b)->(k=i/\id=s.next/\b=aO)\/(k≠i/\dW k pe=some (id,b)):=by grind[uz,e1,e2]
 have U:∀d,has (mh X.ops.toList o) d=true->t.get d=(put X.fi.nt t o.dst (Z3 P s.next)).get d:=by intro d G;rw[kv];intro e;exact B.self d e (by rw[B.xl];exact G)
 refine⟨h.step.more,h.ro,h.ds,h.ctx,h.cs,?_,h.sL,?_,?_,?_,?_,?_,h.evc,B.pw h.pw,h.r6,?_,?_,?_,?_,?_,?_,?_,?_⟩
 .intro k hk;rw[aI];exact .inl (h.Sx k hk)
 .intro k hk;rw[aI]at hk;rcases hk with hk|rfl
  .rcases h.kinds k hk with g|g|g
   .exact .inl g
   .exact .inr (.inl g)
   .grind[aI]
  .grind[aI]
 .intro k hk;rw[aI];exact .inl (h.B5 k hk)
 .intro k hk;rw[aI]at hk ⊢;exact hk.imp (h.xY k) id
 .intro k hk v;rw[aI]at v;rcases v with v|rfl
  .exact h.two k hk v
  .rw[h.B5 k hk]at j;cases j
 .intro k hk;rw[aI]at hk;rcases hk with hk|(hk|rfl)
  .obtain⟨y,n,z⟩:=h.fl k (.inl hk);exact⟨y,bQ _ n,z⟩
  .obtain⟨y,n,z⟩:=h.fl k (.inr hk);exact⟨y,bQ _ n,z⟩
  .exact⟨x,by simp,Z⟩
 .refine h.tm.a65 o.dst _ ?_ ?_
  .rintro d ⟨k,T,I,Y⟩;exact⟨k,T,I.imp id (λg=>(aI _ _ _).2 (.inl g)),Y⟩
  .intro d G;exact⟨i,o,.inr ((aI _ _ _).2 (.inr rfl)),F,B.ho,G⟩
 .intro k c;rw[aI]at c;rcases c with c|(c|rfl)
  .exact h.Rk k (.inl c)
  .exact h.Rk k (.inr c)
  .exact⟨o,B.ho,.inr S⟩
 .intro k id b m;rcases a k id b m with⟨rfl,rfl,rfl⟩|⟨_,m⟩
  .grind[aI]
  .obtain⟨n,z⟩:=h.nM k id b m;exact⟨(aI _ _ _).2 (.inl n),Nat.lt_succ_of_lt z⟩
 .intro k k' id b N m A;rcases a k id b m with⟨rfl,rfl,rfl⟩|⟨_,f⟩
  .rcases a k' _ N A with⟨rfl,_,_⟩|⟨_,r⟩
   .rfl
   .exact absurd (h.nM k' _ N r).2 (Nat.lt_irrefl _)
  .rcases a k' id N A with⟨rfl,rfl,rfl⟩|⟨_,r⟩
   .exact absurd (h.nM k _ b f).2 (Nat.lt_irrefl _)
   .exact h.ids k k' id b N f r
 .intro k k' id u b N l O m A V H J;rcases a k id b m with⟨rfl,rfl,rfl⟩|⟨_,f⟩
  .rw[q]at H;cases H
  .rcases a k' u N A with⟨rfl,rfl,rfl⟩|⟨_,r⟩
   .rw[q]at J;cases J
   .exact h.Gc k k' id u b N l O f r V H J
 .intro k id b l m H;rcases a k id b m with⟨rfl,rfl,rfl⟩|⟨_,f⟩
  .rw[q]at H;cases H
  .exact h.Xk k id b l f H
 .intro k c W;rw[aI]at c;by_cases K:k=i
  .subst K;refine⟨o,B.ho,hk,.inr ⟨?_,P,aO,s.next,?_,by rw[uz,aJ rfl],λd G Pv=>Bi _ _ _ G Pv,q,Nat.lt_succ_self _,?_,h.step.next⟩⟩
   .grind[kl,iU]
   .rw[<-a1U o.op (t:=t),ha];exactλd G=>U d (qg G)
   .cases hb:s.h.get s.next with
    |none=>rfl
    |some b=>obtain⟨l,T,n,_⟩:=h.step.rel.aO _ b hb;rw[q]at n;cases n
  .have R:=c.resolve_right K;obtain⟨y,n,z⟩:=h.fl k (.inr R);obtain⟨T,q3,q4,q5⟩:=(h.al1 k R W).step (Q:=put X.fi.nt t o.dst (Z3 P s.next)) (Step.refl h.step.rel) λT ho'=>B.keeps M n z _ ho'
   refine⟨T,q3,q4,?_⟩;have hpk:dW k ((i,(s.next,aO))::pe)=dW k pe:=by rw[uz,av (dt K)]
   rcases q5 with⟨z1,z2,z3⟩|⟨z1,ak',a8Z,u,z2,z3,z4,z5,z6,z7,z8⟩
   .exact .inl ⟨z1,by rw[hpk];exact z2,z3⟩
   .grind
 .intro k c L hon;rw[aI]at c;rcases c with c|rfl
  .intro id b m;rcases a k id b m with⟨rfl,_,_⟩|⟨_,f⟩
   .exact absurd L F
   .obtain⟨l,T,n,z,q3,q4,q5,q6,q7⟩:=h.al2 k c L hon id b f;exact⟨l,T,n,z,q3,q4,q5,Nat.lt_succ_of_lt q6,q7⟩
  .exact absurd L F
theorem gQ.a5F (h:gQ X D Ld pe t ds ctx s E w tm ck cs) (G:Rel X.C X.base X.Qo X.s0 X.w0) (V:has D.Cz i=true) (H:has D.OV i=false) (I:i∈Ld) {id:Nat} {aO:gn} (J:dW i pe=some (id,aO)) (st run:Nat):
  gQ X ⟨D.done,D.acts,D.zT,D.Cz,Nat.lor D.OV (bit i),st,run,D.last,D.fl⟩ Ld pe t ds ctx ⟨s.h.set id aO,s.next,s.pc⟩ E w tm ck cs:=by
 obtain⟨l,o,A,q2,q3,q4,q5,q6,q7,q8,Y⟩:=h.al2 i V I H id aO J;have K:X.base<=l.aO:=iG G.bs q8;have v:=h.step.rel.a1T A q2 q3 (λu N O a z2 _=>q4 u N O a z2) K Y;have c:∀j b,(s.h.set id aO).get j=some b->(j=id/\b=aO)\/(j≠id/\s.h.get j=some b):=by grind[Tr.bY]
 have f:∀Z:Nat->Prop,dD X.C E s w Z->dD X.C E ⟨s.h.set id aO,s.next,s.pc⟩ w Z:=λZ L j m d a z2=>
  Dt.ej.stays (λk B=>⟨⟨B.1.1,λhh=>by
    obtain⟨i2,x,l2,n,F,M,y4⟩:=hh;rcases c i2 x n with⟨rfl,rfl⟩|⟨_,n⟩
    .rw[A]at M;obtain rfl:=ae M;exact B.2.2.2 y4.symm
    .exact B.1.2.1 ⟨i2,x,l2,n,F,M,y4⟩,B.1.2.2⟩,rfl⟩) d ((L j m d a z2).and d (Y j m d a z2))
 have p:Step X.C X.base X.Qo X.s0 X.w0 E ⟨s.h.set id aO,s.next,s.pc⟩ w:=by
  refine⟨h.step.grow,v,h.step.keep,?_,h.step.next,h.step.Xi,h.step.Se,?_,λZ L hg=>f Z (h.step.rdz Z L hg)⟩
  .rintro k ⟨j,b,m,a,z2,z3,z4⟩ hk;rcases c j b a with⟨rfl,rfl⟩|⟨_,a⟩
   .rw[A]at z3;obtain rfl:=ae z3;omega
   .exact h.step.live k ⟨j,b,m,a,z2,z3,z4⟩ hk
  .intro j b a z2;rcases c j b a with⟨rfl,rfl⟩|⟨_,a⟩
   .omega
   .exact h.step.p0 j b a z2
 refine⟨p,h.ro,h.ds,h.ctx,h.cs,h.Sx,h.sL,h.kinds,h.B5,h.xY,h.two,h.fl,h.evc,h.pw,h.r6,h.tm,h.Rk,h.nM,h.ids,h.Gc,h.Xk,?_,?_⟩
 .intro k hk P;obtain⟨T,a,z2,z3⟩:=h.al1 k hk P;refine⟨T,a,z2,?_⟩;rcases z3 with z3|⟨p1,Q,y,u,p2,p3,p4,R,p6,p7,p8⟩
  .exact .inl z3
  .refine .inr ⟨p1,Q,y,u,p2,p3,p4,R,p6,?_,p8⟩;have:u≠id:=λe=>by rw[e,A]at R;cases R
   rw[Tr.get_set_other _ _ (dt this)];exact p7
 .intro k hk S g q U r;rw[gD,Bool.or_eq_false_iff,ka,decide_eq_false_iff_not]at g;have z:k≠i:=λe=>g.2 e.symm
  obtain⟨l1,o1,a,z2,z3,z4,z5,z6,z7,z8,z9⟩:=h.al2 k hk S g.1 q U r;have W:q≠id:=λe=>z (h.ids k i id U aO (by rw[<-e];exact r) J)
  refine⟨l1,o1,a,z2,z3,?_,by rw[Tr.get_set_other _ _ (dt W)];exact z5,z6,z7,z8,f _ z9⟩;intro j b m n F;rcases c j b n with⟨rfl,rfl⟩|⟨_,n⟩
  .exact h.Gc i k j q b U m l1 J r (dt z) F a
  .exact z4 j b m n F
theorem gQ.ZF (h:gQ X D Ld pe t ds ctx s E w tm ck cs) (st run on:Nat) (a:∀k,has on k=false->has D.OV k=false\/dW k pe=none):
  gQ X ⟨D.done,D.acts,D.zT,D.Cz,on,st,run,D.last,D.fl⟩ Ld pe t ds ctx s E w tm ck cs:=by
 refine⟨h.step,h.ro,h.ds,h.ctx,h.cs,h.Sx,h.sL,h.kinds,h.B5,h.xY,h.two,h.fl,h.evc,h.pw,h.r6,h.tm,h.Rk,h.nM,h.ids,h.Gc,h.Xk,h.al1,?_⟩;intro k hk c ho;rcases a k ho with g|g
 .exact h.al2 k hk c g
 .intro id b d;rw[g]at d;cases d
end
theorem Ha{ops:Array Oper}{i:Nat}{o:Oper}(h:ops[i]? =some o)(l:List PI):link ops.toList (.act i::l)=.act i o::link ops.toList l:=by grind[j9,link,uF]
theorem a3z{ops:Array Oper}{i:Nat}{o:Oper}(h:ops[i]? =some o)(l:List PI):link ops.toList (.ev i::l)=.ev i o::link ops.toList l:=by grind[j9,link,uF]
theorem Uv{ops:Array Oper}{i:Nat}{o:Oper}(h:ops[i]? =some o)(l:List PI):link ops.toList (.re i::l)=.re i o::link ops.toList l:=by grind[j9,link,uF]
theorem a3A{ops:Array Oper}{i:Nat}{o:Oper}(h:ops[i]? =some o)(l:List PI):link ops.toList (.al i::l)=.al i o::link ops.toList l:=by grind[j9,link,uF]
theorem Uw{ops:Array Oper}{i:Nat}(l:List PI):link ops.toList (.on i::l)=.on i::link ops.toList l:=rfl
theorem Z9{a i:Nat}:Nat.lor a (bit i)≠0:=λh=>by
 have:has (Nat.lor a (bit i)) i=true:=(aI _ _ _).2 (.inr rfl);rw[h,tp]at this;cases this
theorem JT{all:List PO}{n:Nat}:∀{rest:List PI}{D:Ia},D.run≠0->bL all n rest D=true->Ap rest
 | [],_,_,_=>trivial
 |p::l,D,a,h=>by
  cases p with
  |act i=>trivial
  |ev i=>
   simp only[bL]at h;split at h
   .cases h
   .next x Z=>
    simp only[aM]at h;exact absurd (tc h.1.1).2.2.2.1 a
  |al i=>
   simp only[bL]at h;split at h
   .cases h
   .next x Z=>
    simp only[aM]at h;exact absurd (tc h.1.1).2.2.2.1 a
  |re i=>simp only[bL,aM]at h;exact absurd (wL h.1.2) a
  |on i=>simp only[bL,aM]at h;exact JT (rest:=l) Z9 h.2
theorem L0{all:List PO}{n:Nat}{rest:List PI}{D:Ia}(a:Ap rest)(h:bL all n rest D=true):D.gV=0:=by
 cases rest with
 |nil=>simp only[bL,aM]at h;exact wL h.2
 |cons p l=>
  cases p with
  |act i=>
   simp only[bL]at h;split at h
   .cases h
   .simp only[aM]at h;exact(qa h.1).2.2.2.2.1
  |on i=>simp only[bL,aM]at h;exact wL h.1.2
  |_=>exact a.elim
theorem qZ{m i j:Nat}(b:has m i=false)(a:¬i=j):has (Nat.lor m (bit j)) i=false:=by grind[gD,ka]
theorem kG{all:List PO}{n:Nat}{a i:Nat}(V:i<n):∀{rest:List PI}{D:Ia},bL all n rest D=true->has D.acts a=true->has D.done i=false->∃x,dR all i=some x/\has x.before a=true
 | [],D,h,c,d=>by
   simp only[bL,aM]at h;have e:D.done=Nat.sub (bit n) 1:=bj h.1.1;rw[e,UI]at d;simp[V]at d
 |p::l,D,h,c,d=>by
  cases p with
  |act j=>
   simp only[bL]at h;split at h
   .cases h
   .next x Z=>
    simp only[aM]at h;by_cases b:i=j
    .subst b;exact⟨x,Z,(qa h.1).2.2.1 a c⟩
    .exact kG V (rest:=l) h.2 ((aI _ _ _).2 (.inl c)) (qZ d b)
  |ev j=>
   simp only[bL]at h;split at h
   .cases h
   .next x Z=>
    simp only[aM]at h;by_cases b:i=j
    .subst b;exact⟨x,Z,(tc h.1.1).2.2.1 a c⟩
    .exact kG V (rest:=l) h.2 c (qZ d b)
  |al j=>
   simp only[bL]at h;split at h
   .cases h
   .next x Z=>
    simp only[aM]at h;by_cases b:i=j
    .subst b;exact⟨x,Z,(tc h.1.1).2.2.1 a c⟩
    .exact kG V (rest:=l) h.2 c (qZ d b)
  |re j=>simp only[bL,aM]at h;exact kG V (rest:=l) h.2 c d
  |on j=>simp only[bL,aM]at h;exact kG V (rest:=l) h.2 c d
section
variable{X:DC}{D Vr:Ia}{Ld:List Nat}{pe:vb}{t:Tr AV}{ds:List jh}{ctx:Option (List PE)}{s:S}{E:G}{w:World}{tm:Array Value}{ck:List Deferred}{cs:List Frame}{i:Nat}
theorem xm{rec:Rec}(c:lQ X.ops X.all){n:Nat}{a:RG->Prop}:∀(rest:List PI){D:Ia}{pe:vb}{t:Tr AV}{s:S},bL X.all n rest D=true->
  gQ X D Ld pe t ds ctx s E w tm ck cs->tO X D Ld t s->(∀x,x∈link X.ops.toList rest->x∈X.lp)->
  (∀Vr fX A Q F,Ap fX->bL X.all n fX Vr=true->gQ X Vr Ld A Q ds ctx F E w tm ck cs->tO X Vr Ld Q F->(∀x,x∈link X.ops.toList fX->x∈X.lp)->
    (nU X.C rec X.fi X.ops (link X.ops.toList fX) A Q ds ctx F).path a)->
  (nU X.C rec X.fi X.ops (link X.ops.toList rest) pe t ds ctx s).path a
 | [],D,pe,t,s,ho,g,z,f,K=>K D [] pe t s trivial ho g z f
 |p::l,D,pe,t,s,ho,g,z,f,K=>by
  cases p with
  |act i=>exact K D (.act i::l) pe t s trivial ho g z f
  |on i=>have B:=ho;simp only[bL,aM]at B;exact K D (.on i::l) pe t s (JT (rest:=l) Z9 B.2) ho g z f
  |ev i=>
   simp only[bL]at ho;split at ho
   .cases ho
   .next x Z=>
    simp only[aM]at ho;obtain⟨⟨I,Y⟩,W⟩:=ho;obtain⟨o,j,hk⟩:=a5T (t:=t) c Z I;have m:x.kind=.ev:=by cases L:x.kind<;>rw[L]at Y<;>first|rfl|cases Y
    have d:=Rf (hk▸m);rw[a3z j.ho]at f ⊢;show((R.Cy (UQ X.ops o X.C t s)).bind λv=>nU X.C rec X.fi X.ops (link X.ops.toList l) pe (put X.fi.nt t o.dst v) ds ctx s).path a;refine R.Bs λv M=>?_
    exact xm c l W (g.a0Q c Z j d (f _ (by simp)) v) (tO.a0Q c g z j d M) (λy q=>f y (by simp[q])) K
  |re i=>
   simp only[bL,aM]at ho;obtain⟨⟨I,Y⟩,W⟩:=ho;obtain⟨o,G,d⟩:=g.evc i I;rw[Uv G]at f ⊢;show((R.Cy (UQ X.ops o X.C t s)).bind λv=>@Bool.rec (λ_=>R RG) (.bad "") (nU X.C rec X.fi X.ops (link X.ops.toList l) pe t ds ctx s) (j5 X.fi.nt t o.dst v)).path a;refine R.Bs λv M=>?_
   cases P:j5 X.fi.nt t o.dst v with
   |false=>trivial
   |true=>
    refine xm c l W (g.mask _ _) ?_ (λy q=>f y (by simp[q])) K;intro k hk u e;simp only[Dc,ka]at e;by_cases H:k=i
    .subst H;exact⟨o,v,G,d,M,Le P⟩
    .refine z k hk u ?_;have:decide (i=k)=false:=by simp[dt H]
     rw[this]at e;simpa using e
  |al i=>
   simp only[bL]at ho;split at ho
   .cases ho
   .next x Z=>
    simp only[aM]at ho;obtain⟨⟨I,Y⟩,W⟩:=ho;obtain⟨o,j,hk⟩:=a5T (t:=t) c Z I;have m:x.kind=.al:=by cases L:x.kind<;>rw[L]at Y<;>first|rfl|cases Y
    have d:=Rg (hk▸m);rw[a3A j.ho]at f ⊢;have J:∀(Q:Tr AV)(F:S),tO X ⟨Nat.lor D.done (bit i),D.acts,D.zT,Nat.lor D.Cz (bit i),D.OV,minus D.zT D.last,0,D.last,x::D.fl⟩ Ld Q F:=by intro Q F k hk u e;simp only[Dc]at e;have N:has D.zT k=true:=hk;rw[N]at e;exact absurd (g.r6 k (by simpa using e)) u
    show((R.Cy (eo X.ops o.guard t)).bind (Ff o i X.fi.nt (nU X.C rec X.fi X.ops (link X.ops.toList l)) X.C pe t ds ctx s)).path a;refine R.Bs λb O=>?_
    cases b with
    |false=>exact xm c l W (g.a9c c Z j d (f _ (by simp)) O _) (J _ _) (λy q=>f y (by simp[q])) K
    |true=>
     show((R.Cy (aF o.op X.C t)).bind λr=>nU X.C rec X.fi X.ops (link X.ops.toList l) ((i,(s.next,r.2))::pe) (put X.fi.nt t o.dst (Z3 r.1 s.next)) ds ctx ⟨s.h,Nat.add s.next 1,s.pc⟩).path a;refine R.Bs λr T=>?_
     obtain⟨U,aO⟩:=r;exact xm c l W (g.a9b c Z j d (f _ (by simp)) O T _) (J _ _) (λy q=>f y (by simp[q])) K
def QD(X:DC):RG->Prop
 | .fin t ds ctx s=>rA X.C X.base X.Qo X.s0 X.w0 X.fi X.ro X.k X.cs0 X.m0 (.fin t ds ctx s)
 | .gv ch t ds ctx s=>rA X.C X.base X.Qo X.s0 X.w0 X.fi X.ro X.k X.cs0 X.m0 (.gv ch (gw X.fi.nt t X.lp) ds ctx s)
theorem zI(nt:Nat)(t:Tr AV)(d:Nat):∀l:List PS,((gw nt t l).get d=some .fO/\d<nt)\/((gw nt t l).get d=t.get d/\(d<nt->∀k o,(PS.ev k o∈l\/PS.al k o∈l)->o.dst≠some d))
 | []=>.inr ⟨rfl,λ_ k o h=>by rcases h with h|h<;>cases h⟩
 |x::l=>by
  have c:=zI nt t d l;have key:∀o:Oper,((put nt (gw nt t l) o.dst .fO).get d=some .fO/\d<nt)\/((put nt (gw nt t l) o.dst .fO).get d=t.get d/\(d<nt->o.dst≠some d)/\(d<nt->∀k o,(PS.ev k o∈l\/PS.al k o∈l)->o.dst≠some d)):=by grind[Bi,pR,kv]
  cases x with
  |ev i o=>
   rcases key o with h|⟨I,Y,W⟩
   .exact .inl h
   .refine .inr ⟨I,λb k T a=>?_⟩;rcases a with a|a
    .grind
    .grind
  |al i o=>
   rcases key o with h|⟨I,Y,W⟩
   .exact .inl h
   .refine .inr ⟨I,λb k T a=>?_⟩;rcases a with a|a
    .grind
    .grind
  |_=>
   rcases c with h|⟨I,Y⟩
   .exact .inl h
   .refine .inr ⟨I,λb k T a=>Y b k T ?_⟩;rcases a with a|a<;>cases a with
     |tail _ a=>first|exact .inl a|exact .inr a
theorem gQ.fO (h:gQ X D Ld pe t ds ctx s E w tm ck cs) {A:G} (l:Grow E A):aW A X.fi.nt (gw X.fi.nt t X.lp) tm:=by
 obtain⟨I,Y,W⟩:=h.tm;refine⟨I,?_,?_⟩
 .intro d v a;rcases zI X.fi.nt t d X.lp with⟨g1,g2⟩|⟨g1,g2⟩
  .rw[g1]at a;obtain rfl:=ae a;have b:d<tm.size:=by rw[I];exact g2
   exact⟨g2,tm[d],fb b,.inl rfl⟩
  .rw[g1]at a;obtain⟨j,c,m,e⟩:=Y d v a;refine⟨j,c,m,?_⟩;rcases e with⟨k,o,g,z2,z3,z4⟩|e
   .obtain⟨T,f,i⟩:=h.Rk k g;rw[z3]at f;obtain rfl:=ae f;exact absurd z4 (g2 j k o i)
   .exact e.grow l
 .intro d a;rcases zI X.fi.nt t d X.lp with⟨g1,g2⟩|⟨g1,g2⟩
  .rw[g1]at a;cases a
  .rw[g1]at a;rcases W d a with⟨k,o,g,z2,z3,z4⟩|e
   .obtain⟨T,f,i⟩:=h.Rk k g;rw[z3]at f;obtain rfl:=ae f;by_cases b:d<X.fi.nt
    .exact absurd z4 (g2 b k o i)
    .grind
   .exact e
theorem SX(hC:Good X.C){rec:Rec}(H:fY X.C X.base rec)(h:lQ X.ops X.all)(hR0:Rel X.C X.base X.Qo X.s0 X.w0){n a:Nat}{L:List Nat}{x:PO}(Z:dR X.all a=some x)
  (hb:∀k,has x.before k=true->k∈Ld) (V:Steps X.C.P X.m0 (lone (aV X.fi X.ro tm (.inRegion X.ops (a::L)::X.k) ck .run) cs w)):
  ∀(rest:List PI){D:Ia}{s:S},jw rest=some a->bL X.all n rest D=true->gQ X D Ld pe t ds ctx s E w tm ck cs->(∀x,x∈link X.ops.toList rest->x∈X.lp)->
  (∀Vr l Q ds' B F A M tm' G cs',bL X.all n l Vr=true->gQ X Vr (a::Ld) pe Q ds' B F A M tm' G cs'->tO X Vr (a::Ld) Q F->(∀x,x∈link X.ops.toList l->x∈X.lp)->
    Steps X.C.P X.m0 (lone (aV X.fi X.ro tm' (.inRegion X.ops L::X.k) G .run) cs' M)->
    (nU X.C rec X.fi X.ops (link X.ops.toList l) pe Q ds' B F).path (QD X))->
  (nU X.C rec X.fi X.ops (link X.ops.toList rest) pe t ds ctx s).path (QD X)
 | [],D,s,hh,_,_,_,_=>by cases hh
 |p::l,D,s,hh,ho,e,hl,K=>by
  cases p with
  |ev i=>cases hh
  |re i=>cases hh
  |al i=>cases hh
  |on i=>
   simp only[bL,aM,im]at ho;obtain⟨⟨⟨I,Y⟩,W⟩,U⟩:=ho;have him:i∈Ld:=hb i (JU Z (rest:=l) hh U ((aI _ _ _).2 (.inr rfl)));rw[Uw]at hl ⊢;show(dOn i (nU X.C rec X.fi X.ops (link X.ops.toList l)) pe t ds ctx s).path (QD X);unfold dOn;cases hp:dW i pe with
   |none=>refine SX hC H h hR0 Z hb V l hh U (e.ZF _ _ _ ?_) (λy hy=>hl y (by simp[hy])) K;intro k hk;rw[gD,Bool.or_eq_false_iff,ka,decide_eq_false_iff_not]at hk;exact .inl hk.1
   |some q=>obtain⟨id,aO⟩:=q;exact SX hC H h hR0 Z hb V l hh U (e.a5F hR0 I Y him hp _ _) (λy hy=>hl y (by simp[hy])) K
  |act i=>
   have hia:i=a:=by simpa[jw]using hh
   subst hia;simp only[bL,Z,aM]at ho;obtain⟨I,Y⟩:=ho;obtain⟨g1,g2,g3,g4,g5,g6⟩:=qa I;obtain⟨o,hoi,r1,r2,r3,r4⟩:=h i x Z;rw[r1]at g1;rw[Ha hoi]at hl ⊢;show(j7 X.C rec X.fi X.ops (nU X.C rec X.fi X.ops (link X.ops.toList l) pe) o t ds ctx s).path (QD X);obtain⟨tJ,htJ,hag⟩:=Dk e.tm _ (λd m=>gQ.jl d m);have hni:i ∉ Ld:=λhm=>by rw[e.Sx i hm]at g1;cases g1
   have hfl:∀k y,(has D.zT k=true\/has D.Cz k=true)->k ∉ Ld->dR X.all k=some y->y∈D.fl->
     (∀d,o.dst=some d->has y.look d=true->False)/\(∀d,o.dst=some d->has y.dst d=true->False)/\∀d,has x.look d=true->has y.dst d=true->False:=by
    intro k y hk r hy hyf;obtain⟨T,ho',R,z2,z3,z4⟩:=h k y hy;rcases yZ g6 y hyf with g|⟨q1,q2⟩
    .rw[R]at g;exact absurd (hb k g) r
    .obtain⟨q3,q4⟩:=Kt q1;have m:∀d,o.dst=some d->has x.dst d=true:=λd m=>by rw[r3];exact qt m
     exact⟨λd e1 e2=>q3 d (m d e1) e2,λd e1 e2=>q4 d (m d e1) e2,λd e1 e2=>tK q2 d e1 e2⟩
   have z:∀d,has (mh X.ops.toList o) d=true->t.get d=tJ.get d:=by intro d m;refine(hag d ?_).symm;rintro⟨k,T,hk,r,ho',ada⟩;obtain⟨y,hy1,J⟩:=e.fl k hk;obtain⟨R,z2,z3,z4⟩:=CO h J ho';exact(hfl k y hk r J hy1).2.2 d (by rw[r2];exact m) (by rw[z3];exact qt ada)
   refine Bp (k:=X.k) (rest:=L) hC H e.step.rel htJ (QJ X.ops o λd m=>z d (iU m)) (λs=>MA o.op o.type s λd m=>z d (qg m))
    (λc hc=>OQ c λd m=>z d (qg (by rw[hc];exact m))) hoi e.ro e.ds e.ctx _ _ ?_ ?_
   .intro A F M cs' ds' G B v c f hv a7H abo hcs j;refine K _ l _ ds' B F A M (pU tm o.dst c) G cs' Y ?_ ?_ (λy hy=>hl y (by simp[hy])) (V.trans j)
    .refine⟨e.step.trans f,e.ro.grow f.grow,a7H,abo,e.cs.trans hcs,?_,?_,?_,?_,?_,e.two,e.fl,e.evc,e.pw,?_,?_,e.Rk,?_,e.ids,?_,?_,?_,?_⟩
     .intro k hk;rw[aI];rcases cC.1 hk with rfl|hk
      .exact .inr rfl
      .exact .inl (e.Sx k hk)
     .grind[aI]
     .intro k hk;rcases(aI _ _ _).1 hk with g|g
      .rcases e.kinds k g with q|q
       .grind[aI]
       .exact .inr q
      .grind[aI]
     .intro k hk;exact(aI _ _ _).2 (.inl (e.B5 k hk))
     .intro k hk;exact(aI _ _ _).2 (.inl (e.xY k hk))
     .grind
     .refine((e.tm.grow f.grow).acH o.dst hv).mono ?_;rintro d ⟨k,T,R,z2,z3⟩;refine⟨k,T,R,?_,z3⟩;intro hm;rcases cC.1 hm with rfl|hm
      .rcases R with R|R
       .rw[e.B5 k R]at g1;cases g1
       .rw[e.xY k R]at g1;cases g1
      .exact z2 hm
     .intro k id b hp;obtain⟨q1,q2⟩:=e.nM k id b hp;exact⟨q1,kY q2 f.next⟩
     .intro k k' id u b N l1 l2 hp hp' Mq hl1 hl2;obtain⟨l3,q1,q2⟩:=f.back hl1 (e.nM k id b hp).2;obtain⟨l4,q3,q4⟩:=f.back hl2 (e.nM k' u N hp').2;rw[q2,q4];exact e.Gc k k' id u b N l3 l4 hp hp' Mq q1 q3
     .intro k id b l1 hp hl1;obtain⟨l3,q1,q2⟩:=f.back hl1 (e.nM k id b hp).2;rw[q2];exact kY (e.Xk k id b l3 hp q1) f.keep.size
     .intro k hk r;have abj:k ∉ Ld:=λhm=>r (bQ _ hm)
      refine(e.al1 k hk abj).step f λT ho'=>?_
      obtain⟨y,hy1,J⟩:=e.fl k (.inr hk);obtain⟨R,z2,z3,z4⟩:=CO h J ho';obtain⟨q1,q2,_⟩:=hfl k y (.inr hk) abj J hy1;refine⟨λd m=>?_,λd m=>?_⟩
      .grind[kv]
      .grind[kv,qt]
     .intro k hk hkm hon;rcases cC.1 hkm with rfl|hkm
      .rw[e.xY k hk]at g1;cases g1
      .exact(e.al2 k hk hkm hon).step f
    .intro k hk r O;simp only[Dc]at O;have hk':has D.zT k=true:=hk;rw[hk']at O;exact absurd (bQ _ (hb k (by simpa using O))) r
   .intro A F M ch cch items f hch j;exact⟨A,tm,items,ck,cs,M,cch,e.step.trans f,e.fO f.grow,df f.grow e.ds,e.ctx.grow f.grow,e.cs,hch,V.trans j⟩
where
 JU {n a:Nat} {x:PO} (Z:dR X.all a=some x):∀{rest:List PI}{D:Ia},jw rest=some a->bL X.all n rest D=true->∀{k:Nat},has D.run k=true->has x.before k=true
  | [],_,hh,_,_,_=>by cases hh
  |p::l,D,hh,ho,k,hk=>by
   cases p with
   |ev i=>cases hh
   |re i=>cases hh
   |al i=>cases hh
   |act i=>
    have hia:i=a:=by simpa[jw]using hh
    subst hia;simp only[bL,Z,aM]at ho;exact(qa ho.1).2.2.2.1 k hk
   |on i=>simp only[bL,aM]at ho;exact JU Z (rest:=l) hh ho.2 ((aI _ _ _).2 (.inl hk))
end
section
variable{P:Program}{fi:FI}{ro:Option Nat}{tm:Array Value}{k:List Item}{ds:List Deferred}{cs:List Frame}{w:World}{ops:Array Oper}
theorem F7{id:Nat}:
  step P (lone (aV fi ro tm (.code (.region id ops true)::k) ds .run) cs w)=
   .next (lone (aV fi ro tm (.inRegion ops (Region.schedule (P.follows .mixedOrders) ops (w.tape w.drawn (.order fi.fn id)))::k) ds .run) cs { w with drawn:=w.drawn+1 }):=
 dE (by simp[stepG,stepG.exec,aV,choose,Sem.run,Question.forced,Question.cut])
end
theorem wy{all:List PO}{n a:Nat}(b:∀i x,dR all i=some x->x.i=i):∀{rest:List PI}{D:Ia},jw rest=some a->bL all n rest D=true->(∃x,dR all a=some x)/\has D.done a=false
 | [],_,hh,_=>by cases hh
 |p::l,D,hh,ho=>by
  cases p with
  |ev i=>cases hh
  |re i=>cases hh
  |al i=>cases hh
  |act i=>
   have hia:i=a:=by simpa[jw]using hh
   subst hia;simp only[bL]at ho;split at ho
   .cases ho
   .grind[qa]
  |on i=>simp only[bL,aM]at ho;have h:=wy b (rest:=l) hh ho.2;exact h
theorem Hm{all:List PO}{n a i:Nat}(V:i<n)(b:¬i=a):∀{rest:List PI}{D:Ia},jw rest=some a->bL all n rest D=true->has D.done i=false->∃x,dR all i=some x/\has x.before a=true
 | [],_,hh,_,_=>by cases hh
 |p::l,D,hh,ho,c=>by
  cases p with
  |ev i=>cases hh
  |re i=>cases hh
  |al i=>cases hh
  |act j=>
   have hia:j=a:=by simpa[jw]using hh
   subst hia;simp only[bL]at ho;split at ho
   .cases ho
   .next x Z=>
    simp only[aM]at ho;exact kG V ho.2 ((aI _ _ _).2 (.inr rfl)) (qZ c b)
  |on j=>simp only[bL,aM]at ho;exact Hm V b (rest:=l) hh ho.2 c
theorem OU{all:List PO}{n i:Nat}(V:i<n):∀{rest:List PI}{D:Ia},Ap rest->jw rest=none->bL all n rest D=true->has D.done i=true
 | [],D,_,_,ho=>by
   simp only[bL,aM]at ho;have e:D.done=Nat.sub (bit n) 1:=bj ho.1.1;rw[e,UI];simp[V]
 |p::l,D,a,hh,ho=>by
  cases p with
  |ev i=>exact a.elim
  |re i=>exact a.elim
  |al i=>exact a.elim
  |act j=>cases hh
  |on j=>simp only[bL,aM]at ho;have h:=OU V (rest:=l) a hh ho.2;exact h
section
variable{X:DC}
theorem LR(a:lQ X.ops X.all)(f:Rel X.C X.base X.Qo X.s0 X.w0){rec:Rec}{Ld:List Nat}(b:∀k,k<X.ops.size->k∈Ld){pe:vb}{t:Tr AV}{ds:List jh}{ctx:Option (List PE)}{E:G}{w:World}{tm:Array Value}{ck:List Deferred}{cs:List Frame}
  (g:Steps X.C.P X.m0 (lone (aV X.fi X.ro tm (.inRegion X.ops []::X.k) ck .run) cs w)):
  ∀(rest:List PI){D:Ia}{s:S},Ap rest->jw rest=none->bL X.all X.ops.size rest D=true->gQ X D Ld pe t ds ctx s E w tm ck cs->
  (nU X.C rec X.fi X.ops (link X.ops.toList rest) pe t ds ctx s).path (QD X)
 | [],D,s,_,_,_,e=>by
   refine⟨E,tm,ck,cs,w,e.step,?_,e.ds,e.ctx,e.cs,g.trans (.one yh)⟩;have x:∀d,¬DJ X D Ld d:=by
    rintro d ⟨k,o,_,n,ho,_⟩;refine n (b k ?_);rcases ed k X.ops.size with h|h
    .exact h
    .grind
   obtain⟨I,Y,W⟩:=e.tm;exact⟨I,λd v r=>by obtain⟨g1,c,g2,g3⟩:=Y d v r;exact⟨g1,c,g2,g3.resolve_left (x d)⟩,λd r=>(W d r).resolve_left (x d)⟩
 |p::l,D,s,m,hh,ho,e=>by
  cases p with
  |ev i=>exact m.elim
  |re i=>exact m.elim
  |al i=>exact m.elim
  |act j=>cases hh
  |on i=>
   simp only[bL,aM,im]at ho;obtain⟨⟨⟨I,Y⟩,W⟩,U⟩:=ho;have u:i∈Ld:=by
    obtain⟨y,_,z⟩:=e.fl i (.inr I);obtain⟨o,ho,_⟩:=a i y z;refine b i ?_;rcases ed i X.ops.size with h|h
    .exact h
    .grind
   rw[Uw];show(dOn i (nU X.C rec X.fi X.ops (link X.ops.toList l)) pe t ds ctx s).path (QD X);unfold dOn;cases A:dW i pe with
   |none=>refine LR a f b g l m hh U (e.ZF _ _ _ ?_);intro k hk;rw[gD,Bool.or_eq_false_iff,ka,decide_eq_false_iff_not]at hk;exact .inl hk.1
   |some q=>obtain⟨id,aO⟩:=q;exact LR a f b g l m hh U (e.a5F f I Y u A _ _)
theorem tO.more {D:Ia} {Ld:List Nat} {t:Tr AV} {s:S} (h:tO X D Ld t s) (i:Nat):tO X D (i::Ld) t s:=λk hk a b=>h k hk (λc=>a (bQ _ c)) b
theorem U1(v:Good X.C){rec:Rec}(e:fY X.C X.base rec)(b:lQ X.ops X.all)(j:Rel X.C X.base X.Qo X.s0 X.w0):
  ∀(L Ld:List Nat){D:Ia}{rest:List PI}{pe:vb}{t:Tr AV}{ds:List jh}{ctx:Option (List PE)}{s:S}{E:G}{w:World}{tm:Array Value}{ck:List Deferred}{cs:List Frame},
  Ql X.ops.size X.all Ld L->Ap rest->bL X.all X.ops.size rest D=true->gQ X D Ld pe t ds ctx s E w tm ck cs->tO X D Ld t s->(∀x,x∈link X.ops.toList rest->x∈X.lp)->
  Steps X.C.P X.m0 (lone (aV X.fi X.ro tm (.inRegion X.ops L::X.k) ck .run) cs w)->
  (nU X.C rec X.fi X.ops (link X.ops.toList rest) pe t ds ctx s).path (QD X)
 | [],Ld,D,rest,pe,t,ds,ctx,s,E,w,tm,ck,cs,c,z,ho,m,K,N,B=>by
   have O:∀i x,dR X.all i=some x->x.i=i:=λi x Z=>by obtain⟨o,_,h,_⟩:=b i x Z;exact h
   cases hh:jw rest with
   |none=>exact LR b j c B rest z hh ho m
   |some a=>
    obtain⟨⟨x,Z⟩,p⟩:=wy O hh ho;obtain⟨o,hoo,_⟩:=b a x Z;have n:a<X.ops.size:=by grind
    rw[m.Sx a (c a n)]at p;cases p
 |i::L,Ld,D,rest,pe,t,ds,ctx,s,E,w,tm,ck,cs,c,z,ho,m,K,N,B=>by
  have O:∀i x,dR X.all i=some x->x.i=i:=λi x Z=>by obtain⟨o,_,h,_⟩:=b i x Z;exact h
  obtain⟨q,n,f,d⟩:=c;cases p:has D.done i with
  |true=>
   rcases m.kinds i p with g|g|g
   .exact absurd (m.sL i g) q
   .obtain⟨y,_,r⟩:=m.fl i (.inl g);have R:has D.gV i=false:=by rw[L0 z ho,tp]
    obtain⟨A,M,H,u,T⟩:=a38 v b m g (K i g q R) r (f y r) L;exact U1 v e b j L (i::Ld) d z ho u (K.more i) N (B.trans T)
   .obtain⟨y,_,r⟩:=m.fl i (.inr g);obtain⟨A,M,H,u,T⟩:=a39 v b m g q r (f y r) L;exact U1 v e b j L (i::Ld) d z ho u (K.more i) N (B.trans T)
  |false=>
   cases hh:jw rest with
   |none=>rw[OU n z hh ho]at p;cases p
   |some a=>
    obtain⟨⟨x,Z⟩,J⟩:=wy O hh ho;by_cases hia:i=a
    .subst hia;refine SX v e b j Z (f x Z) B rest hh ho m N ?_;intro Vr l Q ds' a73 F A M H a8B cs' I Y W U h5;refine xm b l I Y W U ?_;intro σ2 V pe2 t2 s2 g1 g2 g3 g4 g5;exact U1 v e b j L (i::Ld) d g1 g2 g3 g4 g5 h5
    .obtain⟨y,r,hya⟩:=Hm n hia hh ho p;rw[m.Sx a (f y r a hya)]at J;cases J
end
theorem CR{C:Ctx}{base:Nat}(B:Good C){rec:Rec}(g:fY C base rec){E:G}{s:S}{w:World}{fi:FI}{ro:Option Nat}{t:Tr AV}{tm:Array Value}{k:List Item}{ds:List jh}{ck:List Deferred}{ctx:Option (List PE)}{cs:List Frame}{ops:Array Oper}
  (A:Rel C base E s w) (i:aW E fi.nt t tm) (m:rz E fi.roundOf ro) (n:dY fi.tl E ds=some ck) (e:ga E fi.kind ctx cs)
  {all:List PO} (f:lQ ops all) {a:List PI} (o:bL all ops.size a ⟨0,0,0,0,0,0,0,0,[]⟩=true) {L:List Nat} (D:Ql ops.size all [] L) (lp:List PS) (p:∀x,x∈link ops.toList a->x∈lp):
  (nU C rec fi ops (link ops.toList a) [] t ds ctx s).path
    (QD ⟨C,base,fi,ops,all,lp,ro,k,E,s,w,cs,lone (aV fi ro tm (.inRegion ops L::k) ck .run) cs w⟩):=by
 let X:DC:=⟨C,base,fi,ops,all,lp,ro,k,E,s,w,cs,lone (aV fi ro tm (.inRegion ops L::k) ck .run) cs w⟩
 have z:∀j,¬has 0 j=true:=λj h=>by rw[tp]at h;cases h
 have F:gQ X ⟨0,0,0,0,0,0,0,0,[]⟩ [] [] t ds ctx s E w tm ck cs:=by
  refine⟨Step.refl A,m,n,e,cF.refl e,(λk h=>by cases h),λk h=>absurd h (z k),λk h=>absurd h (z k),λk h=>absurd h (z k),λk h=>absurd h (z k),λk h=>absurd h (z k),
   (λk h=>by rcases h with h|h<;>exact absurd h (z k)),λk h=>absurd h (z k),(λx y h=>by cases h),λk h=>absurd h (z k),?_,(λk h=>by rcases h with h|h<;>exact absurd h (z k)),
   (λk id b h=>by cases h),(λk k' id b N h=>by cases h),(λk k' id u b N l O h=>by cases h),(λk id b l h=>by cases h),λk h=>absurd h (z k),λk h=>absurd h (z k)⟩
  exact⟨i.1,λd v q=>by obtain⟨g1,c,g2,g3⟩:=i.2.1 d v q;exact⟨g1,c,g2,.inr g3⟩,λd q=>.inr (i.2.2 d q)⟩
 have H:tO X ⟨0,0,0,0,0,0,0,0,[]⟩ [] t s:=λk h=>absurd h (z k)
 refine xm (X:=X) f a o F H p ?_;intro I r J t2 s2 g1 g2 g3 g4 g5;exact U1 (X:=X) B g f A L [] D g1 g2 g3 g4 g5 (Steps.refl _ _)
theorem Step.drawn {C:Ctx} {base:Nat} {E:G} {s:S} {w:World} (a:Rel C base E s w) (n:Nat):Step C base E s w E s { w with drawn:=n }:=
 ⟨Grow.refl E,a.drawn rfl,⟨bD _,rfl,rfl,rfl,λ_ _ h _=>h⟩,λ_ h _=>h,bD _,λ_ _ h=>a.lt h,λ_ l h=>.inl ⟨l,h⟩,λ_ b h _=>⟨b,h⟩,λZ _ h id l d I Y=>Dt.ej.stays (w:=w) (M:={ w with drawn:=n }) (F:=λk=>k<w.heap.size/\¬Live E s k/\¬Z k) (F':=λk=>k<w.heap.size/\¬Live E s k/\¬Z k) (λe c=>⟨c,rfl⟩) d (h id l d I Y)⟩
theorem V2{X:DC}{r:RG}(h:QD X r):(a1b X.fi.nt X.lp r).path (rA X.C X.base X.Qo X.s0 X.w0 X.fi X.ro X.k X.cs0 X.m0):=by
 cases r with
 |fin t ds ctx s=>exact h
 |gv ch t ds ctx s=>exact h
def M9(s F:S):Prop:=(s.next=F.next/\s.pc=F.pc)/\∀id,s.h.get id=F.h.get id
theorem M9.live {E:G} {s F:S} (h:M9 s F) {k:Nat}:Live E F k->Live E s k:=λ⟨id,b,l,a,c⟩=>⟨id,b,l,by rw[h.2 id];exact a,c⟩
theorem M9.ej {C:Ctx} {E:G} {s F:S} {w:World} {Z:Nat->Prop} (h:M9 s F) (b:dD C E s w Z):dD C E F w Z:=λid l d c e=>
 Dt.ej.stays (λf a=>⟨⟨a.1,λhh=>a.2.1 (h.live hh),a.2.2⟩,rfl⟩) d (b id l d c e)
theorem Rel.same {C:Ctx} {base:Nat} {E:G} {s F:S} {w:World} (h:M9 s F) (a:Rel C base E s w):Rel C base E F w:=
 ⟨λid b c=>a.aO id b (by rw[h.2 id];exact c),λi j x y li e Z g=>a.sep i j x y li e (by rw[h.2 i];exact Z) (by rw[h.2 j];exact g),λid d=>a.new id (by rw[h.1.1];exact d),a.gm,
   λid b l c=>a.low id b l (by rw[h.2 id];exact c),a.bs,λf k=>a.pc f (by rw[h.1.2];exact k),h.ej a.rd⟩
theorem Step.same {C:Ctx} {base:Nat} {Qo E:G} {s0 s F:S} {w0 w:World} (h:M9 s F) (a:Step C base Qo s0 w0 E s w):Step C base Qo s0 w0 E F w:=by
 refine⟨a.grow,a.rel.same h,a.keep,?_,by rw[<-h.1.1];exact a.next,a.Xi,a.Se,?_,λZ d e=>h.ej (a.rdz Z d e)⟩
 .rintro k ⟨id,b,l,f,g⟩ hk;exact a.live k ⟨id,b,l,by rw[h.2 id];exact f,g⟩ hk
 .intro id b i c;exact a.p0 id b (by rw[h.2 id];exact i) c
theorem QD.same {X:DC} {t:Tr AV} {ds:List jh} {ctx:Option (List PE)} {s F:S} (h:M9 s F) (d:QD X (.fin t ds ctx s)):QD X (.fin t ds ctx F):=by obtain⟨A,b,a,c,M,I,Y⟩:=d;exact⟨A,b,a,c,M,I.same h,Y⟩
theorem Tj{s F:S}{b off:Nat}{vs:List AV}(h:jm s b off vs=.ok F):
  (vs=[]/\F=s)\/∃elem cs n fz gU sg,s.h.get b=some (.cells elem cs n fz gU false sg)/\(F.next=s.next/\F.pc=s.pc)/\
    ∀id,F.h.get id=if id=b then some (.cells elem (Tr.lg vs off cs) n fz [] false sg)else if id∈gU then none else s.h.get id:=by
 cases vs with
 |nil=>have h':(R.ok s:R S)=.ok F:=h;injection h' with h';exact .inl ⟨rfl,h'.symm⟩
 |cons v vs=>
  right;have h':(match s.h.get b with
   |some (.cells elem cs n fz gU gV sg)=>
    match !gV&&Nat.ble (Nat.add off (v::vs).length) n&&Nat.ble fz off&&ou (v::vs)with
    |true=>R.ok (⟨(oq gU s.h).set b (.cells elem (Tr.lg (v::vs) off cs) n fz [] false sg),s.next,s.pc⟩:S)
    |false=>.bad ""
   |_=>.bad "")=.ok F:=h
  cases d:s.h.get b with
  |none=>rw[d]at h';cases h'
  |some x=>
   rw[d]at h';cases x with
   |cells elem cs n fz gU gV sg=>
    simp only at h';cases e:(!gV&&Nat.ble (Nat.add off (v::vs).length) n&&Nat.ble fz off&&ou (v::vs))with
    |false=>rw[e]at h';cases h'
    |true=>
     rw[e]at h';injection h' with h';subst h';have a:gV=false:=by grind
     subst a;refine⟨elem,cs,n,fz,gU,sg,rfl,⟨rfl,rfl⟩,λid=>?_⟩;rw[Tr.bY];by_cases c:b=id
     .subst c;simp
     .grind[zY]
   |_=>cases h'
theorem De{k:Nat}:∀{l:List Nat},uR k l=false->k ∉ l
 | [],_,h=>by cases h
 |e::l,h,b=>by
  unfold uR at h;cases a:Nat.beq k e with
  |true=>rw[a]at h;cases h
  |false=>
   rw[a]at h;cases b with
   |head=>rw[Nat.beq_refl]at a;cases a
   |tail _ b=>exact De h b
theorem H3{s:S}{b:Nat}{l:List Nat}(h:Ku s b=.ok l):∀aO,s.h.get b=some aO->EE aO=l:=by intro aO a;unfold Ku at h;rw[a]at h;cases aO<;>first|(cases h;done)|(injection h)
def Ic(b:Nat)(d:S->R S):Prop:=∀s F,d s=.ok F->
 (∀s2,d s2=.ok s2)\/∃aO c,s.h.get b=some aO/\(F.next=s.next/\F.pc=s.pc)/\(∀id,F.h.get id=if id=b then some c else if id∈EE aO then none else s.h.get id)/\
   ∀s2 a,s2.h.get b=some aO->d s2=.ok a->(a.next=s2.next/\a.pc=s2.pc)/\∀id,a.h.get id=if id=b then some c else if id∈EE aO then none else s2.h.get id
theorem a7S(b off:Nat)(vs:List AV):Ic b (λs=>jm s b off vs):=by
 intro s F h;cases vs with
 |nil=>exact .inl λs2=>rfl
 |cons v vs=>
  have h:jm s b off (v::vs)=.ok F:=h;rcases Tj h with⟨c,_⟩|⟨ex,r,t,u,g,w,i,d,j⟩
  .cases c
  .refine .inr ⟨_,_,i,d,j,λs2 e g2 Y=>?_⟩;have Y:jm s2 b off (v::vs)=.ok e:=Y;rcases Tj Y with⟨c,_⟩|⟨x,y,z,A,k,B,a,f,py⟩
   .cases c
   .rw[g2]at a;have a:=ae a;injection a with l m n o p C q;subst l;subst m;subst n;subst o;subst p;subst q;exact⟨f,py⟩
theorem a4b(C:Ctx)(b:Nat)(i:SE)(g k:Nat)(c:List AV):Ic b (λs=>jL C s b i g k c):=by
 have key:∀{s F:S},jL C s b i g k c=.ok F->∃el y d,s.h.get b=some (.vec el y)/\F=⟨s.h.set b (.vec el d),s.next,s.pc⟩/\∀s2 a,s2.h.get b=some (.vec el y)->jL C s2 b i g k c=.ok a->a=⟨s2.h.set b (.vec el d),s2.next,s2.pc⟩:=by
  intro s F h;unfold jL at h;cases l:s.h.get b with
  |none=>rw[l]at h;cases h
  |some m=>
   rw[l]at h;cases m<;>first|(cases h;done)|skip
   rename_i el y;simp only at h;cases e:Yk (qG y []).1 with
   |none=>rw[e]at h;cases h
   |some p=>
    rw[e]at h;simp only at h;cases f:((Nat.beq p.1 g&&db p.2 i)&&(Nat.beq g (aA C el).length&&(!Nat.beq g 0&&(Nat.ble (Nat.add k c.length) (qG y []).2.length&&ou c))))with
    |false=>rw[f]at h;cases h
    |true=>
     rw[f]at h;simp only at h;cases j:sW C (aA C el) ((rV (aA C el) (qG y []).2 (aA C el)).take k++c++(rV (aA C el) (qG y []).2 (aA C el)).drop (Nat.add k c.length)) (aA C el) (qG y []).1 with
     |none=>rw[j]at h;cases h
     |some d=>rw[j]at h;injection h with h;refine⟨el,y,d,rfl,h.symm,λs2 a g2 Y=>?_⟩;unfold jL at Y;rw[g2]at Y;simp only[e,f,j]at Y;injection Y with Y;exact Y.symm
 intro s F h;obtain⟨el,y,d,g1,rfl,g2⟩:=key h;refine .inr ⟨_,.vec el d,g1,⟨rfl,rfl⟩,λid=>?_,λs2 a W U=>?_⟩
 .grind[Tr.bY,EE]
 .grind[Tr.bY,EE]
theorem a0X{ex i:S->R S}{s e j f s4:S}{d a:Nat}{t u:List Nat}(Z:Ic d ex)(B:Ic a i)(g:d≠a)(k:Ku s d=.ok t)(l:Ku s a=.ok u)(I:uR a t=false)(Y:uR d u=false)
  (e1:ex s=.ok e) (e2:i e=.ok j) (e3:i s=.ok f) (c:ex f=.ok s4):M9 s4 j:=by
 rcases Z s e e1 with b|⟨m,C,v,w,x,rx⟩
 .rw[b s]at e1;injection e1 with e1;subst e1
  rw[b f]at c;injection c with c;subst c
  rw[e2]at e3;injection e3 with e3;subst e3
  exact⟨⟨rfl,rfl⟩,λ_=>rfl⟩
 .rcases B s f e3 with b|⟨n,D,y,z,py,E⟩
  .rw[b s]at e3;injection e3 with e3;subst e3
   rw[b e]at e2;injection e2 with e2;subst e2
   rw[e1]at c;injection c with c;subst c
   exact⟨⟨rfl,rfl⟩,λ_=>rfl⟩
  .have o:a ∉ EE m:=by rw[H3 k m v];exact De I
   have p:d ∉ EE n:=by rw[H3 l n y];exact De Y
   have q:e.h.get a=some n:=by rw[x,av (dt g),av o];exact y
   have r:f.h.get d=some m:=by rw[py,av g,av p];exact v
   obtain⟨A,F⟩:=E e j q e2;obtain⟨n4,G⟩:=rx f s4 r c;refine⟨⟨by rw[n4.1,z.1,A.1,w.1],by rw[n4.2,z.2,A.2,w.2]⟩,λid=>?_⟩;rw[G,py,F,x];by_cases i1:id=d
   .grind
   .grind
theorem R.rO {α j:Type} {Q:j->Prop} {f:α->R j}:∀{r:R α},(r.bind f).path Q->r.path (λa=>(f a).path Q)
 | .ok _,h=>h
 | .bad _,_=>trivial
 | .ask _ _,⟨i,V,h⟩=>⟨i,V,R.rO h⟩
 | .must _ _,h=>h.imp id λh=>R.rO h
theorem R.bind_mono {α j:Type} {Q:j->Prop} {f g:α->R j} {r:R α} (h:∀a,(f a).path Q->(g a).path Q) (b:(r.bind f).path Q):(r.bind g).path Q:=
 R.s6 (R.aZ h (R.rO b))
def Ib(Q:RG->Prop)(K a:RK):Prop:=∀t ds ctx s,(K t ds ctx s).path Q->(a t ds ctx s).path Q
theorem Oc{C:Ctx}{rec:Rec}{fi:FI}{ops:Array Oper}{Q:RG->Prop}{K g:RK}(h:Ib Q K g)(o:Oper):Ib Q (vP C rec fi ops K o) (vP C rec fi ops g o):=by
 intro t ds ctx s j;have e:∀K,vP C rec fi ops K o t ds ctx s=(hH ops o.guard t s).bind λr=>Be C rec fi fi.nt K o.dst o.op o.type t ds ctx r.2 r.1:=by intro K;cases o;rfl
 rw[e]at j ⊢;refine R.bind_mono (λb k=>?_) j;obtain⟨b,s1⟩:=b;cases b with
 |false=>exact h _ _ _ _ k
 |true=>
  show(DG C rec fi fi.nt g o.dst o.op o.type t ds ctx s1).path Q;have a:(DG C rec fi fi.nt K o.dst o.op o.type t ds ctx s1).path Q:=k;unfold DG at a ⊢;have back:∀out,(Kq fi.nt o.dst K t ds ctx out).path Q->(Kq fi.nt o.dst g t ds ctx out).path Q:=by
   intro out ho;obtain⟨res,m,os⟩:=out;cases res with
   |ret v=>exact h _ _ _ _ ho
   |gv ch=>exact ho
  cases n:rp o.op with
  |some c=>rw[n]at a;refine R.bind_mono (λx Z=>?_) a;exact R.bind_mono (λr i=>h _ _ _ _ i) Z
  |none=>
   rw[n]at a;refine R.bind_mono (λx Z=>?_) a;cases x with
   |val v F=>exact h _ _ _ _ Z
   |skip F=>exact h _ _ _ _ Z
   |enter f args F=>exact R.bind_mono back Z
   |round l args F=>exact R.bind_mono back Z
   |defer d F=>trivial
   |recover F=>exact R.bind_mono (λr i=>h _ _ _ _ i) Z
   |gv v F=>exact Z
theorem Wt{Q:RG->Prop}{nt:Nat}{d:Option Tmp}{K b:RK}(h:Ib Q K b):Ib Q (Wu nt d K) (Wu nt d b):=by
 intro t ds ctx s a;unfold Wu at a ⊢;cases c:Pb nt d t with
 |none=>rw[c]at a;exact h _ _ _ _ a
 |some e=>rw[c]at a;exact R.bind_mono (λr f=>h _ _ _ _ f) a
theorem Lo{C:Ctx}{rec:Rec}{fi:FI}{ops:Array Oper}{Q:RG->Prop}{K a:RK}(h:Ib Q K a)(o:Oper):Ib Q (j7 C rec fi ops K o) (j7 C rec fi ops a o):=Oc (Wt h) o
def a6h(Q:RG->Prop)(K a:DK):Prop:=∀pe,Ib Q (K pe) (a pe)
theorem Ab{C:Ctx}{rec:Rec}{fi:FI}{ops:Array Oper}{Q:RG->Prop}{K d:DK}(h:a6h Q K d):∀l:List PS,a6h Q (jZ C rec fi ops K l) (jZ C rec fi ops d l)
 | []=>h
 |x::l=>by
  have c:=Ab (C:=C) (rec:=rec) (fi:=fi) (ops:=ops) h l;intro pe t ds ctx s e;cases x with
  |act i o=>exact Lo (c pe) o t ds ctx s e
  |ev i o=>show((R.Cy (UQ ops o C t s)).bind λv=>jZ C rec fi ops d l pe (put fi.nt t o.dst v) ds ctx s).path Q;exact R.bind_mono (f:=λv=>jZ C rec fi ops K l pe (put fi.nt t o.dst v) ds ctx s) (λv g=>c pe _ _ _ _ g) e
  |re i o=>
   show((R.Cy (UQ ops o C t s)).bind λv=>@Bool.rec (λ_=>R RG) (.bad "") (jZ C rec fi ops d l pe t ds ctx s) (j5 fi.nt t o.dst v)).path Q;refine R.bind_mono (f:=λv=>@Bool.rec (λ_=>R RG) (.bad "") (jZ C rec fi ops K l pe t ds ctx s) (j5 fi.nt t o.dst v)) (λv g=>?_) e;cases m:j5 fi.nt t o.dst v with
   |false=>trivial
   |true=>simp only[m]at g;exact c pe _ _ _ _ g
  |al i o=>
   show((R.Cy (eo ops o.guard t)).bind (Ff o i fi.nt (jZ C rec fi ops d l) C pe t ds ctx s)).path Q;refine R.bind_mono (f:=Ff o i fi.nt (jZ C rec fi ops K l) C pe t ds ctx s) (λb j=>?_) e;cases b with
   |false=>exact c pe _ _ _ _ j
   |true=>exact R.bind_mono (λr n=>c _ _ _ _ _ n) j
  |on i=>
   show(dOn i (jZ C rec fi ops d l) pe t ds ctx s).path Q;have a:(dOn i (jZ C rec fi ops K l) pe t ds ctx s).path Q:=e;unfold dOn at a ⊢;cases k:dW i pe with
   |none=>rw[k]at a;exact c pe _ _ _ _ a
   |some q=>rw[k]at a;exact c pe _ _ _ _ a
theorem uV{C:Ctx}{rec:Rec}{fi:FI}{ops:Array Oper}{K:DK}(m:List PS):∀l:List PS,jZ C rec fi ops K (l++m)=jZ C rec fi ops (jZ C rec fi ops K m) l
 | []=>rfl
 |x::l=>by
  show a09 C rec fi ops x (jZ C rec fi ops K (l++m))=a09 C rec fi ops x (jZ C rec fi ops (jZ C rec fi ops K m) l);rw[uV m l]
theorem kz(ops:List Oper)(q:List PI):∀p:List PI,link ops (p++q)=link ops p++link ops q
 | []=>rfl
 |x::p=>by
  show(match j9 ops x with|some y=>y::link ops (p++q)|none=>link ops (p++q))=(match j9 ops x with|some y=>y::link ops p|none=>link ops p)++link ops q;rw[kz ops q p];cases j9 ops x<;>rfl
section
variable{C:Ctx}{rec:Rec}{fi:FI}{ops:Array Oper}{t:Tr AV}{ds:List jh}{ctx:Option (List PE)}{s F:S}{o:Oper}
theorem R.qw {α:Type} {r:R α} {a:α} (h:R.Cy r=.ok a):r=.ok a:=by
 cases r with
 |ok b=>exact h
 |bad w=>cases h
 |ask n k=>cases h
 |must pc k=>cases h
theorem R.mn {α j:Type} {r:R α} {f:α->R j} {b:j} (h:(r>>=f)=.ok b):∃a,r=.ok a/\f a=.ok b:=by
 cases r with
 |ok a=>exact⟨a,rfl,h⟩
 |bad w=>cases h
 |ask n k=>cases h
 |must pc k=>cases h
theorem Rz{ops:Array Oper}{g:Option (Nat×Bool)}{t:Tr AV}{b:Bool}(h:eo ops g t=.ok b):v8 ops g t=none:=by
 unfold v8;cases g with
 |none=>rfl
 |some p=>
  obtain⟨i,w⟩:=p;have h':(@Option.rec Tmp (λ_=>R Bool) (.ok false) (λd=>@Option.rec AV (λ_=>R Bool) (.ok false) (a0E w) (t.get d)) (tu ops i))=.ok b:=h;simp only;cases a:tu ops i with
  |none=>rfl
  |some d=>
   rw[a]at h';simp only at h' ⊢;cases c:t.get d with
   |none=>rfl
   |some v=>
    rw[c]at h';cases v<;>first|rfl|skip
    cases h'
theorem oR(h:hI ops o C t s=.ok F):o.dst=none/\eo ops o.guard t=.ok true/\(∃ty a x,o.op=.store ty a x)/\sF o.op o.type C t s=.ok (.skip F)/\
  ∀b,A0 o C t=.ok b->Ic b (λs2=>hI ops o C t s2):=by
 unfold hI at h;cases w:o.dst with
 |some d=>rw[w]at h;cases h
 |none=>
  rw[w]at h;simp only at h;obtain⟨b,D,h⟩:=R.mn h;have n:=R.qw D;cases b with
  |false=>cases h
  |true=>
   simp only at h;cases l:o.op with
   |store ty a x=>
    rw[l]at h;simp only at h;obtain⟨p,y,h⟩:=R.mn h;obtain⟨v,A,h⟩:=R.mn h;refine⟨rfl,n,⟨ty,a,x,rfl⟩,?_,?_⟩
    .show uE ty a x o.type C t s=_;unfold uE;rw[y,A];show(storeAt C s ty p v>>=λF=>R.ok (Nx.skip F))=_;rw[h];rfl
    .intro B f;unfold A0 at f;rw[l]at f;simp only at f;obtain⟨p',m,f⟩:=R.mn f;rw[y]at m;injection m with m;subst m
     have z:∀s2,hI ops o C t s2=storeAt C s2 ty p v:=by intro s2;unfold hI;rw[w];simp only[n,l];show(do let p <-oL C t a;let v <-oL C t x;storeAt C s2 ty p v)=_;rw[y,A];rfl
     have gen:∀(j:S->List AV->R S),(∀c,Ic B λs2=>j s2 c)->(∀s2,storeAt C s2 ty p v=(do
       let i <-ti C ty
       let c <-v.cells
       match Nat.beq c.length i.size with
       |true=>j s2 c
       |false=>R.bad ""))->Ic B (λs2=>hI ops o C t s2):=by
      intro j r u;have h':=h;rw[u s]at h';obtain⟨i,V,h'⟩:=R.mn h';obtain⟨c,E,h'⟩:=R.mn h';have e:(λs2=>hI ops o C t s2)=λs2=>j s2 c:=by
       funext s2;rw[z s2,u s2,V,E];show(match Nat.beq c.length i.size with|true=>j s2 c|false=>R.bad "")=_;cases G:Nat.beq c.length i.size with
       |false=>rw[G]at h';cases h'
       |true=>rfl
      rw[e];exact r c
     cases p with
     |ptr b off=>simp only at f;injection f with f;subst f;exact gen (λs2 c=>jm s2 b off c) (λc=>a7S b off c) λs2=>rfl
     |jn b k g q=>simp only at f;injection f with f;subst f;exact gen (λs2 c=>jL C s2 b k g q c) (λc=>a4b C b k g q c) λs2=>rfl
     |_=>cases f
   |_=>rw[l]at h;cases h
theorem Ln(h:hI ops o C t s=.ok F)(K:RK):vP C rec fi ops K o t ds ctx s=K t ds ctx F:=by
 obtain⟨I,Y,⟨ty,a,x,b⟩,W,_⟩:=oR h;have e:vP C rec fi ops K o t ds ctx s=(hH ops o.guard t s).bind λr=>Be C rec fi fi.nt K o.dst o.op o.type t ds ctx r.2 r.1:=by cases o;rfl
 have e2:hH ops o.guard t s=.ok (true,s):=by unfold hH;rw[Rz Y,Y];rfl
 rw[e,e2];show DG C rec fi fi.nt K o.dst o.op o.type t ds ctx s=_;unfold DG;have c:rp o.op=none:=by rw[b];rfl
 rw[c];show(sF o.op o.type C t s).bind _=_;rw[W];show K (put fi.nt t o.dst iK) ds ctx F=_;rw[I];rfl
theorem yj(h:hI ops o C t s=.ok F)(K:RK):j7 C rec fi ops K o t ds ctx s=K t ds ctx F:=by unfold j7;rw[Ln h];obtain⟨I, -⟩:=oR h;unfold Wu;rw[I];rfl
theorem NZ{x y:Nat}{c d:Oper}{ra:List Nat}{a b:S}(Z:ops[x]? =some c)(g:ops[y]? =some d)(I:hI ops c C t s=.ok a)(Y:Gu ops fi.nt C t a ra=.ok ())(W:hI ops d C t a=.ok b)(pe:vb):
  nU C rec fi ops (link ops.toList (lb x y ra)) pe t ds ctx s=.ok (.fin t ds ctx b):=by
 unfold lb;rw[Ha Z];show j7 C rec fi ops (nU C rec fi ops (link ops.toList (ra.map PI.re++[.act y])) pe) c t ds ctx s=_;rw[yj I];clear I;induction ra with
 |nil=>show nU C rec fi ops (link ops.toList [.act y]) pe t ds ctx a=_;rw[Ha g];show j7 C rec fi ops (nU C rec fi ops (link ops.toList []) pe) d t ds ctx a=_;rw[yj W];rfl
 |cons i l h=>
  unfold Gu at Y;cases ho:nth ops.toList i with
  |none=>rw[ho]at Y;cases Y
  |some o=>
   rw[ho]at Y;simp only at Y;obtain⟨v,j,Y⟩:=R.mn Y;have e:ops[i]? =some o:=by rw[<-uF];exact ho
   cases f:j5 fi.nt t o.dst v with
   |false=>rw[f]at Y;cases Y
   |true=>rw[f]at Y;show nU C rec fi ops (link ops.toList (.re i::(l.map PI.re++[.act y]))) pe t ds ctx a=_;rw[Uv e];show(R.Cy (UQ ops o C t a)).bind (λv=>@Bool.rec (λ_=>R RG) (.bad "") (nU C rec fi ops (link ops.toList (l.map PI.re++[.act y])) pe t ds ctx a) (j5 fi.nt t o.dst v))=_;rw[j];show@Bool.rec (λ_=>R RG) (.bad "") (nU C rec fi ops (link ops.toList (l.map PI.re++[.act y])) pe t ds ctx a) (j5 fi.nt t o.dst v)=_;rw[f];exact h Y
theorem U0{k l:Oper}{ra rb:List Nat}{pe:vb}{r:RG}(h:Ja C fi ops k l ra rb pe t ds ctx s=.ok r):
  ∃f b i c,r=.fin t ds ctx b/\hI ops k C t s=.ok f/\Gu ops fi.nt C t f ra=.ok ()/\hI ops l C t f=.ok b/\
   hI ops l C t s=.ok i/\Gu ops fi.nt C t i rb=.ok ()/\hI ops k C t i=.ok c/\M9 c b:=by
 unfold Ja at h;obtain⟨d,I,h⟩:=R.mn h;obtain⟨a,Y,h⟩:=R.mn h;obtain⟨u,W,h⟩:=R.mn h;obtain⟨v,U,h⟩:=R.mn h;obtain⟨_,h5,h⟩:=R.mn h;obtain⟨f,h6,h⟩:=R.mn h;obtain⟨_,h7,h⟩:=R.mn h;obtain⟨b,x,h⟩:=R.mn h;obtain⟨i,y,h⟩:=R.mn h;obtain⟨_,m,h⟩:=R.mn h;obtain⟨c,n,h⟩:=R.mn h;injection h with h;have g:(!Nat.beq d a && !uR a u && !uR d v)=true:=by
  cases z:(!Nat.beq d a && !uR a u && !uR d v)with
  |true=>rfl
  |false=>rw[z]at h5;cases h5
 simp only[aM,im]at g;obtain⟨⟨g1,g2⟩,g3⟩:=g;have o:d≠a:=λe=>by subst e;rw[Nat.beq_refl]at g1;cases g1
 have p:=R.qw h6;have w:=R.qw x;have q:=R.qw y;have j:=R.qw n;refine⟨f,b,i,c,h.symm,p,R.qw h7,w,q,R.qw m,j,?_⟩;exact a0X ((oR p).2.2.2.2 d (R.qw I)) ((oR q).2.2.2.2 a (R.qw Y)) o (R.qw W) (R.qw U) g2 g3 p w q j
end
def Bef(x y:Nat):List Nat->Prop
 | []=>True
 |i::L=>i=x\/(i≠y/\Bef x y L)
theorem Kn{x y:Nat}:∀L:List Nat,Bef x y L\/Bef y x L
 | []=>.inl trivial
 |i::L=>by
  by_cases I:i=x
  .exact .inl (.inl I)
  .by_cases Y:i=y
   .exact .inr (.inl Y)
   .rcases Kn (x:=x) (y:=y) L with h|h
    .exact .inl (.inr ⟨Y,h⟩)
    .exact .inr (.inr ⟨I,h⟩)
theorem sK(y m:Nat):∀(all:List PO)(i:Nat),dR (ik y m all) i=(dR all i).map λp=>match Nat.beq p.i y with|true=>⟨p.i,Nat.lor p.before m,p.look,p.dst,p.kind⟩|false=>p
 | [],i=>by simp[ik,dR]
 |x::l,0=>rfl
 |x::l,i+1=>by
  show dR (ik y m l) i=_;rw[sK y m l i];rfl
theorem Ct{ops:Array Oper}{all:List PO}(h:lQ ops all)(y m:Nat):lQ ops (ik y m all):=by intro i p a;rw[sK]at a;simp only[bk]at a;obtain⟨q,b,rfl⟩:=a;obtain⟨o,I,Y,W,U,h5⟩:=h i q b;refine⟨o,I,?_⟩;split<;>exact⟨Y,W,U,h5⟩
theorem Gp{ops:Array Oper}{all:List PO}(b:lQ ops all){n x y:Nat}(d:x≠y){f:PO}(Z:dR all x=some f):
  ∀(L Ld:List Nat),Ql n all Ld L->((x∈Ld/\∀k,has f.before k=true->k∈Ld)\/Bef x y L)->Ql n (ik y (Nat.lor (bit x) f.before) all) Ld L
 | [],Ld,h,_=>h
 |i::L,Ld,⟨I,Y,W,U⟩,a=>by
  refine⟨I,Y,?_,Gp b d Z L (i::Ld) U ?_⟩
  .intro p g k hk;rw[sK]at g;simp only[bk]at g;obtain⟨q,j,rfl⟩:=g;obtain⟨o,_,l,_⟩:=b i q j;cases c:Nat.beq q.i y with
   |false=>rw[c]at hk;exact W q j k hk
   |true=>
    rw[c]at hk;have e:i=y:=by rw[<-l];exact bj c
    simp only[gD,il]at hk;have m:x∈Ld/\∀k,has f.before k=true->k∈Ld:=by
     rcases a with a|a
     .exact a
     .rcases a with a|⟨a,_⟩
      .exact absurd (a.symm.trans e) d
      .exact absurd e a
    rcases hk with hk|hk|hk
    .exact W q j k hk
    .grind[ka]
    .exact m.2 k hk
  .rcases a with⟨g1,g2⟩|a
   .grind
   .rcases a with a|⟨_,a⟩
    .grind
    .exact .inr a
theorem C1{all:List PO}{n:Nat}{p:List PI}(h:LY all n p=true):bL all n p ⟨0,0,0,0,0,0,0,0,[]⟩=true:=h
theorem HK{C:Ctx}{fi:FI}{ops:Array Oper}{d e:Oper}{ra rb:List Nat}{pe:vb}{t:Tr AV}{ds:List jh}{ctx:Option (List PE)}{s:S}{n:Nat}{k:Nat->R RG}(h:Ja C fi ops d e ra rb pe t ds ctx s=.ask n k):False:=by
 have key:∀{α j:Type}{r:R α}{f:α->R j}{n:Nat}{k:Nat->R j},(R.Cy r>>=f)=.ask n k->∃a,f a=.ask n k:=by
  intro α j r f n k h;cases r with
  |ok a=>exact⟨a,h⟩
  |bad w=>cases h
  |ask m g=>cases h
  |must pc g=>cases h
 have c:∀{j:Type}{b:Bool}{m:String}{f:Unit->R j}{n:Nat}{k:Nat->R j},(cq b m>>=f)=.ask n k->∃a,f a=.ask n k:=by
  intro j b m f n k h;cases b with
  |true=>exact⟨(),h⟩
  |false=>cases h
 unfold Ja at h;obtain⟨_,h⟩:=key h;obtain⟨_,h⟩:=key h;obtain⟨_,h⟩:=key h;obtain⟨_,h⟩:=key h;obtain⟨_,h⟩:=c h;obtain⟨_,h⟩:=key h;obtain⟨_,h⟩:=key h;obtain⟨_,h⟩:=key h;obtain⟨_,h⟩:=key h;obtain⟨_,h⟩:=key h;obtain⟨_,h⟩:=key h;cases h
theorem Ea{C:Ctx}{fi:FI}{ops:Array Oper}{d e:Oper}{ra rb:List Nat}{pe:vb}{t:Tr AV}{ds:List jh}{ctx:Option (List PE)}{s:S}{pc:List Fact}{k:R RG}(h:Ja C fi ops d e ra rb pe t ds ctx s=.must pc k):False:=by
 have key:∀{α j:Type}{r:R α}{f:α->R j}{pc:List Fact}{k:R j},(R.Cy r>>=f)=.must pc k->∃a,f a=.must pc k:=by
  intro α j r f pc k h;cases r with
  |ok a=>exact⟨a,h⟩
  |bad w=>cases h
  |ask m g=>cases h
  |must LB g=>cases h
 have c:∀{j:Type}{b:Bool}{m:String}{f:Unit->R j}{pc:List Fact}{k:R j},(cq b m>>=f)=.must pc k->∃a,f a=.must pc k:=by
  intro j b m f pc k h;cases b with
  |true=>exact⟨(),h⟩
  |false=>cases h
 unfold Ja at h;obtain⟨_,h⟩:=key h;obtain⟨_,h⟩:=key h;obtain⟨_,h⟩:=key h;obtain⟨_,h⟩:=key h;obtain⟨_,h⟩:=c h;obtain⟨_,h⟩:=key h;obtain⟨_,h⟩:=key h;obtain⟨_,h⟩:=key h;obtain⟨_,h⟩:=key h;obtain⟨_,h⟩:=key h;obtain⟨_,h⟩:=key h;cases h
theorem qv{C:Ctx}{base:Nat}{E A:G}{s F:S}{w M:World}(a:Step C base E s w A F M)(c:F.next=s.next):∀(e:SE)(d:Dt),ax A e=some d->ax E e=some d
 | .var i,d,h=>by
   simp only[ax,cV]at h ⊢;obtain⟨O,b,f⟩:=h;have k:i<s.next:=by
    rcases ed i s.next with h|h
    .exact h
    .rw[a.rel.new i (by omega)]at b;cases b
   rcases a.Se i O b with⟨l,j⟩|⟨I,_⟩
   .obtain⟨p,Y,m⟩:=a.grow i l j;rw[b]at Y;obtain rfl:=ae Y;exact⟨l,j,by rw[<-(ub m.2.2).2];exact f⟩
   .omega
 | .int _ _,d,h| .bool _,d,h| .str _,d,h=>h
 | .a1 o x,d,h=>by
   simp only[ax,cV]at h ⊢;obtain⟨u,g,h⟩:=h;exact⟨u,qv a c x u g,h⟩
 | .a2 o x y,d,h=>by
   simp only[ax,cV]at h ⊢;obtain⟨u,g,v,f,h⟩:=h;exact⟨u,qv a c x u g,v,qv a c y v f,h⟩
 | .a3 o x y z,d,h=>by
   simp only[ax,cV]at h ⊢;obtain⟨u,g,v,f,q,n,h⟩:=h;exact⟨u,qv a c x u g,v,qv a c y v f,q,qv a c z q n,h⟩
theorem HG{C:Ctx}{base:Nat}(i:Good C){ops:Array Oper}{nt:Nat}{e:SE}:∀(l:List Oper){E:G}{s:S}{w:World}{t:Tr AV}{tm:Array Value},Rel C base E s w->aW E nt t tm->WX C ops nt l t s=some e->∃b,ax E e=some (.val (.bool b))
 | [],E,s,w,t,tm,_,_,h=>by cases h
 |o::l,E,s,w,t,tm,r,f,h=>by
  unfold WX at h;cases j:v8 ops o.guard t with
  |some p=>obtain⟨x,want⟩:=p;rw[j]at h;obtain rfl:=ae h;exact Rn f ops o j
  |none=>
   rw[j]at h;simp only at h;cases g:eo ops o.guard t with
   |bad m=>rw[g]at h;cases h
   |ask n k=>rw[g]at h;cases h
   |must pc k=>rw[g]at h;cases h
   |ok b=>
    rw[g]at h;cases b with
    |false=>exact HG i l r (f.put o.dst jb) h
    |true=>
     simp only at h;cases ho:sF o.op o.type C t s with
     |bad m=>rw[ho]at h;cases h
     |ask n k=>rw[ho]at h;cases h
     |must pc k=>rw[ho]at h;cases h
     |ok x=>
      rw[ho]at h;cases x<;>first|(cases h;done)|skip
      rename_i v F;simp only at h;cases q:Nat.beq F.next s.next with
      |false=>rw[q]at h;cases h
      |true=>rw[q]at h;have u:=CT i r (a:=⟨tm,[]⟩) f o;rw[ho]at u;obtain⟨A,c,M,z,y,d⟩:=u;obtain⟨b,I⟩:=HG i l d.rel ((f.grow d.grow).put o.dst y) h;exact⟨b,qv d (bj q) e _ I⟩
theorem a04(C:Ctx)(base:Nat)(hC:Good C)(hM:C.P.follows .mixedOrders=true){rec:Rec}(p:fY C base rec){E:G}{s:S}{w:World}{fi:FI}{ro:Option Nat}{t:Tr AV}{tm:Array Value}{k:List Item}{ds:List jh}{ck:List Deferred}{ctx:Option (List PE)}{cs:List Frame}(id:Nat)(ops:Array Oper)
  (hR:Rel C base E s w) (ht:aW E fi.nt t tm) (U:rz E fi.roundOf ro) (V:dY fi.tl E ds=some ck) (j:ga E fi.kind ctx cs):
  (a1a C rec fi ops (vS ops.toList) t ds ctx s).path (rA C base E s w fi ro k cs (lone (aV fi ro tm (.code (.region id ops true)::k) ck .run) cs w)):=by
 show(@Bool.rec (λ_=>R RG) (.bad "") (dGo C rec fi ops (vS ops.toList) t ds ctx s) (Gv ops.toList (vS ops.toList))).path _;cases L:Gv ops.toList (vS ops.toList)with
 |false=>trivial
 |true=>
  show(dGo C rec fi ops (vS ops.toList) t ds ctx s).path _;unfold Gv at L;simp only[aM]at L;obtain⟨hb,L⟩:=L;have H:=Step.drawn hR (w.drawn+1);have hL:=IF hb (w.tape w.drawn (.order fi.fn id));have hs:=F7 (P:=C.P) (fi:=fi) (ro:=ro) (tm:=tm) (k:=k) (ds:=ck) (cs:=cs) (w:=w) (ops:=ops) (id:=id);rw[hM]at hs;have N:ops.toList.length=ops.size:=by simp
  have fin:∀(lp:List PS)(r:R RG)(all:List PO),r.path (QD ⟨C,base,fi,ops,all,lp,ro,k,E,s,{ w with drawn:=w.drawn+1 },cs,
     lone (aV fi ro tm (.inRegion ops (Region.schedule true ops (w.tape w.drawn (.order fi.fn id)))::k) ck .run) cs { w with drawn:=w.drawn+1 }⟩)->
    (r.bind (a1b fi.nt lp)).path (rA C base E s w fi ro k cs (lone (aV fi ro tm (.code (.region id ops true)::k) ck .run) cs w)):=by
   intro lp r all W;refine R.pb _ W λx Z=>?_
   refine R.aZ (λz O=>?_) (V2 Z);exact O.of_steps H (.one hs) (cF.refl j)
  cases hpl:vS ops.toList with
  |one acJ=>rw[hpl]at L;have hok:=C1 L;rw[N]at hok;exact fin _ _ _ (CR (k:=k) (ro:=ro) hC p H.rel ht U V j (mD ops) hok hL (link ops.toList acJ) (λ_ h=>h))
  |two pre x y ra rb=>
   rw[hpl]at L;have f:ZQ (fN ops.toList) ops.toList.length x y ra rb pre=true:=L;unfold ZQ at f;cases Z:dR (fN ops.toList) x with
   |none=>rw[Z]at f;cases f
   |some px=>
    cases hy:dR (fN ops.toList) y with
    |none=>rw[Z,hy]at f;cases f
    |some py=>
     rw[Z,hy,N]at f;simp only[aM,im]at f;obtain⟨⟨Mq,hA⟩,hB⟩:=f;have T:x≠y:=λe=>by subst e;rw[Nat.beq_refl]at Mq;cases Mq
     obtain⟨ox,X,_⟩:=mD ops x px Z;obtain⟨oy,Y,_⟩:=mD ops y py hy;show(match nth ops.toList x,nth ops.toList y with
      |some ox,some oy=>(jZ C rec fi ops (Ja C fi ops ox oy ra rb) (link ops.toList pre) [] t ds ctx s).bind (a1b fi.nt (link ops.toList pre))
      |_,_=>R.bad "").path _
     rw[uF,uF,X,Y];simp only;have A:∀(u v:Nat)(rr:List Nat)(B:Tr AV),gw fi.nt B (link ops.toList (pre++lb u v rr))=gw fi.nt B (link ops.toList pre):=by
      intro u v rr B;rw[kz];have aa8:∀q∈link ops.toList (lb u v rr),(∀i o,q≠.ev i o)/\∀i o,q≠.al i o:=by
       have hl:∀(l:List PI),(∀z∈l,(∃a,z=.act a)\/∃a,z=.re a)->∀q∈link ops.toList l,(∀i o,q≠.ev i o)/\∀i o,q≠.al i o:=by
        intro l;induction l with
        |nil=>intro _ q I;cases I
        |cons z l ih=>
         intro O q I;have g:q∈(match j9 ops.toList z with|some w=>w::link ops.toList l|none=>link ops.toList l):=I;have J:=ih (λz' hz'=>O z' (bQ _ hz'));cases hlo:j9 ops.toList z with
         |none=>rw[hlo]at g;exact J q g
         |some M=>
          rw[hlo]at g;rcases cC.1 g with rfl|g
          .rcases O z (by simp)with⟨a,rfl⟩|⟨a,rfl⟩
           .grind[j9,Option.map_eq_some_iff]
           .grind[j9,Option.map_eq_some_iff]
          .exact J q g
       refine hl _ ?_;intro z O;unfold lb at O;rcases cC.1 O with rfl|O
       .exact .inl ⟨_,rfl⟩
       .grind
      have ac0:∀l:List PS,(∀q∈l,(∀i o,q≠.ev i o)/\∀i o,q≠.al i o)->gw fi.nt B l=B:=by
       intro l;induction l with
       |nil=>intro _;rfl
       |cons q l ih=>
        intro h;have J:=ih (λq' g=>h q' (bQ _ g));cases q with
        |ev i o=>exact absurd rfl ((h _ (by simp)).1 i o)
        |al i o=>exact absurd rfl ((h _ (by simp)).2 i o)
        |_=>exact J
      have adi:∀l:List PS,gw fi.nt B (l++link ops.toList (lb u v rr))=gw fi.nt B l:=by
       intro l;induction l with
       |nil=>exact ac0 _ aa8
       |cons q l ih=>
        cases q with
        |ev i o=>show put fi.nt (gw fi.nt B (l++_)) o.dst .fO=put fi.nt (gw fi.nt B l) o.dst .fO;rw[ih]
        |al i o=>show put fi.nt (gw fi.nt B (l++_)) o.dst .fO=put fi.nt (gw fi.nt B l) o.dst .fO;rw[ih]
        |_=>exact ih
      exact adi _
     refine fin (link ops.toList pre) _ (fN ops.toList) ?_;rcases Kn (x:=x) (y:=y) (Region.schedule true ops (w.tape w.drawn (.order fi.fn id)))with hbf|hbf
     .have hLA:=Gp (mD ops) T Z _ [] hL (.inr hbf);have b:=CR (k:=k) (ro:=ro) hC p H.rel ht U V j (Ct (mD ops) _ _) (C1 hA) hLA (link ops.toList (pre++lb x y ra)) (λ_ h=>h);rw[kz]at b;unfold nU at b;rw[uV]at b;refine Ab (K:=jZ C rec fi ops a7X (link ops.toList (lb x y ra))) ?_ (link ops.toList pre) [] t ds ctx s (R.aZ ?_ b)
      .intro pe Q d c F I;cases hd:Ja C fi ops ox oy ra rb pe Q d c F with
       |bad m=>trivial
       |ask n kk=>exfalso;exact HK hd
       |must pc kk=>exfalso;exact Ea hd
       |ok r=>obtain⟨sx,sxy,sy,syx,rfl,e1,e2,e3,_⟩:=U0 hd;have:=NZ (rec:=rec) (ds:=d) (ctx:=c) X Y e1 e2 e3 pe;unfold nU at this;rw[this]at I;exact I
      .intro r W;cases r with
       |fin Q d c F=>exact W
       |gv ch Q d c F=>have D:rA C base E s { w with drawn:=w.drawn+1 } fi ro k cs _ (.gv ch (gw fi.nt Q (link ops.toList pre++link ops.toList (lb x y ra))) d c F):=W;rw[<-kz,A]at D;exact D
     .have hLB:=Gp (mD ops) (dt T) hy _ [] hL (.inr hbf);have b:=CR (k:=k) (ro:=ro) hC p H.rel ht U V j (Ct (mD ops) _ _) (C1 hB) hLB (link ops.toList (pre++lb y x rb)) (λ_ h=>h);rw[kz]at b;unfold nU at b;rw[uV]at b;refine Ab (K:=jZ C rec fi ops a7X (link ops.toList (lb y x rb))) ?_ (link ops.toList pre) [] t ds ctx s (R.aZ ?_ b)
      .intro pe Q d c F I;cases hd:Ja C fi ops ox oy ra rb pe Q d c F with
       |bad m=>trivial
       |ask n kk=>exfalso;exact HK hd
       |must pc kk=>exfalso;exact Ea hd
       |ok r=>obtain⟨sx,sxy,sy,syx,rfl,_,_,_,e1,e2,e3,aba⟩:=U0 hd;have:=NZ (rec:=rec) (ds:=d) (ctx:=c) Y X e1 e2 e3 pe;unfold nU at this;rw[this]at I;exact QD.same aba I
      .intro r W;cases r with
       |fin Q d c F=>exact W
       |gv ch Q d c F=>have D:rA C base E s { w with drawn:=w.drawn+1 } fi ro k cs _ (.gv ch (gw fi.nt Q (link ops.toList pre++link ops.toList (lb y x rb))) d c F):=W;rw[<-kz,A]at D;exact D
theorem drawn(C:Ctx)(base:Nat)(h:Good C)(j:C.P.follows .mixedOrders=true):Vq C base:=by
 intro rec c E s w fi ro t tm k ds ck ctx cs id ops d i f g a;show(PJ C rec fi ops 6 t ds ctx s).path _
 suffices H:∀(n:Nat)(s:S),Rel C base E s w->(PJ C rec fi ops n t ds ctx s).path (rA C base E s w fi ro k cs (lone (aV fi ro tm (.code (.region id ops true)::k) ck .run) cs w))from H 6 s d
 intro n;induction n with
 |zero=>intro s d;exact a04 C base h j c id ops d i f g a
 |succ n m=>
  intro s d;unfold PJ;cases o:WX C ops fi.nt ops.toList t s with
  |none=>exact a04 C base h j c id ops d i f g a
  |some e=>
   obtain⟨b,p⟩:=HG h _ d i o;refine R.pb _ (uB d p) λr l=>?_
   exact R.aZ (λz q=>q.of_steps l.2.1 (Steps.refl _ _) (cF.refl a)) (m r.2 l.2.1.rel)
def a4Q(a b:Option (List (List Fact))):Option (List (List Fact)):=
 match a with
 |none=>none
 |some x=>match b with
  |none=>none
  |some y=>some (x++y)
def a5Y(pc:List Fact)(a:Option (List (List Fact))):Option (List (List Fact)):=
 match a with
 |none=>none
 |some x=>some (pc::x)
def okO(b:Bool):Option (List (List Fact)):=
 match b with
 |true=>some []
 |false=>none
def R.res {α:Type} (p:α->Bool) (r:R α):Option (List (List Fact)):=
 @R.rec α (λ_=>Option (List (List Fact))) (λa=>okO (p a)) (λ_=>none) (λn _ c=>@Nat.rec (λ_=>Option (List (List Fact))) (some []) (λi b=>a4Q b (c i)) n) (λpc _ c=>a5Y pc c) r
def Unsat(pc:List Fact):Prop:=¬∃E:G,∀f∈pc,f.holds E
def qF(l:List (List Fact)):Prop:=∀pc∈l,Unsat pc
theorem Xb{a b:Option (List (List Fact))}{l:List (List Fact)}(h:a4Q a b=some l):∃x y,a=some x/\b=some y/\l=x++y:=by
 unfold a4Q at h;cases a with
 |none=>cases h
 |some x=>cases b with
  |none=>cases h
  |some y=>grind
theorem R.TM {α:Type} (p:α->Bool) (k:Nat->R α):∀(n:Nat)(l:List (List Fact)),R.res p (.ask n k)=some l->∀i,i<n->∃x,R.res p (k i)=some x/\∀pc∈x,pc∈l
 |0,_,_,i,h=>absurd h (qO i)
 |n+1,l,h,i,V=>by
  have e:R.res p (.ask (n+1) k)=a4Q (R.res p (.ask n k)) (R.res p (k n)):=rfl;rw[e]at h;obtain⟨x,y,I,Y,rfl⟩:=Xb h;rcases ed i n with h'|h'
  .obtain⟨z,W,U⟩:=R.TM p k n x I i h';exact⟨z,W,λpc a=>wZ _ (U pc a)⟩
  .grind
theorem R.jP {α:Type} {p:α->Bool} {pc:List Fact} {k:R α} {l:List (List Fact)} (h:R.res p (.must pc k)=some l):∃x,R.res p k=some x/\l=pc::x:=by
 have e:R.res p (.must pc k)=a5Y pc (R.res p k):=rfl;rw[e]at h;cases hk:R.res p k with
 |none=>rw[hk]at h;cases h
 |some x=>rw[hk]at h;exact⟨x,rfl,(ae h).symm⟩
theorem R.vL {α j:Type} {p:j->Bool} {Q:α->Prop} {f:α->R j}:∀{r:R α}{l:List (List Fact)},R.res p (r.bind f)=some l->qF l->r.path Q->∃a x,Q a/\R.res p (f a)=some x/\qF x
 | .ok a,l,h,d,b=>⟨a,l,b,h,d⟩
 | .bad _,_,h,_,_=>by cases h
 | .ask n k,l,h,d,⟨i,V,b⟩=>by
   obtain⟨x,I,Y⟩:=R.TM p (λi=>(k i).bind f) n l h i V;exact R.vL I (λpc c=>d pc (Y pc c)) b
 | .must pc k,l,h,d,b=>by
   obtain⟨x,I,rfl⟩:=R.jP (k:=k.bind f) h;rcases b with b|b
   .exact absurd b (d pc bB)
   .exact R.vL I (λLB c=>d LB (bQ _ c)) b
def G0:List Func->Bool
 | []=>true
 |f::l=>match f.body.isSome&&(f.name== "runtime.NumGoroutine")with
  |true=>false
  |false=>G0 l
theorem DY:∀{l:List Func},G0 l=true->∀f∈l,f.body.isSome=true->(f.name== "runtime.NumGoroutine")=false
 | [],_,_,h=>by cases h
 |g::l,h,f,b=>by
  unfold G0 at h;cases a:(g.body.isSome&&(g.name== "runtime.NumGoroutine"))with
  |true=>rw[a]at h;cases h
  |false=>
   rw[a]at h;intro c;cases b with
   |head=>rw[c]at a;simpa using a
   |tail _ b=>exact DY h f b c
theorem a0B{P:Program}{eqT:Nat->Bool}{X:List (FuncId×Ext)}{K L:List bX}(a:∀c∈L,j3 P c)(b:∀c∈K,fy P c)(I:KT P=true)(Y:G0 P.funcs.toList=true)
  (W:∀f e,wC f X=some e->Nc P f e):Good (iD P eqT X K L):=
 ⟨rfl,b,a,I,λf fn d g=>DY Y fn (by have:=Array.mem_of_getElem? (xs:=P.funcs) d;simpa using this) g,W⟩
structure a1V(E:G)(s:S)(w M:World):Prop where
 size:w.heap.size<=M.heap.size
 tape:M.tape=w.tape
 os:M.os=w.os
 output:M.output=w.output
 stays:∀(k:Nat)(o:Obj),w.heap[k]? =some o->¬Live E s k->M.heap[k]? =some o
def a6g(E:G)(o:Out)(e:Ending):Prop:=
 match o.res with
 | .ret v=>∃c,ai E v=some c/\e=.returned c
 | .gv ch=>∃c,gM E ch=some c/\e=.panicked c
theorem MT{C:Ctx}(y:Good C)(Q:C.P.follows .mixedOrders=true){base:Nat}{E:G}{s:S}{w:World}(T:Rel C base E s w){f:FuncId}{args:List AV}{b:List Value}(g:aN E args=some b)(n:Nat)
  {j:Type} {p:j->Bool} {look:Out->R j} {l:List (List Fact)} (h:R.res p ((uU C (Et C n) f args .normal none s).bind look)=some l) (U:qF l):
  Calls C.P f ⟨b⟩ w λe M=>∃A o x,Step C base E s w A o.s M/\R.res p (look o)=some x/\qF x/\a6g A o e:=by
 intro cs;have V:=vZ y (CL y (drawn C base y Q) n) T f g .normal (ctx:=none) (cs:=cs) rfl;obtain⟨o,x,⟨⟨fn,z⟩,nt,A,M,B,k,N,D,c⟩,Z,m⟩:=R.vL h U V;have q:B=cs:=D;subst q;obtain⟨res,d,os⟩:=o;cases res with
 |ret v=>obtain⟨O,F,i,a,r,hk,H,I,J,t,K⟩:=c;exact⟨.returned O,M,i,⟨A,⟨.ret v,d,os⟩,x,k,Z,m,O,F,rfl⟩,a,r,H,I,hk,J,by rw[r];exact t,K⟩
 |gv ch=>obtain⟨u,L,i,a,r,H,I⟩:=c;exact⟨.panicked u,M,i,⟨A,⟨.gv ch,d,os⟩,x,k,Z,m,u,L,rfl⟩,a,r,H,I,fn,by rw[r];exact z⟩
theorem IX{s:S}(e:∀g b,s.h.get g=some b->ez b=true){E:G}{w M:World}(h:a1V E s w M):w.keptBut M (λ_=>False):=by
 refine⟨h.os,h.output,λi V=>?_⟩;have d:w.heap[i]? =some w.heap[i]:=fb V;have a:=h.stays i _ d (λ⟨id,b,l,I,Y,_⟩=>by rw[e id b I]at Y;cases Y);rw[d,a];cases w.heap[i]with
 |cells c t f=>exact⟨rfl,rfl,rfl,λ_ _=>rfl⟩
 |map J clock=>exact .inr ⟨rfl,rfl⟩
 |_=>rfl
theorem Zr{H:Type}{vn:TypeId×Value->H}{P:Program}{f:Func}{s:ChangeSpec}{apart d a:Bool}{W j:World}{args:Array Value}{v:Value}{ds gs:List (DataW H)}{before pa pv:List MemPlace}
  (n:DataW.Whole vn P f.params.toList s.vars apart W args.toList ds gs before)
  (k:∀(b:Nat)(e:Nat->Bool)(o:Bool),DataW.TrodAll vn P j b e o f.resultTypes.toList (v.resultList f.resultTypes.size) (s.fn H (ds++gs)).results [])
  (g:∀e:Nat->Bool,(∀p∈before,e p.block=true)->DataW.TrodAll vn P j 0 e true f.params.toList args.toList (s.fn H (ds++gs)).args pa)
  (i:∀e:Nat->Bool,(∀p∈before,e p.block=true)->DataW.TrodVars vn P j e s.vars (s.fn H (ds++gs)).vars pv)
  (m:before=pa++pv) (hk:W.keptBut j (·∈before)):s.post vn P f apart d a false W args v j:=by
 have c:∀p∈before,(λb=>decide (b<W.heap.size)) p.block=true:=λp l=>by simpa using n.lt p l
 refine⟨ds,gs,before,[],pa,pv,n,k _ _ _,g _ c,i _ c,World.keptBut_mono (λp l=>⟨l,?_⟩) hk,λh=>by cases h⟩;rw[m,kR]at l;exact .inr l
theorem WD{w M:World}{may:MemPlace->Prop}(h:w.keptBut M (λ_=>False)):w.keptBut M may:=World.keptBut_mono (λ_ f=>f.elim) h
def a1Z(P:Program):List (FuncId×Ext)->Prop
 | []=>True
 |x::l=>Nc P x.1 x.2/\a1Z P l
theorem UN{P:Program}:∀{X:List (FuncId×Ext)},a1Z P X->∀f e,wC f X=some e->Nc P f e
 | [],_,f,e,h=>by cases h
 |x::l,Z,f,e,h=>by
  have e1:wC f (x::l)=match Nat.beq x.1 f with|true=>some x.2|false=>wC f l:=rfl
  rw[e1]at h;cases a:Nat.beq x.1 f with
  |true=>rw[a]at h;injection h with h;subst h;have:=bj a;subst this;exact Z.1
  |false=>rw[a]at h;exact UN Z.2 f e h
theorem BZ{H:Type}{vn:TypeId×Value->H}{a:Assume}{C:Checked}{os:Os}{f:FuncId}{fn:Func}{s:ChangeSpec}{c:List PathCond}{apart g b again:Bool}{X:World->Array Value->Prop}
  (z:∀(w M:World)(args:Array Value),w.heap=M.heap->X w args->X M args)
  (own:ownKnob C.prog.godebug=none) (h:os.Started) (l:C.prog.inits.idxOf? f=none) (p:C.prog.funcs[f]? =some fn)
  (k:∃(w:World)(tape:Tape)(i:Input),w.os=os/\(w.forCall tape i).Shaped C.prog/\i.vars=[]/\Input.okWide C.prog (w.forCall tape i) .any w.heap.size f i/\
    ((s.pre vn C.prog fn c apart (w.forCall tape i).memory i.args/\X (w.forCall tape i).memory i.args)/\sizedMet vn C.prog fn (OpenSpec.ofChange s) apart (w.forCall tape i).memory i.args)/\a.holds C.prog (lone (Frame.enter C.prog f i.args .normal) [] (w.forCall tape i)))
  (d:∀(W:World)(base:Nat)(args:Array Value)(ds gs:List (DataW H))(before:List MemPlace),
    (∀(j:Nat)t v,fn.params[j]? =some t->args[j]? =some v->Value.okWide C.prog W .any base t v)->
    DataW.Whole vn C.prog fn.params.toList s.vars apart W args.toList ds gs before->
    c.all (PathCond.test C.prog ⟨fn.params.toList,ds,s.plain.varTypes C.prog,gs⟩)=true->
    W.ShapedOpen C.prog->X W args->
    Calls C.prog f args W λe y=>∃v,e=.returned v/\s.post vn C.prog fn apart g b again W args v y):
  ReturnsInHanded a C os f .any (λw args=>(s.pre vn C.prog fn c apart w args/\X w args)/\sizedMet vn C.prog fn (OpenSpec.ofChange s) apart w args) (s.post vn C.prog fn apart g b again):=by
 refine returnsInHanded_of_calls own h l k ?_;intro w tape i _ q _ r m _;obtain⟨_,_,_,u,n,_,_,_,_,o⟩:=r;have e:u=fn:=ae (n.symm.trans p);subst e;obtain⟨⟨⟨ds,gs,before,A,B⟩,Z⟩,_⟩:=m;have x:=DataW.Whole.of_heap (show(w.forCall tape i).memory.heap=(w.forCall tape i).heap from rfl) A;refine(d (w.forCall tape i) w.heap.size i.args ds gs before o x B q (z _ _ _ (by rfl) Z)).mono λe y⟨v,D,E⟩=>?_
 subst D;exact ChangeSpec.post_blind E
theorem Mn{P:Program}{w:World}{g t:Nat}(h:w.ShapedOpen P)(b:Nat.blt g P.globals.size=true)
  (c:(((begin P (λ_ _=>0) default).world.heap[g]?).bind Obj.row?)=some (#[.int .i64 0],t)) (a:∃m,w.cell? ⟨g,0,none⟩=some (.int .i64 m)):
  ∃(vs:Array Value)(m:Int),w.heap[g]? =some (.cells vs t (0,0))/\vs[0]? =some (.int .i64 m):=by
 obtain⟨cs,I, -, -⟩:=h.1 g _ t (bZ b) c;obtain⟨m,a⟩:=a;refine⟨cs,m,I,?_⟩;simpa[World.cell?,I]using a
theorem hi{D:Nat->SE}{pc:List Fact}{E:G}(c:∀f∈pc,f.holds E):∀{l:List Fact}{x:List (List Fact)},R.res (λ_=>true) (dZ pc D l)=some x->qF x->∀f∈l,f.pos=true/\(f.sub D).holds E
 | [],_,_,_=>λf a=>by cases a
 | .tr e::l,x,h,g=>by
   have h:R.res (λ_=>true) (match yF (SE.sub D e) pc with|true=>dZ pc D l|false=>R.must (.rel "" true pTr [SE.sub D e]::pc) (dZ pc D l))=some x:=h;cases hk:yF (SE.sub D e) pc with
   |true=>
    rw[hk]at h;intro f a;cases a with
    |head=>exact⟨rfl,zP c hk⟩
    |tail _ a=>exact hi c h g f a
   |false=>
    rw[hk]at h;obtain⟨y,I,rfl⟩:=R.jP h;intro f a;cases a with
    |head=>
     refine⟨rfl,Lm.1 ?_⟩;by_cases d:∃ds,jj E [SE.sub D e]=some ds/\pTr ds
     .exact d
     .refine absurd ⟨E,λf a=>?_⟩ (g _ bB);cases a with
      |head=>exact d
      |tail _ a=>exact c f a
    |tail _ a=>exact hi c I (λLB d=>g LB (bQ _ d)) f a
 | .fl e::l,x,h,g=>by
   have h:R.res (λ_=>true) (match yG (SE.sub D e) pc with|true=>dZ pc D l|false=>R.must (.rel "" true pFl [SE.sub D e]::pc) (dZ pc D l))=some x:=h;cases hk:yG (SE.sub D e) pc with
   |true=>
    rw[hk]at h;intro f a;cases a with
    |head=>exact⟨rfl,zQ c hk⟩
    |tail _ a=>exact hi c h g f a
   |false=>
    rw[hk]at h;obtain⟨y,I,rfl⟩:=R.jP h;intro f a;cases a with
    |head=>
     refine⟨rfl,Rc.1 ?_⟩;by_cases d:∃ds,jj E [SE.sub D e]=some ds/\pFl ds
     .exact d
     .refine absurd ⟨E,λf a=>?_⟩ (g _ bB);cases a with
      |head=>exact d
      |tail _ a=>exact c f a
    |tail _ a=>exact hi c I (λLB d=>g LB (bQ _ d)) f a
 | .inr i n::l,x,h,g=>by
   have h:R.res (λ_=>true) (match sr (SE.sub D i) (SE.sub D n) pc with|true=>dZ pc D l|false=>R.must (.rel "" true Wb [SE.sub D i,SE.sub D n]::pc) (dZ pc D l))=some x:=h;cases hk:sr (SE.sub D i) (SE.sub D n) pc with
   |true=>
    rw[hk]at h;intro f a;cases a with
    |head=>exact⟨rfl,wz c hk⟩
    |tail _ a=>exact hi c h g f a
   |false=>
    rw[hk]at h;obtain⟨y,I,rfl⟩:=R.jP h;intro f a;cases a with
    |head=>
     refine⟨rfl,Gs.1 ?_⟩;by_cases d:∃ds,jj E [SE.sub D i,SE.sub D n]=some ds/\Wb ds
     .exact d
     .refine absurd ⟨E,λf a=>?_⟩ (g _ bB);cases a with
      |head=>exact d
      |tail _ a=>exact c f a
    |tail _ a=>exact hi c I (λLB d=>g LB (bQ _ d)) f a
 | .rel nm b p args::l,x,h,g=>by
   cases b with
   |true=>cases h
   |false=>
    obtain⟨y,I,rfl⟩:=R.jP (show R.res (λ_=>true) (.must (.rel nm true p (SE.iq D args)::pc) (dZ pc D l))=some x from h);intro f a;cases a with
    |head=>
     refine⟨rfl,?_⟩;by_cases d:∃ds,jj E (SE.iq D args)=some ds/\p ds
     .exact d
     .refine absurd ⟨E,λf a=>?_⟩ (g _ bB);cases a with
      |head=>exact d
      |tail _ a=>exact c f a
    |tail _ a=>exact hi c I (λLB d=>g LB (bQ _ d)) f a
theorem Bj{h:Tr gn}{a:Nat->Nat}{d:Nat->SE}:∀{l:List (Nat×CB)},Bk h a d l=true->∀x∈l,∃b,h.get (a x.1)=some b/\sI b (x.2.sub a d)=true/\x.2.live=true
 | [],_,x,Z=>by cases Z
 |y::l,e,x,Z=>by
  unfold Bk at e;cases c:h.get (a y.1)with
  |none=>rw[c]at e;cases e
  |some b=>
   rw[c]at e;simp only[aM]at e;cases Z with
   |head=>exact⟨b,c,e.1,e.2.1⟩
   |tail _ Z=>exact Bj e.2.2 x Z
theorem Js{n next:Nat}{l:List (Nat×Nat)}(a:n<=next):(∀i,i<n->QP n next l i=i)/\∀i,n<=i->n<=QP n next l i:=by
 refine⟨λi h=>by unfold QP;rw[lM h],λi h=>?_⟩;unfold QP;rw[pg h];simp only;cases nP i l with
 |none=>exact a
 |some j=>
  simp only;cases b:Nat.ble n j with
  |true=>exact bZ b
  |false=>exact a
theorem JV{n m:Nat}{l:List (Nat×SE)}:(∀i,i<n->RN n m l i=.var i)/\∀(E:G)i,n+m<=i->ax E (RN n m l i)=none:=by refine⟨λi h=>by unfold RN;rw[lM h],λE i h=>?_⟩;unfold RN;rw[pg (show n<=i by omega)];simp only;rw[show Nat.blt i (Nat.add n m)=false from pg h];rfl
theorem rZ{C:Ctx}{base:Nat}{c:bX}{gv:Bool}{s:S}{v:AV}{E:G}{w:World}{z:Value}(g:Rel C base E s w)(t:ai E v=some z)(j:c.n<=s.next):∀{l:List ee}{x:List (List Fact)},R.res (λ_=>true) (lG C c gv s v l)=some x->qF x->
  ∃o,o∈l/\o.gv=gv/\∃(A:G)(F:S)(B:AV)(u:Nat->Nat)(k:Nat->SE),Step C base E s w A F w/\ai A B=some z/\(∀i,i<c.n->u i=i/\k i=.var i)/\(∀i,c.n<=i->c.n<=u i)/\(∀i,c.n+o.m<=i->ax A (k i)=none)/\
   E8 F B o u k=true/\∀f∈o.facts,f.pos=true/\(f.sub k).holds A
 | [],x,h,p=>by
   obtain⟨y, -,rfl⟩:=R.jP (show R.res (λ_=>true) (R.must s.pc (R.ok ()))=some x from h);exact absurd ⟨E,λf b=>(g.pc f b).2⟩ (p s.pc bB)
 |o::l,x,h,p=>by
  unfold lG at h;cases q:a9I o.gv gv with
  |true=>rw[q]at h;obtain⟨T,W,Y⟩:=rZ g t j h p;exact⟨T,bQ _ W,Y⟩
  |false=>
  rw[q]at h;have d:o.gv=gv:=by cases ho:o.gv<;>cases gv<;>rw[ho]at q<;>first|rfl|cases q
  simp only at h;obtain⟨r,y,⟨A,a,D⟩,I,e⟩:=R.vL h p (JM o.res v g t);revert I;obtain⟨_,tl,H⟩:=L5 c.n r.2.h o.post (RT o.res r.1 (.nil,[],[]));intro I;simp only at I;cases b:E8 r.2 r.1 o (QP c.n r.2.next tl) (RN c.n o.m H)with
  |true=>rw[b]at I;exact⟨o,bB,d,A,r.2,r.1,_,_,a,D,λi V=>⟨(Js (iG j a.next)).1 i V,JV.1 i V⟩,(Js (iG j a.next)).2,JV.2 A,b,hi (λf b=>(a.rel.pc f b).2) I e⟩
  |false=>rw[b]at I;obtain⟨T,W,Y⟩:=rZ g t j I e;exact⟨T,bQ _ W,Y⟩
def CU(k:Kd)(l:List Dt):Prop:=∃d,l=[d]/\k.fits d
def tyV(v:AV):List Fact:=
 match v with
 | .cE k e=>[.rel "" false (CU k) [e]]
 |_=>[]
def tyT(a:List (Nat×AV)):List (Nat×AV)->List Fact
 | []=>[]
 |x::l=>(match jI x.1 a with
  |some v=>tyV v
  |none=>[])++tyT a l
def tyC(cs:Tr AV):Nat->List Fact
 |0=>[]
 |n+1=>(match cs.get n with
  |some v=>tyV v
  |none=>[])++tyC cs n
def tyB(h:Tr gn):List (Nat×CB)->List Fact
 | []=>[]
 |x::l=>(match h.get x.1 with
  |some b=>(match b with
   | .cells _ cs n _ _ st _=>(match st with
     |true=>[]
     |false=>tyC cs n)
   |_=>[])
  |none=>[])++tyB h l
def bX.S2 (c:bX):_root_.Go.Proofs.YtokipodjggomfaaGreatDoor.Abs.S:=⟨c.S.h,c.n,tyT (AY Xg .var c.t) c.t++(tyB c.S.h c.pre++c.facts)⟩
theorem Jl{E:G}{v:AV}{c:Value}(h:VR E v c):∀f∈tyV v,f.pos=true/\f.holds E:=by
 intro f b;cases v with
 |cE k e=>
  obtain rfl:f=.rel "" false (CU k) [e]:=List.mem_singleton.1 b;refine⟨rfl,?_⟩;rcases h with h|h
  .cases h
  .simp only[ai,cV]at h;obtain⟨d,g,a⟩:=h;unfold Kd.see at a;split at a
   .next hk=>
    refine⟨[d],?_,d,rfl,hk⟩;show(ax E e).bind (λd=>(some []).map λr=>d::r)=_;rw[g];rfl
   .cases a
 |_=>cases b
theorem Jm{E:G}{nt:Nat}{a:List (Nat×AV)}{tm:Array Value}(h:aW E nt (Ir nt a) tm):∀{l:List (Nat×AV)},∀f∈tyT a l,f.pos=true/\f.holds E
 | [],f,b=>by cases b
 |x::l,f,b=>by
  unfold tyT at b;rcases kR.1 b with b|b
  .cases d:jI x.1 a with
   |none=>rw[d]at b;cases b
   |some v=>rw[d]at b;obtain⟨-,c, -,e⟩:=h.2.1 x.1 v (by rw[CH,d]);exact Jl e f b
  .exact Jm h f b
theorem Jn{E:G}{cs:Tr AV}{m:Nat}(h:∀i v,i<m->cs.get i=some v->∃c,VR E v c):∀{n:Nat},n<=m->∀f∈tyC cs n,f.pos=true/\f.holds E
 |0,_,f,a=>by cases a
 |n+1,b,f,a=>by
  unfold tyC at a;rcases kR.1 a with a|a
  .grind[Jl]
  .exact Jn h (Nat.le_of_succ_le b) f a
theorem Jo{C:Ctx}{base:Nat}{E:G}{s:S}{w:World}(d:Rel C base E s w):∀{l:List (Nat×CB)},∀f∈tyB s.h l,f.pos=true/\f.holds E
 | [],f,a=>by cases a
 |x::l,f,a=>by
  unfold tyB at a;rcases kR.1 a with a|a
  .cases c:s.h.get x.1 with
   |none=>rw[c]at a;cases a
   |some b=>
    rw[c]at a;obtain⟨B,o, -, -,e⟩:=d.aO _ _ c;cases b with
    |cells elem cs n fz gU st sg=>
     cases st with
     |true=>cases a
     |false=>obtain⟨vs,lo,V, -, -,g, -⟩:=e;exact Jn (λi v V j=>(g i v V j).imp λ_ h=>h.2) (bD n) f a
    |_=>cases a
  .exact Jo d f a
theorem Dq{C:Ctx}(O:Good C)(hM:C.P.follows .mixedOrders=true)(c:bX)(n:Nat){l:List (List Fact)}
  (h:∀tl,R.res (λ_=>true) ((Et C n (c.fi tl) c.tr c.todo [] .run none c.S2).bind (uY C c))=some l) (hu:qF l):fy C.P c:=by
 obtain⟨hT,hG⟩:=Px O;have hP:C.P=(iD C.P (λ_=>false) []).P:=rfl;intro base E ro tl tm items cs w d;have u:jg (iD C.P (λ_=>false) []) base E (c.fi tl) ro c.tr c.todo [] .run none c.S2 tm items tl .run cs w:=
  ⟨⟨d.rel.aO,d.rel.sep,d.rel.new,d.rel.gm,d.rel.low,d.rel.bs,λf k=>by
     rcases kR.1 k with k|k
     .exact Jm d.tmps f k
     .rcases kR.1 k with k|k
      .exact Jo d.rel f k
      .exact d.rel.pc f k,d.rel.rd⟩,d.ro,d.tmps,d.todo,d.defs,d.mode,d.ctx,d.fn,d.rk⟩
 have conv:∀{A:G}{F:S}{M:World},Step (iD C.P (λ_=>false) []) base E c.S2 w A F M->Step (iD C.P (λ_=>false) []) base E c.S w A F M:=λh=>⟨h.grow,h.rel,⟨h.keep.size,h.keep.tape,h.keep.os,h.keep.output,h.keep.stays⟩,h.live,h.next,h.Xi,h.Se,h.p0,h.rdz⟩
 have hs:=CL O (drawn C base O hM) n E (c.fi tl) ro c.tr c.todo [] .run none c.S2 tm items tl .run cs w (u.over hP.symm hT.symm hG.symm);obtain⟨o,x,⟨m,M,q,r,adJ,Q,s⟩,Z,z⟩:=R.vL (h tl) hu hs;have D:q=cs:=Q;subst D;obtain⟨res,a7f,s1⟩:=o;have fin:∀{v:AV}{t:Value}{gv:Bool},ai m v=some t->R.res (λ_=>true) (lG C c gv s1 v c.outs)=some x->acj (iD C.P (λ_=>false) []) (c.fi tl) q (lone (aV (c.fi tl) ro tm items tl .run) q w) M t gv->Nd C.P c base E (lone (aV (c.fi tl) ro tm items tl .run) q w) tl q w:=by
  intro v t gv j Z g;obtain⟨o,ho,H,J,s2,v2,θ,ν,K,L,I,Y,W,U,h5⟩:=rZ r.rel j r.next Z z;simp only[E8,aM]at U;obtain⟨g1,g2,g3⟩:=U;have g1:=ij _ _ g1;subst g1;exact⟨o,ho,J,s2,M,θ,ν,t,conv ((r.trans K).ctx hP hT hG),I,Y,λx Z=>by
   obtain⟨b,q1,q2,q3⟩:=Bj g2 x Z;obtain⟨B,ob,r1, -, -⟩:=K.rel.aO _ b q1;exact⟨b,B,q1,by rw[(ru q2).2,qh,q3];rfl,r1,λob T=>(ru q2).1 _ J B ob T⟩,λx Z y hy V=>GY g3 x Z y hy V,W,h5,L,by rw[H];exact g⟩
 have none_:R.res (λ_=>true) (R.must s1.pc (R.ok ()))=some x->False:=λZ=>by
  obtain⟨y, -,rfl⟩:=R.jP Z;exact z s1.pc bB ⟨m,λf k=>(r.rel.pc f k).2⟩
 cases res with
 |gv ch=>
  cases ch with
  |nil=>exact(none_ Z).elim
  |cons p l=>
   cases l with
   |cons _ _=>exact(none_ Z).elim
   |nil=>
    obtain⟨pv,pr⟩:=p;cases pr with
    |true=>exact(none_ Z).elim
    |false=>
     obtain⟨N,e,X,k1,k2,k3,k4⟩:=s;have e:(match kq m ⟨pv,false⟩,gM m []with|some a,some b=>some (a::b)|_,_=>none)=some N:=e;unfold kq at e;cases j:ai m pv with
     |none=>rw[j]at e;cases e
     |some t=>rw[j]at e;obtain rfl:=ae (show some [({ v:=t,recovered:=false }:PanicEntry)]=some N from e);exact fin j (show R.res (λ_=>true) (lG C c true s1 pv c.outs)=some x from Z) ⟨X,k1,k2,k3,k4⟩
 |ret v=>
  obtain⟨t,j,g⟩:=s;refine fin j (show R.res (λ_=>true) (lG C c false s1 v c.outs)=some x from Z) ?_;show Qm _ _ _ _ _ _;unfold Qm;cases hr:(c.fi tl).roundOf with
  |none=>rw[hr]at g;exact g
  |some i=>rw[hr]at g;exact g
section
mutual
def Qr:Dt->Nat
 | .val _=>1
 | .sl _ _ _ J=>dk J+1
 | .pt _ _ _ _ _ _=>1
 | .ls _ J=>dk J+1
def dk:List Dt->Nat
 | []=>0
 |d::l=>Qr d+dk l
end
theorem eH:∀{l m:List Dt},dk (l++m)=dk l+dk m
 | [],m=>by simp[dk]
 |d::l,m=>by simp only[kg,dk,eH (l:=l)];omega
theorem a3x:∀(d:Dt),1<=Qr d:=by intro d;cases d<;>simp only[Qr]<;>omega
theorem BJ:∀{l:List Dt},l.length<=dk l
 | []=>wY _
 |d::l=>by
  have:=a3x d;have:=BJ (l:=l);simp only[cD,dk];omega
theorem G3(l:List Dt)(n:Nat):dk (l.take n)+dk (l.drop n)=dk l:=by grind[eH,List.take_append_drop]
mutual
def Ak{H:Type}:DataW H->Nat
 | .lit (.string bytes)=>bytes.length+1
 | .lit _=>1
 | .nil=>1
 | .ptr d=>Ak d+1
 | .slice elems spare=>hW elems+hW spare+1
 | .agg parts=>hW parts+1
 | .iface _ d=>Ak d+1
 | .map entries=>Eg entries+1
 | .held _=>1
def hW{H:Type}:List (DataW H)->Nat
 | []=>0
 |d::r=>Ak d+hW r
def Eg{H:Type}:List (Lit×DataW H)->Nat
 | []=>0
 |x::r=>W3 x+Eg r
def W3{H:Type}:Lit×DataW H->Nat
 |(.string bytes,d)=>bytes.length+Ak d+1
 |(_,d)=>Ak d+1
end
def zR(C:Ctx)(w:World)(F:Nat->Prop):List Kd->List Dt->Prop
 | [],[]=>True
 |k::P,d::ds=>k.fits d/\d.ej C w F/\zR C w F P ds
 |_,_=>False
section
variable{C:Ctx}{w:World}{F:Nat->Prop}
theorem nS:∀{P:List Kd}{ds:List Dt},zR C w F P ds->ds.length=P.length
 | [],[],_=>rfl
 |_::_,_::_,h=>by simp[nS h.2.2]
 | [],_::_,h=>h.elim
 |_::_,[],h=>h.elim
theorem B2:∀{P:List Kd}{ds:List Dt}{i:Nat}{d:Dt},zR C w F P ds->ds[i]? =some d->∃k,P[i]? =some k/\k.fits d/\d.ej C w F
 | [],[],i,d,_,h=>by simp at h
 |k::P,d::ds,0,d',h,e=>by
  simp only[dj,aD]at e;subst e;exact⟨k,rfl,h.1,h.2.1⟩
 |k::P,d::ds,i+1,d',h,e=>by simpa using B2 (i:=i) h.2.2 (by simpa using e)
 | [],_::_,_,_,h,_=>h.elim
 |_::_,[],_,_,h,_=>h.elim
theorem D4:∀{P a:List Kd}{ds b:List Dt},zR C w F P ds->zR C w F a b->zR C w F (P++a) (ds++b)
 | [],_,[],_,_,h=>h
 |_::_,_,_::_,_,h,h'=>⟨h.1,h.2.1,D4 h.2.2 h'⟩
 | [],_,_::_,_,h,_=>h.elim
 |_::_,_,[],_,h,_=>h.elim
theorem Dt.cu.mk {P:List Kd}:∀{l:List Dt}{j:Nat},(∀(i:Nat)d,l[i]? =some d->(∃k,P[(j+i)%P.length]? =some k/\k.fits d)/\d.ej C w F)->Dt.cu C w F P j l
 | [],_,_=>trivial
 |d::l,j,h=>⟨(h 0 d rfl).1,(h 0 d rfl).2,Dt.cu.mk λi d' V=>by
   have:=h (i+1) d' (by simpa using V)
   rwa [show j+(i+1)=j+1+i by omega]at this⟩
theorem Hs{P:List Kd}:∀{Ig:List (List Dt)}{q:Nat},(∀x∈Ig,zR C w F P x)->Dt.cu C w F P (q*P.length) Ig.flatten
 | [],_,_=>trivial
 |x::Ig,q,h=>.mk λi d V=>by
  have Z:=h x bB;have c:=Hs (Ig:=Ig) (q:=q+1) λy e=>h y (bQ _ e)
  rw[List.flatten_cons,pA]at V;split at V
  .next a=>
   obtain⟨k,I,Y,W⟩:=B2 Z V;refine⟨⟨k,?_,Y⟩,W⟩;have f:i<P.length:=by rw[<-nS Z];exact a
   rw[Nat.mul_comm,Nat.mul_add_mod,mv f];exact I
  .next b=>
   have:=c.get V;rw[show(q+1)*P.length+(i-x.length)=q*P.length+i by rw[nS Z,eh,Nat.one_mul];rw[nS Z]at b;omega]at this;exact this
end
def B4(C:Ctx)(L:List TypeId):List Field->Nat->List Kd->Bool
 | []=>λ_ P=>match P with| []=>true|_::_=>false
 |f::a=>λoff P=>Nat.beq f.offset off&&(uR f.type L&&(Nat.beq (C.P.cellsOf f.type) (aA C f.type).length&&(oI (P.take (aA C f.type).length) (aA C f.type)&&B4 C L a (Nat.add off (aA C f.type).length) (P.drop (aA C f.type).length))))
def QM(C:Ctx)(L:List TypeId)(t:TypeId):Bool:=
 match C.P.underlying t with
 |some d=>match d with
  | .int k=>oI (aA C t) [.int k]
  | .bool=>oI (aA C t) [.bool]
  | .string=>oI (aA C t) [.str]
  | .slice e=>oI (aA C t) [.sl e]&&(uR e L&&(!Nat.beq (C.P.cellsOf e) 0&&Nat.beq (C.P.cellsOf e) (aA C e).length))
  | .struct a=>B4 C L a.toList 0 (aA C t)&&Nat.beq (C.P.cellsOf t) (aA C t).length
  |_=>false
 |none=>false
def Tv(C:Ctx)(L:List TypeId):List TypeId->Bool
 | []=>true
 |t::l=>QM C L t&&Tv C L l
theorem Ms{k:Nat}:∀{l:List Nat},uR k l=true->k∈l
 | [],h=>by cases h
 |e::J,h=>by
  unfold uR at h;cases a:Nat.beq k e with
  |true=>rw[bj a];exact bB
  |false=>rw[a]at h;exact bQ _ (Ms h)
theorem Jk{C:Ctx}{L:List TypeId}:∀{l:List TypeId},Tv C L l=true->∀t∈l,QM C L t=true
 | [],_,t,a=>by cases a
 |x::l,h,t,a=>by
  simp only[Tv,aM]at h;cases a with
  |head=>exact h.1
  |tail _ a=>exact Jk h.2 t a
section
variable{H:Type}{vn:TypeId×Value->H}{C:Ctx}{w:World}{spare:Nat->Bool}{held:Bool}{L:List TypeId}
theorem UW{α:Type}{F:Nat->Prop}{P:List Kd}{g:α->DataW H}:∀(n:Nat)(xs:List α)(rd:Nat->List Value),xs.length=n->
  (∀(i:Nat)x,xs[i]? =some x->∃ds:List Dt,ds.map Dt.v=rd i/\zR C w F P ds/\dk ds<=Ak (g x))->
  ∃Ig:List (List Dt),Ig.length=n/\(∀(i:Nat)ds,Ig[i]? =some ds->ds.map Dt.v=rd i)/\(∀x∈Ig,zR C w F P x)/\dk Ig.flatten<=hW (xs.map g)
 |0,[],rd,_,_=>⟨[],rfl,(λi ds h=>by simp at h),(λx Z=>by cases Z),by simp[dk,hW]⟩
 |n+1,x::xs,rd,b,h=>by
  obtain⟨ds,I,Y,W⟩:=h 0 x rfl;obtain⟨Ig,g1,g2,g3,g4⟩:=UW n xs (λi=>rd (i+1)) (by simpa using b) λi y a=>h (i+1) y (by simpa using a)
  refine⟨ds::Ig,by simp[g1],λi e c=>?_,λy a=>?_,?_⟩
  .grind
  .grind
  .grind[eH,hW]
theorem Kg{F:Nat->Prop}{m:Nat}{cs:List Value}(c:∀(t:TypeId)(cs:List Value)(x:DataW H×List MemPlace),t∈L->DataW.trod vn C.P w 0 spare held m t cs=some x->∃ds:List Dt,ds.map Dt.v=cs/\zR C w F (aA C t) ds/\dk ds<=Ak x.1):
  ∀(a:List Field)(xs:List (DataW H×List MemPlace))(off:Nat)(P:List Kd),B4 C L a off P=true->off+P.length=cs.length->xs.length=a.length->
   (∀(i:Nat)f,a[i]? =some f->DataW.trod vn C.P w 0 spare held m f.type ((cs.drop f.offset).take (C.P.cellsOf f.type))=xs[i]?)->
   ∃ds:List Dt,ds.map Dt.v=cs.drop off/\zR C w F P ds/\dk ds<=hW (xs.map (·.1))
 | [],[],off,P,h,d,_,_=>by
   cases P with
   |cons _ _=>cases h
   |nil=>simp only[c7,iF]at d;exact⟨[],by rw[vw (by omega)];rfl,eI,by simp[dk,hW]⟩
 |f::a,x::xs,off,P,h,d,j,Z=>by
  simp only[B4,aM]at h;obtain⟨I,Y,W,U,h5⟩:=h;have I:=bj I;have W:=bj W;have U:=eO U;have e:=Z 0 f rfl;simp only[dj]at e;obtain⟨ds,d1,d2,d3⟩:=c f.type _ x (Ms Y) e;have b:(aA C f.type).length<=P.length:=by grind
  obtain⟨J,e1,e2,e3⟩:=Kg (F:=F) (cs:=cs) c a xs (off+(aA C f.type).length) (P.drop (aA C f.type).length) h5 (by rw[eV];omega) (by simpa using j) λi g k=>by
   have:=Z (i+1) g (by simpa using k);simpa using this
  refine⟨ds++J,?_,?_,?_⟩
  .grind[e1,List.drop_drop,List.take_append_drop]
  .have:=D4 d2 e2
   rwa [<-U,c8,Nat.min_eq_left b,List.take_append_drop]at this
  .grind[eH,hW]
 | [],_::_,_,_,_,_,h,_=>by simp at h
 |_::_,[],_,_,_,_,h,_=>by simp at h
theorem MF(T:∀t∈L,QM C L t=true):∀(r:Nat)(t:TypeId)(cs:List Value)(x:DataW H×List MemPlace),t∈L->DataW.trod vn C.P w 0 spare held r t cs=some x->
  ∃ds:List Dt,ds.map Dt.v=cs/\zR C w (λk=>k<w.heap.size) (aA C t) ds/\dk ds<=Ak x.1
 |0,_,_,_,_,h=>by simp[DataW.trod]at h
 |r+1,t,cs,x,ht,h=>by
  have m:=T t ht;unfold QM at m;cases E:C.P.underlying t with
  |none=>rw[E]at m;cases m
  |some d=>
   rw[E]at m;cases d<;>first|(cases m;done)|skip
   case bool=>
    obtain⟨b,rfl,rfl⟩:=DataW.trod_bool E h;rw[eO m];exact⟨[.val (.bool b)],rfl,⟨⟨b,rfl⟩,rfl,eI⟩,by simp[dk,Qr,Ak]⟩
   case int k=>
    obtain⟨n,rfl,rfl, -⟩:=DataW.trod_int E h;rw[eO m];exact⟨[.val (.int k n)],rfl,⟨⟨n,rfl⟩,rfl,eI⟩,by simp[dk,Qr,Ak]⟩
   case string=>
    obtain⟨s,rfl,rfl, -⟩:=DataW.trod_string E h;rw[eO m];exact⟨[.val (.string s)],rfl,⟨⟨s,rfl⟩,rfl,eI⟩,by simp[dk,Qr,Ak]⟩
   case slice e=>
    simp only[aM,im]at m;obtain⟨I,Y,W,U⟩:=m;have U:=bj U;have h0:C.P.cellsOf e≠0:=by intro q;rw[q]at W;cases W
    rw[eO I];rcases DataW.trod_slice E h with⟨rfl,rfl⟩|⟨a,len,cap,elems,rest,n,hf,rfl,rfl,hb,hl,hm,u,X,hsp,hns⟩
    .exact⟨[.sl (.slice none 0 0) e 0 []],rfl,⟨⟨_,_,_,_,_,rfl⟩,.inl ⟨rfl,rfl⟩,eI⟩,by simp[dk,Qr,Ak]⟩
    .obtain rfl:r=n:=by omega
     have each:∀(i:Nat)y,elems[i]? =some y->∃z,w.cells? 0 (a.add (i*C.P.cellsOf e)) (C.P.cellsOf e)=some z/\DataW.trod vn C.P w 0 spare held r e z=some y:=by
      intro i y B;have A:i<len:=by rw[<-u];exact(my.1 B).1
      have:=X i A;rw[B]at this;exact cV.1 this
     obtain⟨Ig,d1,d2,d3,d4⟩:=UW (C:=C) (w:=w) (F:=λk=>k<w.heap.size) (P:=aA C e) (g:=λy:DataW H×List MemPlace=>y.1) len elems
      (λi=>(w.cells? 0 (a.add (i*C.P.cellsOf e)) (C.P.cellsOf e)).getD []) u λi y B=>by
        obtain⟨z,S,q2⟩:=each i y B;rw[S];exact MF T r e z y (Ms Y) q2
     have dl:∀x∈Ig,x.length=C.P.cellsOf e:=λx Z=>by rw[nS (d3 x Z),U]
     have K:∀(l:List (List Dt)),(∀x∈l,x.length=C.P.cellsOf e)->l.flatten.length=l.length*C.P.cellsOf e:=by
      intro l;induction l with
      |nil=>intro _;simp
      |cons x l ih=>intro Z;rw[List.flatten_cons,cg,Z x bB,ih λy B=>Z y (bQ _ B),cD,eh];omega
     have M:∀(l:List (List Dt))(j:Nat)(d:Dt),(∀x∈l,x.length=C.P.cellsOf e)->l.flatten[j]? =some d->∃i q x,q<C.P.cellsOf e/\j=i*C.P.cellsOf e+q/\l[i]? =some x/\x[q]? =some d:=by
      intro l;induction l with
      |nil=>intro j d _ h;simp at h
      |cons x l ih=>
       intro j d Z J;have hxl:=Z x bB;rw[List.flatten_cons,pA]at J;split at J
       .next A=>exact⟨0,j,x,by omega,by omega,rfl,J⟩
       .next hge=>
        obtain⟨i,q,y,g1,g2,g3,g4⟩:=ih (j-x.length) d (λy B=>Z y (bQ _ B)) J;exact⟨i+1,q,y,g1,by rw[eh];omega,by simpa using g3,g4⟩
     refine⟨[.sl (.slice (some a) len cap) e (C.P.cellsOf e) Ig.flatten],rfl,⟨⟨_,_,_,_,_,rfl⟩,.inr ⟨U,⟨a,len,cap,rfl,by rw[K Ig dl,d1],λMq=>?_⟩,?_⟩,eI⟩,?_⟩
     .
      have cellAt:∀(i q:Nat)x d,Ig[i]? =some x->x[q]? =some d->q<C.P.cellsOf e->w.cell? ((a.add (i*C.P.cellsOf e)).add q)=some d.v:=by
       intro i q x d Z hd hq;have A:i<len:=by rw[<-d1];exact(my.1 Z).1
       have N:i<elems.length:=by rw[u];exact A
       obtain⟨z,S, -⟩:=each i _ (dV N);have hv:=d2 i x Z;simp only[S,hE]at hv;have:=(World.cells?_some S).2.2 q hq;rw[this,<-hv,kh,hd];rfl
      have D:0<Ig.length:=by omega
      have hx0:=dV D;have hl0:=dl _ (List.getElem_mem D);have O:0<(Ig[0]).length:=by omega
      have c0:=cellAt 0 0 _ _ hx0 (dV O) (by omega);simp only[mr,Addr.add,bc]at c0;have R:∃(vs:Array Value)(Q:TypeId)(lo V:Nat),w.heap[a.block]? =some (.cells vs Q (lo,V))/\a.spot=none:=by
       unfold World.cell? at c0;cases hh:w.heap[a.block]? with
       |none=>rw[hh]at c0;cases c0
       |some o=>
        rw[hh]at c0;cases o<;>first|(cases c0;done)|skip
        rename_i vs Q fr;obtain⟨lo,V⟩:=fr;cases hs:a.spot with
        |none=>exact⟨vs,Q,lo,V,rfl,rfl⟩
        |some p=>rw[hs]at c0;cases c0
      obtain⟨vs,Q,lo,V,hh,G⟩:=R;refine⟨G,?_,vs,Q,lo,V,hh,λj d J=>?_⟩
      .grind
      .obtain⟨i,q,x,g1,g2,g3,g4⟩:=M Ig j d dl J;have c:=cellAt i q x d g3 g4 g1;obtain⟨ab,ao,asp⟩:=a;simp only at G hh;subst G;rw[addr_add,addr_add]at c;unfold World.cell? at c;rw[hh]at c;rw[g2,<-kf];exact c
     .have:=Hs (C:=C) (w:=w) (F:=λk=>k<w.heap.size) (P:=aA C e) (Ig:=Ig) (q:=0) d3
      rwa [mr]at this
     .simp only[dk,Qr,Ak];omega
   case struct fs=>
    simp only[aM]at m;obtain⟨I,Y⟩:=m;have Y:=bj Y;obtain⟨xs,n,hf,rfl,hl,u,Z⟩:=DataW.trod_struct E h;obtain rfl:r=n:=by omega
    obtain⟨ds,d1,d2,d3⟩:=Kg (F:=λk=>k<w.heap.size) (cs:=cs) (λt cs x I Y=>MF T r t cs x I Y) fs.toList xs 0 (aA C t) I (by rw[eD,<-Y,hl]) (by simpa using u)
     (λi f V=>by rw[w5]at V;exact Z i f V)
    exact⟨ds,by simpa using d1,d2,by simp only[Ak];omega⟩
end
end
section
mutual
def Dt.wf (K:TypeId->List Kd):Dt->Prop
 | .val v=>Ex v=true
 | .sl v t g J=>(v=.slice none 0 0/\J=[])\/(g=(K t).length/\(∃a n c,v=.slice (some a) n c/\J.length=n*g)/\Dt.lT K (K t) 0 J)
 | .pt _ _ _ _ _ _=>True
 | .ls P J=>Dt.lT K P 0 J
def Dt.lT (K:TypeId->List Kd) (P:List Kd):Nat->List Dt->Prop
 |_,[]=>True
 |j,d::l=>(∃k,P[j%P.length]? =some k/\k.fits d)/\Dt.wf K d/\Dt.lT K P (j+1) l
end
mutual
theorem Dt.ej.wf {C:Ctx} {w:World} {F:Nat->Prop}:∀(d:Dt),d.ej C w F->d.wf (aA C)
 | .val _,h=>h
 | .sl v t g J,h=>by
   rcases h with h|⟨b,⟨a,n,c,e1,e3, -⟩,Y⟩
   .exact .inl h
   .exact .inr ⟨b,⟨a,n,c,e1,e3⟩,Dt.cu.wf _ 0 J Y⟩
 | .pt _ _ _ _ _ _,_=>trivial
 | .ls P J,h=>Dt.cu.wf P 0 J h
theorem Dt.cu.wf {C:Ctx} {w:World} {F:Nat->Prop} (P:List Kd):∀(j:Nat)(l:List Dt),Dt.cu C w F P j l->Dt.lT (aA C) P j l
 |_,[],_=>trivial
 |j,d::l,⟨I,Y,W⟩=>⟨I,Dt.ej.wf d Y,Dt.cu.wf P (j+1) l W⟩
end
section
variable{K:TypeId->List Kd}{P:List Kd}
theorem Dt.lT.get:∀{l:List Dt}{j i:Nat}{d:Dt},Dt.lT K P j l->l[i]? =some d->(∃k,P[(j+i)%P.length]? =some k/\k.fits d)/\d.wf K
 | [],_,_,_,_,h=>by simp at h
 |x::l,j,0,d,⟨I,Y,W⟩,h=>by grind
 |x::l,j,i+1,d,⟨I,Y,W⟩,h=>by
  have:=W.get (i:=i) (d:=d) (by simpa using h)
  rwa [show j+1+i=j+(i+1) by omega]at this
theorem Dt.lT.mk:∀{l:List Dt}{j:Nat},(∀(i:Nat)d,l[i]? =some d->(∃k,P[(j+i)%P.length]? =some k/\k.fits d)/\d.wf K)->Dt.lT K P j l
 | [],_,_=>trivial
 |d::l,j,h=>⟨(h 0 d rfl).1,(h 0 d rfl).2,Dt.lT.mk λi d' V=>by
   have:=h (i+1) d' (by simpa using V)
   rwa [show j+(i+1)=j+1+i by omega]at this⟩
theorem Dt.lT.take {l:List Dt} {j:Nat} (n:Nat) (h:Dt.lT K P j l):Dt.lT K P j (l.take n):=.mk λi d V=>by
 rw[vu]at V;split at V
 .exact h.get V
 .cases V
theorem Dt.lT.append {l m:List Dt} {j:Nat} (h:Dt.lT K P j l) (a:∀(i:Nat)d,m[i]? =some d->(∃k,P[(j+l.length+i)%P.length]? =some k/\k.fits d)/\d.wf K):Dt.lT K P j (l++m):=.mk λi d V=>by
 rw[pA]at V;split at V
 .exact h.get V
 .next b=>
  have:=a (i-l.length) d V
  rwa [show j+l.length+(i-l.length)=j+i by omega]at this
end
def tN(K:TypeId->List Kd)(T:TypeId)(a:Option Addr)(k g:Nat)(ss:List Dt):Prop:=ss.length=k*(K T).length/\Dt.lT K (K T) 0 ss/\(k≠0->g=(K T).length/\∃b,a=some b)
theorem NP{K:TypeId->List Kd}{T:TypeId}{d:Dt}(e:Kd.fits (.sl T) d)(f:d.wf K):∃a n c g J,d=.sl (.slice a n c) T g J/\tN K T a n g J:=by
 obtain⟨a,n,c,g,J,rfl⟩:=e;rcases f with⟨I,rfl⟩|⟨b,⟨a',n',c',I,Y⟩,W⟩
 .injection I with e1 e2 e3;subst e2;exact⟨_,_,_,_,_,rfl,by simp,eI,λh=>absurd rfl h⟩
 .injection I with e1 e2 e3;subst e2;exact⟨_,_,_,_,_,rfl,by rw[Y,b],W,λ_=>⟨b,a',e1⟩⟩
theorem G4{l:List Dt}{a b:Nat}(h:a<=b):dk (l.take a)<=dk (l.take b):=by have:=G3 (l.take b) a;rw[List.take_take,Nat.min_eq_left h]at this;omega
theorem CJ{l:List Dt}{n:Nat}(h:n*4+4<=l.length):∃a b c d,l[n*4]? =some a/\l[n*4+1]? =some b/\l[n*4+2]? =some c/\l[n*4+3]? =some d/\l.take ((n+1)*4)=l.take (n*4)++[a,b,c,d]:=by refine⟨l[n*4],l[n*4+1],l[n*4+2],l[n*4+3],dV _,dV _,dV _,dV _,?_⟩;rw[show(n+1)*4=n*4+1+1+1+1 by omega];rw[vt,vt,vt,vt];rw[dV (show n*4<l.length by omega),dV (show n*4+1<l.length by omega),dV (show n*4+1+1<l.length by omega),dV (show n*4+1+1+1<l.length by omega)];simp only[Option.toList_some,mw,kg,fH]
def SA(K:TypeId->List Kd):List TypeId->List Dt->Prop
 | [],l=>l=[]
 |t::ts,l=>∃a b,l=a++b/\a.length=(K t).length/\Dt.lT K (K t) 0 a/\SA K ts b
theorem a36{C:Ctx}{w:World}{F:Nat->Prop}{P:List Kd}{ds:List Dt}(h:zR C w F P ds):Dt.lT (aA C) P 0 ds:=.mk λi d V=>by
 obtain⟨k,I,Y,W⟩:=B2 h V;have a:i<P.length:=(my.1 I).1;rw[eD,mv a];exact⟨⟨k,I,Y⟩,Dt.ej.wf d W⟩
def OL(K:TypeId->List Kd)(ts:List TypeId)(N:Nat)(l:List Dt):Prop:=SA K ts l/\dk l<=N
end
open Go.ChangeShapes
def JR:List Kd->Nat->List AV
 | []=>λ_=>[]
 |k::l=>λi=>.cE k (.var i)::JR l (Nat.add i 1)
def a1I(C:Ctx)(t:TypeId)(i:Nat):AV:=
 match C.P.underlying t with
 |none=>.fO
 |some d=>match d with
  | .struct _=>.agg (JR (aA C t) i)
  |_=>match JR (aA C t) i with
   | []=>.fO
   |v::l=>match l with
    | []=>v
    |_::_=>.fO
def M5(C:Ctx):List TypeId->Nat->List AV
 | []=>λ_=>[]
 |t::ts=>λi=>a1I C t i::M5 C ts (Nat.add i (aA C t).length)
def a1H(C:Ctx):List TypeId->Nat
 | []=>0
 |t::ts=>Nat.add (aA C t).length (a1H C ts)
section
variable{H:Type}{vn:TypeId×Value->H}{C:Ctx}{w:World}{spare:Nat->Bool}{held:Bool}{L:List TypeId}
theorem HM{E:G}{F:Nat->Prop}:∀{P:List Kd}{ds:List Dt}{i:Nat},zR C w F P ds->(∀(j:Nat)x,ds[j]? =some x->ax E (.var (i+j))=some x)->aN E (JR P i)=some (ds.map Dt.v)
 | [],[],_,_,_=>rfl
 |k::P,d::ds,i,h,a=>by
  refine aL.2 ⟨d.v,ds.map Dt.v,eA (a 0 d rfl) h.1 rfl,HM (i:=i+1) h.2.2 λj x Z=>?_,rfl⟩;have:=a (j+1) x (by simpa using Z)
  rwa [show i+(j+1)=i+1+j by omega]at this
 | [],_::_,_,h,_=>h.elim
 |_::_,[],_,h,_=>h.elim
theorem OW{P:Program}{w:World}{r:Reach}{base:Nat}{u:TypeId}{v:Value}(h:Cell.okWide P w r base u v):Ex v=true:=by
 unfold Cell.okWide at h;split at h<;>first|rfl|skip
 unfold Cell.ok at h;split at h<;>first|rfl|exact h.elim
theorem W0{v:Value}(h:Ex v=true):v.cells.toList=[v]:=by cases v<;>first|rfl|cases h
theorem a1G(s:∀t∈L,QM C L t=true){t:TypeId}(u:t∈L){v:Value}{d:DataW H}{p:List MemPlace}(h:DataW.Trod vn C.P w 0 spare held t v d p){r:Reach}{base:Nat}(g:Value.okWide C.P w r base t v):
  ∃ds:List Dt,zR C w (λk=>k<w.heap.size) (aA C t) ds/\dk ds<=Ak d/\∀(E:G)i,(∀(j:Nat)x,ds[j]? =some x->ax E (.var (i+j))=some x)->ai E (a1I C t i)=some v:=by
 obtain⟨fuel,z⟩:=h;obtain⟨ds,I,Y,W⟩:=MF s fuel t _ _ u z;refine⟨ds,Y,W,λE i A=>?_⟩;have m:=HM Y A;have c:=s t u;unfold QM at c;unfold a1I;cases o:C.P.underlying t with
 |none=>rw[o]at c;cases c
 |some q=>
  rw[o]at c;have single:∀k,oI (aA C t) [k]=true->Cell.okWide C.P w r base t v->ai E (match JR (aA C t) i with| []=>.fO|v::l=>match l with| []=>v|_::_=>.fO)=some v:=by intro k hk B;rw[eO hk]at m ⊢;rw[I,W0 (OW B)]at m;obtain⟨a,b,g1,g2,g3⟩:=aL.1 m;injection g3 with g3 g4;rw[g3];exact g1
  have f:(∀y,q≠.struct y)->(∀n e,q≠.array n e)->Cell.okWide C.P w r base t v:=by intro D F;unfold Value.okWide at g;rw[o]at g;cases q<;>first|exact absurd rfl (D _)|exact absurd rfl (F _ _)|exact g
  cases q<;>first|(cases c;done)|skip
  case bool=>exact single _ c (f (λ_ h=>by cases h) (λ_ _ h=>by cases h))
  case int k=>exact single _ c (f (λ_ h=>by cases h) (λ_ _ h=>by cases h))
  case string=>exact single _ c (f (λ_ h=>by cases h) (λ_ _ h=>by cases h))
  case slice e=>
   simp only[aM]at c;exact single _ c.1 (f (λ_ h=>by cases h) (λ_ _ h=>by cases h))
  case struct y=>
   unfold Value.okWide at g;rw[o]at g;obtain⟨cs,rfl, -, -⟩:=g;rw[I]at m;show(aN E (JR (aA C t) i)).map _=_;rw[m];rfl
theorem Ks(l:∀t∈L,QM C L t=true){r:Reach}{base:Nat}:∀{ts:List TypeId}{vs:List Value}{ds:List (DataW H)}{ps:List MemPlace},(∀t∈ts,t∈L)->DataW.TrodAll vn C.P w 0 spare held ts vs ds ps->
  (∀(j:Nat)t v,ts[j]? =some t->vs[j]? =some v->Value.okWide C.P w r base t v)->
  ∃c:List Dt,(∀d∈c,d.ej C w λk=>k<w.heap.size)/\c.length=a1H C ts/\(SA (aA C) ts c/\dk c<=hW ds)/\∀(E:G)i,(∀(j:Nat)x,c[j]? =some x->ax E (.var (i+j))=some x)->aN E (M5 C ts i)=some vs
 | [],vs,ds,ps,_,h,_=>by
   obtain⟨rfl,rfl,rfl⟩:=trodAll_nil h;exact⟨[],(λd n=>by cases n),rfl,⟨rfl,by simp[dk,hW]⟩,λ_ _ _=>rfl⟩
 |t::ts,vs,ds,ps,e,h,f=>by
  obtain⟨v,g,d,o,p,q,rfl,rfl,rfl,I,Y⟩:=trodAll_cons h;obtain⟨J,e1,e2,e3⟩:=a1G l (e t bB) I (f 0 t v rfl rfl);obtain⟨c,g1,g2,g3,g4⟩:=Ks l (λu s=>e u (bQ _ s)) Y λj u y a b=>f (j+1) u y (by simpa using a) (by simpa using b)
  refine⟨J++c,λx Z=>?_,?_,?_,λE i m=>?_⟩
  .rcases kR.1 Z with Z|Z
   .obtain⟨j,z⟩:=List.getElem?_of_mem Z;obtain⟨_,_,_,h⟩:=B2 e1 z;exact h
   .exact g1 x Z
  .rw[cg,nS e1,g2];rfl
  .exact⟨⟨J,c,rfl,nS e1,a36 e1,g3.1⟩,by rw[eH];have:=g3.2;simp only[hW];omega⟩
  .refine aL.2 ⟨v,g,e3 E i λj x Z=>m j x ?_,g4 E (i+(aA C t).length) λj x Z=>?_,rfl⟩
   .grind
   .have:=m (J.length+j) x (by rw[CD (by omega)];simpa using Z)
    rwa [nS e1,<-kf]at this
end
def Nh(n:Nat)(V:Nat->Option Value)(L:List Dt):G:=λid=>if id<n then some ⟨id,0,1,(V id).map .val⟩else if id<n+L.length then some ⟨0,0,0,L[id-n]?⟩else none
theorem Xm{n:Nat}{V:Nat->Option Value}{L:List Dt}{j:Nat}{x:Dt}(h:L[j]? =some x):ax (Nh n V L) (.var (n+j))=some x:=by grind[ax,Nh]
theorem Rb{C:Ctx}{w:World}{s:S}{V:Nat->Option Value}{L:List Dt}(q:C.nG+L.length<=s.next)(e:∀f∈s.pc,f.pos=true/\f.holds (Nh C.nG V L))(c:∀g v,V g=some v->Ex v=true)
  (j:∀d∈L,d.ej C w λk=>k<w.heap.size)
  (h:∀g b,s.h.get g=some b->g<C.nG/\ez b=true/\∃o,w.heap[g]? =some o/\dC C (Nh C.nG V L) ⟨g,0,1,(V g).map .val⟩ b o):Rel C 0 (Nh C.nG V L) s w:=by
 have at':∀g,g<C.nG->Nh C.nG V L g=some ⟨g,0,1,(V g).map .val⟩:=λg i=>by simp[Nh,i]
 have a:∀k,¬Live (Nh C.nG V L) s k:=by rintro k ⟨id,b,l,I,Y, -, -⟩;rw[(h id b I).2.1]at Y;cases Y
 refine⟨(λid b r=>?_),(λid u b N l O I Y W U m t=>?_),(λid n=>?_),(λg i=>⟨_,at' g i,rfl,rfl⟩),(λid b l I _ _=>(h id b I).2.1),wY _,e,λid l d I Y=>?_⟩
 .grind
 .grind
 .grind[Nh]
 .unfold Nh at I;split at I
  .obtain rfl:=ae I;obtain⟨v,p,rfl⟩:=bk.1 Y;exact c id v p
  .split at I
   .obtain rfl:=ae I;exact Dt.ej.stays (λk hk=>⟨⟨hk,a k,λh=>h⟩,rfl⟩) d (j d (mV Y))
   .cases I
def Tp:Nat->Nat->List SE
 |0=>λ_=>[]
 |n+1=>λi=>.var i::Tp n (Nat.add i 1)
theorem NW{E:G}:∀{L:List Dt}{i:Nat},(∀(j:Nat)x,L[j]? =some x->ax E (.var (i+j))=some x)->jj E (Tp L.length i)=some L
 | [],_,_=>rfl
 |d::L,i,h=>by
  have a:=h 0 d rfl;have b:=NW (L:=L) (i:=i+1) λj x Z=>by
   have:=h (j+1) x (by simpa using Z)
   rwa [show i+(j+1)=i+1+j by omega]at this
  show((ax E (.var i)).bind λd=>(jj E (Tp L.length (i+1))).map λr=>d::r)=_;rw[show ax E (.var i)=some d from a,b];rfl
def Vh(C:Ctx)(ts:List TypeId)(N:Nat):Fact:=.rel "" false (OL (aA C) ts N) (Tp (a1H C ts) C.nG)
def Vg(P:Program)(ts:List TypeId):Bool:=ts.all λt=>P.readableRec t&&decide (t<P.types.size)
theorem Kr{H:Type}{vn:TypeId×Value->H}{P:Program}(j:laidOutB P=true){W a:World}(hk:W.keptBut a (λ_=>False)){k:Nat->Bool}:∀{ts:List TypeId}{vs:List Value}{ds:List (DataW H)}{ps:List MemPlace},
  Vg P ts=true->DataW.TrodAll vn P W 0 (λ_=>true) true ts vs ds ps->(∀p∈ps,p.block<W.heap.size)->(∀p∈ps,k p.block=true)->DataW.TrodAll vn P a 0 k true ts vs ds ps
 | [],vs,ds,ps,_,h,_,_=>by
   obtain⟨rfl,rfl,rfl⟩:=trodAll_nil h;exact rfl
 |t::ts,vs,ds,ps,l,h,c,m=>by
  obtain⟨v,s,d,u,p,q,rfl,rfl,rfl,⟨n,w⟩,Y⟩:=trodAll_cons h;simp only[Vg,List.all_cons,aM,rC]at l;obtain⟨⟨o,e⟩,g⟩:=l;refine⟨p,q,⟨n,DataW.trod_stays (kids_book j o) (book_sized o) (λh=>by cases h) ⟨e,book_self t⟩ w (λx Z=>?_) (λx Z=>m x (wZ _ Z))⟩,
   Kr j hk g Y (λx Z=>c x (List.mem_append_right _ Z)) (λx Z=>m x (List.mem_append_right _ Z)),rfl⟩
  have r:a.heap[x.block]? =W.heap[x.block]? :=hk.block (c x (wZ _ Z)) (λ_ f=>f.elim);cases x with
  |cell b off=>show a.cell? ⟨b,off,none⟩=W.cell? ⟨b,off,none⟩;have i:a.heap[b]? =W.heap[b]? :=r;simp only[World.cell?,i]
  |map b=>exact r
theorem a3t{P:Program}{ts:List TypeId}(h:(ts.all λt=> !P.wantsStandIn t)=true)(j:Nat)(t:TypeId)(a:ts[j]? =some t):P.wantsStandIn t=false:=by grind
end Go.Proofs.YtokipodjggomfaaGreatDoor.Abs
