/- Part 7 of an abstract machine that evaluates programs of the model in the kernel, and of the proofs that its run is the model's. Conditions: those of each theorem. -/
import Derived.Test.YtokipodjggomfaaGreatDoorAbs6
import Derived.ProofKit
import Derived.HandedShaped
import Derived.Lay
import Derived.LaidMore
import Derived.Stop.Joined
import Derived.ChangeArms
import Derived.DataReads
import Derived.ChangeBook
import Derived.ChangeStays
import Derived.ChangeShapes
import Derived.WideShapes
import Derived.SevenTiedAt
noncomputable section
set_option linter.unusedVariables false
set_option linter.unusedSimpArgs false
namespace Go.Proofs.YtokipodjggomfaaGreatDoor.Abs
open Go
def u9:List PI->Prop
 | []=>True
 |p::l=>match p with
  | .on _=>u9 l
  | .act _=>True
  |_=>False
def gX:List PI->Option Nat
 | []=>none
 |p::l=>match p with
  | .on _=>gX l
  | .act a=>some a
  |_=>none
theorem iD(nt:Nat)(t:Tr AV){dst:Option Tmp}(v:AV){d:Nat}(h:dst≠some d):(put nt t dst v).get d=t.get d:=by
 cases dst with
 |none=>rfl
 |some e=>
  rw[lN];split
  .grind[Tr.get_set_other]
  .rfl
theorem wj(nt:Nat)(t:Tr AV){dst:Option Tmp}(v:AV){d:Nat}(h:dst=some d)(a:d<nt):(put nt t dst v).get d=some v:=by grind[lN,Tr.get_set_same]
theorem xC{x:PO}:∀{l:List PO},xD x l=true->∀y∈l,gf x.dst (Nat.lor y.look y.dst)=true/\(has x.before y.i=true\/gf x.look y.dst=true)
 | [],_,y,a=>by cases a
 |z::l,h,y,a=>by
  unfold xD at h;cases b:(gf x.dst (Nat.lor z.look z.dst)&&(has x.before z.i||gf x.look z.dst))with
  |false=>rw[b]at h;cases h
  |true=>
   rw[b]at h;cases a with
   |head=>simpa using b
   |tail _ a=>exact xC h y a
theorem tz{x:PO}:∀{l:List PO},rD x l=true->∀y∈l,has x.before y.i=true\/(gf x.dst (Nat.lor y.look y.dst)=true/\gf x.look y.dst=true)
 | [],_,y,a=>by cases a
 |z::l,h,y,a=>by
  unfold rD at h;cases b:(has x.before z.i||(gf x.dst (Nat.lor z.look z.dst)&&gf x.look z.dst))with
  |false=>rw[b]at h;cases h
  |true=>
   rw[b]at h;cases a with
   |head=>simpa using b
   |tail _ a=>exact tz h y a
theorem E5{a b c:Nat}(h:gf a (Nat.lor b c)=true):(∀d,has a d=true->has b d=true->False)/\∀d,has a d=true->has c d=true->False:=
 ⟨λd A I=>ov h d A (by rw[eR,I];rfl),λd A I=>ov h d A (by rw[eR,I];simp)⟩
theorem Wh{ops:Array Oper}{o:Oper}{C:Ctx}{t Q:Tr AV}{s:S}(h:∀d,has (jA ops.toList o) d=true->t.get d=Q.get d):P9 ops o C t s=P9 ops o C Q s:=by
 unfold P9;rw[iq ops o (Q:=Q) λd a=>h d (gC a)];congr 1;funext b;cases b with
 |false=>rfl
 |true=>show evQ o C t s=evQ o C Q s;unfold evQ;rw[HO o.op o.type s (Q:=Q) λd a=>h d (l6 a)]
theorem R.wB {α j:Type} {Q:j->Prop} {r:R α} {f:α->R j} (h:∀a,r=.ok a->(f a).path Q):((R.xJ r).bind f).path Q:=by
 cases r with
 |ok a=>exact h a rfl
 |bad w=>trivial
 |ask n k=>trivial
 |must pc k=>trivial
theorem F2{nt:Nat}{t:Tr AV}{dst:Option Tmp}{v:AV}(h:h3 nt t dst v=true):∀d,dst=some d->d<nt->t.get d=some v:=by
 intro d c a;subst c;unfold h3 at h;have e:Nat.blt d nt=true:=xM a;simp only[e]at h;cases b:t.get d with
 |none=>simp[b]at h
 |some u=>simp only[b]at h;rw[fU u v h]
theorem o7(ops:Array Oper)(i:Nat):nth ops.toList i=ops[i]? :=by rw[qU];simp
theorem LZ{o:Op}(h:jc o=.ev):mR o=true:=by grind[jc,mR]
theorem L0{o:Op}(h:jc o=.al):zm o=true:=by grind[jc,mR,zm]
section
variable{X:DC}{H:Dl}{Ld:List Nat}{pe:pP}{t:Tr AV}{ds:List gO}{ctx:Option (List PE)}{s:S}{E:G}{w:World}{tm:Array Value}{bz:List Deferred}{cs:List Frame}{i:Nat}
theorem n3{x:PO}(h:Vj H x=true):has H.done x.i=false/\(∀k,has x.before k=true->has H.done k=true)/\(∀k,has H.acts k=true->has x.before k=true)/\H.run=0/\gf x.dst x.look=true/\xD x H.fl=true:=by grind[Vj,Ol,rB]
theorem lW{x:PO}(h:Vk H x=true):has H.done x.i=false/\(∀k,has x.before k=true->has H.done k=true)/\(∀k,has H.acts k=true->has x.before k=true)/\(∀k,has H.run k=true->has x.before k=true)/\H.fj=0/\rD x H.fl=true:=by grind[Vk,Ol,rB]
structure xG(X:DC)(H:Dl)(t:Tr AV)(x:PO)(o:Oper)(i:Nat):Prop where
 ho:X.ops[i]? =some o
 xi:x.i=i
 xl:x.look=jA X.ops.toList o
 xd:x.dst=CR o
 new:has H.done i=false
 self:∀d,o.dst=some d->has x.look d=true->False
 lV:∀y,y∈H.fl->(∀d,o.dst=some d->has y.look d=true->False)/\(∀d,o.dst=some d->has y.dst d=true->False)/\(has x.before y.i=true\/∀d,has x.look d=true->has y.dst d=true->False)
theorem a1u(a:jw X.ops X.all){x:PO}(Y:cE X.all i=some x)(h:Vj H x=true):∃o,xG X H t x o i/\x.kind=jc o.op:=by
 obtain⟨o,ho,A,I,W,D⟩:=a i x Y;obtain⟨g1,g2,g3,g4,g5,g6⟩:=n3 h;have b:∀d,o.dst=some d->has x.dst d=true:=λd b=>by rw[W];exact mj b
 refine⟨o,⟨ho,A,I,W,A▸g1,λd e1 e2=>ov g5 d (b d e1) e2,λy c=>?_⟩,D⟩;obtain⟨e,f⟩:=xC g6 y c;obtain⟨g,j⟩:=E5 e;exact⟨λd e1 e2=>g d (b d e1) e2,λd e1 e2=>j d (b d e1) e2,f.imp id λq d e1 e2=>ov q d e1 e2⟩
theorem xG.keeps {x:PO} {o:Oper} (c:xG X H t x o i) (a:jw X.ops X.all) {y:PO} (e:y∈H.fl) {k:Nat} (Z:cE X.all k=some y) (v:AV) {T:Oper} (b:X.ops[k]? =some T):
  (∀d,has (jA X.ops.toList T) d=true->t.get d=(put X.fi.nt t o.dst v).get d)/\∀d,T.dst=some d->t.get d=(put X.fi.nt t o.dst v).get d:=by
 obtain⟨g,r2,h,j⟩:=xW a Z b;obtain⟨l,m,n⟩:=c.lV y e;refine⟨λd f=>?_,λd f=>?_⟩
 .grind[iD]
 .grind[iD,mj]
theorem xG.pw {x:PO} {o:Oper} (k:xG X H t x o i) (h:∀a b,a∈H.fl->b∈H.fl->has a.before b.i=true\/∀d,has a.look d=true->has b.dst d=true->False):
  ∀a b,a∈x::H.fl->b∈x::H.fl->has a.before b.i=true\/∀d,has a.look d=true->has b.dst d=true->False:=by
 have g:∀d,has x.dst d=true->o.dst=some d:=λd c=>by
  rw[k.xd]at c;unfold CR at c;cases m:o.dst with
  |none=>rw[m]at c;simp only[oc]at c;cases c
  |some e=>rw[m]at c;simp only[ia,nc]at c;rw[c]
 intro a b q n;rcases bQ.1 q with p|j
 .rcases bQ.1 n with l|f
  .subst p;subst l;exact .inr λd A I=>k.self d (g d I) A
  .subst p;exact(k.lV b f).2.2
 .rcases bQ.1 n with l|f
  .subst l;exact .inr λd A I=>(k.lV a j).1 d (g d I) A
  .exact h a b j f
theorem ff.Wf (e:jw X.ops X.all) (h:ff X H Ld pe t ds ctx s E w tm bz cs) {x:PO} (Y:cE X.all i=some x) {o:Oper} (c:xG X H t x o i) (Z:mR o.op=true) (l:PS.ev i o∈X.lp) (v:AV):
  ff X ⟨Nat.lor H.done (bit i),H.acts,Nat.lor H.uM (bit i),H.als,H.JT,H.fj,0,H.last,x::H.fl⟩ Ld pe (put X.fi.nt t o.dst v) ds ctx s E w tm bz cs:=by
 have b:=c.new;have m:i ∉ Ld:=λr=>by rw[h.Na i r]at b;cases b
 refine⟨h.step,h.ro,h.ds,h.ctx,h.cs,?_,h.nE,?_,?_,?_,?_,?_,?_,c.pw h.pw,h.nw,?_,?_,h.j9,h.ids,h.Bp,h.SX,?_,h.al2⟩
 .intro k Z;rw[au];exact .inl (h.Na k Z)
 .intro k Z;rw[au]at Z;rcases Z with Z|rfl
  .rcases h.kinds k Z with g|g|g
   .exact .inl g
   .grind[au]
   .exact .inr (.inr g)
  .grind[au]
 .intro k Z;rw[au]at Z ⊢;exact Z.imp (h.xk k) id
 .intro k Z;rw[au];exact .inl (h.sQ k Z)
 .intro k Z q;rw[au]at Z;rcases Z with Z|rfl
  .exact h.two k Z q
  .rw[h.sQ k q]at b;cases b
 .intro k Z;rw[au]at Z;rcases Z with(Z|rfl)|Z
  .obtain⟨y,f,j⟩:=h.fl k (.inl Z);exact⟨y,bk _ f,j⟩
  .exact⟨x,by simp,Y⟩
  .obtain⟨y,f,j⟩:=h.fl k (.inr Z);exact⟨y,bk _ f,j⟩
 .intro k a;rw[au]at a;rcases a with a|rfl
  .exact h.We k a
  .exact⟨o,c.ho,Z⟩
 .refine h.tm.a2E o.dst v ?_ ?_
  .rintro d ⟨k,T,A,I⟩;exact⟨k,T,A.imp (λg=>(au _ _ _).2 (.inl g)) id,I⟩
  .intro d u;exact⟨i,o,.inl ((au _ _ _).2 (.inr rfl)),m,c.ho,u⟩
 .intro k a;rw[au]at a;rcases a with(a|rfl)|a
  .exact h.L5 k (.inl a)
  .exact⟨o,c.ho,.inl l⟩
  .exact h.L5 k (.inr a)
 .intro k a n;obtain⟨y,f,j⟩:=h.fl k (.inr a);exact(h.al1 k a n).step (Step.refl h.step.rel) λT p=>c.keeps e f j v p
theorem oB.Wf (c:jw X.ops X.all) (h:ff X H Ld pe t ds ctx s E w tm bz cs) (q:oB X H Ld t s) {x:PO} {o:Oper} (l:xG X H t x o i) (Z:mR o.op=true) {v:AV} (r:P9 X.ops o X.C t s=.ok v):
  oB X ⟨Nat.lor H.done (bit i),H.acts,Nat.lor H.uM (bit i),H.als,H.JT,H.fj,0,H.last,x::H.fl⟩ Ld (put X.fi.nt t o.dst v) s:=by
 intro k f m n;rw[au]at f;by_cases g:k=i
 .subst g;refine⟨o,v,l.ho,Z,?_,λd b a=>wj _ _ _ b a⟩;rw[<-Wh (t:=t),r];intro d b;rw[iD];intro e;exact l.self d e (by rw[l.xl];exact b)
 .have j:=f.resolve_right g;obtain⟨T,u,p,z,A,B⟩:=q k j m n;obtain⟨y,D,F⟩:=h.fl k (.inl j);obtain⟨G,z2⟩:=l.keeps c D F v p;refine⟨T,u,p,z,?_,λd b a=>by rw[<-z2 d b];exact B d b a⟩;rw[<-Wh (t:=t) G];exact A
end
end Go.Proofs.YtokipodjggomfaaGreatDoor.Abs
namespace Go.Proofs.YtokipodjggomfaaGreatDoor.Abs
open Go
section
variable{X:DC}{H QZ:Dl}{Ld:List Nat}{pe:pP}{t:Tr AV}{ds:List gO}{ctx:Option (List PE)}{s:S}{E:G}{w:World}{tm:Array Value}{bz:List Deferred}{cs:List Frame}{i:Nat}
theorem ff.mask (h:ff X H Ld pe t ds ctx s E w tm bz cs) (st run:Nat):ff X ⟨H.done,H.acts,H.uM,H.als,H.JT,st,run,H.last,H.fl⟩ Ld pe t ds ctx s E w tm bz cs:=
 ⟨h.step,h.ro,h.ds,h.ctx,h.cs,h.Na,h.nE,h.kinds,h.xk,h.sQ,h.two,h.fl,h.We,h.pw,h.nw,h.tm,h.L5,h.j9,h.ids,h.Bp,h.SX,h.al1,h.al2⟩
theorem oY(k i id:Nat)(b:eD)(pe:pP):cK k ((i,(id,b))::pe)=if i=k then some (id,b)else cK k pe:=by
 show(match Nat.beq i k with|true=>some (id,b)|false=>cK k pe)=_;by_cases h:i=k
 .subst h;simp
 .have:Nat.beq i k=false:=by
    cases a:Nat.beq i k with
    |false=>rfl
    |true=>exact absurd (aL a) h
  simp[this,h]
theorem Step.more {C:Ctx} {base:Nat} {Lb E:G} {s0 s:S} {w0 w:World} (h:Step C base Lb s0 w0 E s w):Step C base Lb s0 w0 E ⟨s.h,s.next+1,s.pc⟩ w:=
 ⟨h.grow,h.rel.more,h.keep,λk⟨id,b,l,q⟩Z=>h.live k ⟨id,b,l,q⟩ Z,Nat.le_succ_of_le h.next,h.SW,h.MT,h.lV,h.Xw⟩
theorem ff.a4H (m:jw X.ops X.all) (h:ff X H Ld pe t ds ctx s E w tm bz cs) {x:PO} (Y:cE X.all i=some x) {o:Oper} (f:xG X H t x o i) (Z:zm o.op=true) (B:PS.al i o∈X.lp)
  (K:c8 X.ops o.guard t=.ok false) (st:Nat):
  ff X ⟨Nat.lor H.done (bit i),H.acts,H.uM,Nat.lor H.als (bit i),H.JT,st,0,H.last,x::H.fl⟩ Ld pe (put X.fi.nt t o.dst gu) ds ctx s E w tm bz cs:=by
 have c:=f.new;have n:i ∉ Ld:=λL=>by rw[h.Na i L]at c;cases c
 refine⟨h.step,h.ro,h.ds,h.ctx,h.cs,?_,h.nE,?_,?_,?_,?_,?_,h.We,f.pw h.pw,h.nw,?_,?_,?_,h.ids,h.Bp,h.SX,?_,?_⟩
 .intro k Z;rw[au];exact .inl (h.Na k Z)
 .intro k Z;rw[au]at Z;rcases Z with Z|rfl
  .rcases h.kinds k Z with g|g|g
   .exact .inl g
   .exact .inr (.inl g)
   .grind[au]
  .grind[au]
 .intro k Z;rw[au];exact .inl (h.xk k Z)
 .intro k Z;rw[au]at Z ⊢;exact Z.imp (h.sQ k) id
 .intro k Z z;rw[au]at z;rcases z with z|rfl
  .exact h.two k Z z
  .rw[h.xk k Z]at c;cases c
 .intro k Z;rw[au]at Z;rcases Z with Z|(Z|rfl)
  .obtain⟨y,j,l⟩:=h.fl k (.inl Z);exact⟨y,bk _ j,l⟩
  .obtain⟨y,j,l⟩:=h.fl k (.inr Z);exact⟨y,bk _ j,l⟩
  .exact⟨x,by simp,Y⟩
 .refine h.tm.a2E o.dst gu ?_ ?_
  .rintro d ⟨k,T,A,I⟩;exact⟨k,T,A.imp id (λg=>(au _ _ _).2 (.inl g)),I⟩
  .intro d q;exact⟨i,o,.inr ((au _ _ _).2 (.inr rfl)),n,f.ho,q⟩
 .intro k a;rw[au]at a;rcases a with a|(a|rfl)
  .exact h.L5 k (.inl a)
  .exact h.L5 k (.inr a)
  .exact⟨o,f.ho,.inr B⟩
 .intro k id b C;obtain⟨j,l⟩:=h.j9 k id b C;exact⟨(au _ _ _).2 (.inl j),l⟩
 .intro k a D;rw[au]at a;by_cases r:k=i
  .subst r;refine⟨o,f.ho,Z,.inl ⟨?_,?_,λd q F=>wj _ _ _ q F⟩⟩
   .rw[<-iq X.ops o (t:=t),K];intro d q;rw[iD];intro e;exact f.self d e (by rw[f.xl];exact gC q)
   .cases C:cK k pe with
    |none=>rfl
    |some p=>obtain⟨id,b⟩:=p;rw[h.sQ k (h.j9 k id b C).1]at c;cases c
  .have u:=a.resolve_right r;obtain⟨y,j,l⟩:=h.fl k (.inr u);exact(h.al1 k u D).step (Step.refl h.step.rel) λT G=>f.keeps m j l _ G
 .intro k a v J;rw[au]at a;rcases a with a|rfl
  .exact h.al2 k a v J
  .exact absurd v n
theorem ff.a4G (P:jw X.ops X.all) (h:ff X H Ld pe t ds ctx s E w tm bz cs) {x:PO} (Y:cE X.all i=some x) {o:Oper} (D:xG X H t x o i) (Z:zm o.op=true) (U:PS.al i o∈X.lp)
  (hw:c8 X.ops o.guard t=.ok true) {R:AK} {ay:eD} (ha:aF o.op X.C t=.ok (R,ay)) (st:Nat):
  ff X ⟨Nat.lor H.done (bit i),H.acts,H.uM,Nat.lor H.als (bit i),H.JT,st,0,H.last,x::H.fl⟩ Ld ((i,(s.next,ay))::pe) (put X.fi.nt t o.dst (Vt R s.next)) ds ctx ⟨s.h,Nat.add s.next 1,s.pc⟩ E w tm bz cs:=by
 have j:=D.new;have F:i ∉ Ld:=λhm=>by rw[h.Na i hm]at j;cases j
 have q:E s.next=none:=h.step.rel.new s.next (aX _);have hpi:cK i pe=none:=by
  cases m:cK i pe with
  |none=>rfl
  |some p=>obtain⟨id,b⟩:=p;rw[h.sQ i (h.j9 i id b m).1]at j;cases j
 have a:∀k id b,cK k ((i,(s.next,ay))::pe)=some (id,b)->(k=i/\id=s.next/\b=ay)\/(k≠i/\cK k pe=some (id,b)):=by grind[oY,e1,e2]
 have V:∀d,has (jA X.ops.toList o) d=true->t.get d=(put X.fi.nt t o.dst (Vt R s.next)).get d:=by intro d G;rw[iD];intro e;exact D.self d e (by rw[D.xl];exact G)
 refine⟨h.step.more,h.ro,h.ds,h.ctx,h.cs,?_,h.nE,?_,?_,?_,?_,?_,h.We,D.pw h.pw,h.nw,?_,?_,?_,?_,?_,?_,?_,?_⟩
 .intro k Z;rw[au];exact .inl (h.Na k Z)
 .intro k Z;rw[au]at Z;rcases Z with Z|rfl
  .rcases h.kinds k Z with g|g|g
   .exact .inl g
   .exact .inr (.inl g)
   .grind[au]
  .grind[au]
 .intro k Z;rw[au];exact .inl (h.xk k Z)
 .intro k Z;rw[au]at Z ⊢;exact Z.imp (h.sQ k) id
 .intro k Z v;rw[au]at v;rcases v with v|rfl
  .exact h.two k Z v
  .rw[h.xk k Z]at j;cases j
 .intro k Z;rw[au]at Z;rcases Z with Z|(Z|rfl)
  .obtain⟨y,n,z⟩:=h.fl k (.inl Z);exact⟨y,bk _ n,z⟩
  .obtain⟨y,n,z⟩:=h.fl k (.inr Z);exact⟨y,bk _ n,z⟩
  .exact⟨x,by simp,Y⟩
 .refine h.tm.a2E o.dst _ ?_ ?_
  .rintro d ⟨k,T,A,I⟩;exact⟨k,T,A.imp id (λg=>(au _ _ _).2 (.inl g)),I⟩
  .intro d G;exact⟨i,o,.inr ((au _ _ _).2 (.inr rfl)),F,D.ho,G⟩
 .intro k c;rw[au]at c;rcases c with c|(c|rfl)
  .exact h.L5 k (.inl c)
  .exact h.L5 k (.inr c)
  .exact⟨o,D.ho,.inr U⟩
 .intro k id b m;rcases a k id b m with⟨rfl,rfl,rfl⟩|⟨_,m⟩
  .grind[au]
  .obtain⟨n,z⟩:=h.j9 k id b m;exact⟨(au _ _ _).2 (.inl n),Nat.lt_succ_of_lt z⟩
 .intro k k' id b N m B;rcases a k id b m with⟨rfl,rfl,rfl⟩|⟨_,f⟩
  .rcases a k' _ N B with⟨rfl,_,_⟩|⟨_,r⟩
   .rfl
   .exact absurd (h.j9 k' _ N r).2 (Nat.lt_irrefl _)
  .rcases a k' id N B with⟨rfl,rfl,rfl⟩|⟨_,r⟩
   .exact absurd (h.j9 k _ b f).2 (Nat.lt_irrefl _)
   .exact h.ids k k' id b N f r
 .intro k k' id u b N l O m B W J K;rcases a k id b m with⟨rfl,rfl,rfl⟩|⟨_,f⟩
  .rw[q]at J;cases J
  .rcases a k' u N B with⟨rfl,rfl,rfl⟩|⟨_,r⟩
   .rw[q]at K;cases K
   .exact h.Bp k k' id u b N l O f r W J K
 .intro k id b l m J;rcases a k id b m with⟨rfl,rfl,rfl⟩|⟨_,f⟩
  .rw[q]at J;cases J
  .exact h.SX k id b l f J
 .intro k c hkn;rw[au]at c;by_cases L:k=i
  .subst L;refine⟨o,D.ho,Z,.inr ⟨?_,R,ay,s.next,?_,by rw[oY,az rfl],λd G Kr=>wj _ _ _ G Kr,q,zQ _,?_,h.step.next⟩⟩
   .grind[iq,gC]
   .rw[<-Xn o.op (t:=t),ha];exactλd G=>V d (l6 G)
   .cases hb:s.h.get s.next with
    |none=>rfl
    |some b=>obtain⟨l,T,n,_⟩:=h.step.rel.ay _ b hb;rw[q]at n;cases n
  .have S:=c.resolve_right L;obtain⟨y,n,z⟩:=h.fl k (.inr S);obtain⟨T,q3,q4,q5⟩:=(h.al1 k S hkn).step (Q:=put X.fi.nt t o.dst (Vt R s.next)) (Step.refl h.step.rel) λT ho'=>D.keeps P n z _ ho'
   refine⟨T,q3,q4,?_⟩;have hpk:cK k ((i,(s.next,ay))::pe)=cK k pe:=by rw[oY,ai (cm L)]
   rcases q5 with⟨z1,z2,z3⟩|⟨z1,ak',a4y,u,z2,z3,z4,z5,z6,z7,z8⟩
   .exact .inl ⟨z1,by rw[hpk];exact z2,z3⟩
   .grind
 .intro k c M hon;rw[au]at c;rcases c with c|rfl
  .intro id b m;rcases a k id b m with⟨rfl,_,_⟩|⟨_,f⟩
   .exact absurd M F
   .obtain⟨l,T,n,z,q3,q4,q5,q6,q7⟩:=h.al2 k c M hon id b f;exact⟨l,T,n,z,q3,q4,q5,Nat.lt_succ_of_lt q6,q7⟩
  .exact absurd M F
theorem ff.a1k (h:ff X H Ld pe t ds ctx s E w tm bz cs) (G:Rel X.C X.base X.Lb X.s0 X.w0) (V:has H.als i=true) (I:has H.JT i=false) (J:i∈Ld) {id:Nat} {ay:eD} (K:cK i pe=some (id,ay)) (st run:Nat):
  ff X ⟨H.done,H.acts,H.uM,H.als,Nat.lor H.JT (bit i),st,run,H.last,H.fl⟩ Ld pe t ds ctx ⟨s.h.set id ay,s.next,s.pc⟩ E w tm bz cs:=by
 obtain⟨l,o,B,q2,q3,q4,q5,q6,q7,q8,q9⟩:=h.al2 i V J I id ay K;have L:X.base<=l.ay:=gn G.bs q8;have y:=h.step.rel.Xl B q2 q3 (λu N O c z2 _=>q4 u N O c z2) L q9;have f:∀j b,(s.h.set id ay).get j=some b->(j=id/\b=ay)\/(j≠id/\s.h.get j=some b):=by grind[Tr.bm]
 have g:∀a:Nat->Prop,cy X.C E s w a->cy X.C E ⟨s.h.set id ay,s.next,s.pc⟩ w a:=λa M j n d c z2=>
  Dt.c6.stays (λk D=>⟨⟨D.1.1,λhh=>by
    obtain⟨i2,x,l2,p,F,P,y4⟩:=hh;rcases f i2 x p with⟨rfl,rfl⟩|⟨_,p⟩
    .rw[B]at P;obtain rfl:=ae P;exact D.2.2.2 y4.symm
    .exact D.1.2.1 ⟨i2,x,l2,p,F,P,y4⟩,D.1.2.2⟩,rfl⟩) d ((M j n d c z2).and d (q9 j n d c z2))
 have q:Step X.C X.base X.Lb X.s0 X.w0 E ⟨s.h.set id ay,s.next,s.pc⟩ w:=by
  refine⟨h.step.grow,y,h.step.keep,?_,h.step.next,h.step.SW,h.step.MT,?_,λa M hg=>g a (h.step.Xw a M hg)⟩
  .rintro k ⟨j,b,n,c,z2,z3,z4⟩ Z;rcases f j b c with⟨rfl,rfl⟩|⟨_,c⟩
   .rw[B]at z3;obtain rfl:=ae z3;omega
   .exact h.step.live k ⟨j,b,n,c,z2,z3,z4⟩ Z
  .intro j b c z2;rcases f j b c with⟨rfl,rfl⟩|⟨_,c⟩
   .omega
   .exact h.step.lV j b c z2
 refine⟨q,h.ro,h.ds,h.ctx,h.cs,h.Na,h.nE,h.kinds,h.xk,h.sQ,h.two,h.fl,h.We,h.pw,h.nw,h.tm,h.L5,h.j9,h.ids,h.Bp,h.SX,?_,?_⟩
 .intro k Z Q;obtain⟨T,c,z2,z3⟩:=h.al1 k Z Q;refine⟨T,c,z2,?_⟩;rcases z3 with z3|⟨p1,R,z,u,p2,p3,p4,S,p6,p7,p8⟩
  .exact .inl z3
  .refine .inr ⟨p1,R,z,u,p2,p3,p4,S,p6,?_,p8⟩;have:u≠id:=λe=>by rw[e,B]at S;cases S
   rw[Tr.get_set_other _ _ (cm this)];exact p7
 .intro k Z U m r W v;rw[eR,zV,ia,Fw]at m;have A:k≠i:=λe=>m.2 e.symm
  obtain⟨l1,o1,c,z2,z3,z4,z5,z6,z7,z8,z9⟩:=h.al2 k Z U m.1 r W v;have Y:r≠id:=λe=>A (h.ids k i id W ay (by rw[<-e];exact v) K)
  refine⟨l1,o1,c,z2,z3,?_,by rw[Tr.get_set_other _ _ (cm Y)];exact z5,z6,z7,z8,g _ z9⟩;intro j b n p F;rcases f j b p with⟨rfl,rfl⟩|⟨_,p⟩
  .exact h.Bp i k j r b W n l1 K v (cm A) F c
  .exact z4 j b n p F
theorem ff.U9 (h:ff X H Ld pe t ds ctx s E w tm bz cs) (st run on:Nat) (a:∀k,has on k=false->has H.JT k=false\/cK k pe=none):
  ff X ⟨H.done,H.acts,H.uM,H.als,on,st,run,H.last,H.fl⟩ Ld pe t ds ctx s E w tm bz cs:=by
 refine⟨h.step,h.ro,h.ds,h.ctx,h.cs,h.Na,h.nE,h.kinds,h.xk,h.sQ,h.two,h.fl,h.We,h.pw,h.nw,h.tm,h.L5,h.j9,h.ids,h.Bp,h.SX,h.al1,?_⟩;intro k Z c ho;rcases a k ho with g|g
 .exact h.al2 k Z c g
 .intro id b d;rw[g]at d;cases d
end
end Go.Proofs.YtokipodjggomfaaGreatDoor.Abs
namespace Go.Proofs.YtokipodjggomfaaGreatDoor.Abs
open Go
theorem Cl{ops:Array Oper}{i:Nat}{o:Oper}(h:ops[i]? =some o)(l:List PI):link ops.toList (.act i::l)=.act i o::link ops.toList l:=by grind[h9,link,o7]
theorem Zg{ops:Array Oper}{i:Nat}{o:Oper}(h:ops[i]? =some o)(l:List PI):link ops.toList (.ev i::l)=.ev i o::link ops.toList l:=by grind[h9,link,o7]
theorem Pq{ops:Array Oper}{i:Nat}{o:Oper}(h:ops[i]? =some o)(l:List PI):link ops.toList (.re i::l)=.re i o::link ops.toList l:=by grind[h9,link,o7]
theorem Zh{ops:Array Oper}{i:Nat}{o:Oper}(h:ops[i]? =some o)(l:List PI):link ops.toList (.al i::l)=.al i o::link ops.toList l:=by grind[h9,link,o7]
theorem Pr{ops:Array Oper}{i:Nat}(l:List PI):link ops.toList (.on i::l)=.on i::link ops.toList l:=rfl
theorem Vz{a i:Nat}:Nat.lor a (bit i)≠0:=λh=>by
 have:has (Nat.lor a (bit i)) i=true:=(au _ _ _).2 (.inr rfl);rw[h,oc]at this;cases this
theorem Ew{all:List PO}{n:Nat}:∀{rest:List PI}{H:Dl},H.run≠0->bb all n rest H=true->u9 rest
 | [],_,_,_=>trivial
 |p::l,H,a,h=>by
  cases p with
  |act i=>trivial
  |ev i=>
   simp only[bb]at h;split at h
   .cases h
   .next x Y=>
    simp only[aw]at h;exact absurd (n3 h.1.1).2.2.2.1 a
  |al i=>
   simp only[bb]at h;split at h
   .cases h
   .next x Y=>
    simp only[aw]at h;exact absurd (n3 h.1.1).2.2.2.1 a
  |re i=>simp only[bb,aw]at h;exact absurd (rB h.1.2) a
  |on i=>simp only[bb,aw]at h;exact Ew (rest:=l) Vz h.2
theorem GZ{all:List PO}{n:Nat}{rest:List PI}{H:Dl}(a:u9 rest)(h:bb all n rest H=true):H.fj=0:=by
 cases rest with
 |nil=>simp only[bb,aw]at h;exact rB h.2
 |cons p l=>
  cases p with
  |act i=>
   simp only[bb]at h;split at h
   .cases h
   .simp only[aw]at h;exact(lW h.1).2.2.2.2.1
  |on i=>simp only[bb,aw]at h;exact rB h.1.2
  |_=>exact a.elim
theorem mM{m i j:Nat}(b:has m i=false)(a:¬i=j):has (Nat.lor m (bit j)) i=false:=by grind[eR,ia]
theorem iJ{all:List PO}{n:Nat}{a i:Nat}(V:i<n):∀{rest:List PI}{H:Dl},bb all n rest H=true->has H.acts a=true->has H.done i=false->∃x,cE all i=some x/\has x.before a=true
 | [],H,h,c,d=>by
   simp only[bb,aw]at h;have e:H.done=Nat.sub (bit n) 1:=aL h.1.1;rw[e,PJ]at d;simp[V]at d
 |p::l,H,h,c,d=>by
  cases p with
  |act j=>
   simp only[bb]at h;split at h
   .cases h
   .next x Y=>
    simp only[aw]at h;by_cases b:i=j
    .subst b;exact⟨x,Y,(lW h.1).2.2.1 a c⟩
    .exact iJ V (rest:=l) h.2 ((au _ _ _).2 (.inl c)) (mM d b)
  |ev j=>
   simp only[bb]at h;split at h
   .cases h
   .next x Y=>
    simp only[aw]at h;by_cases b:i=j
    .subst b;exact⟨x,Y,(n3 h.1.1).2.2.1 a c⟩
    .exact iJ V (rest:=l) h.2 c (mM d b)
  |al j=>
   simp only[bb]at h;split at h
   .cases h
   .next x Y=>
    simp only[aw]at h;by_cases b:i=j
    .subst b;exact⟨x,Y,(n3 h.1.1).2.2.1 a c⟩
    .exact iJ V (rest:=l) h.2 c (mM d b)
  |re j=>simp only[bb,aw]at h;exact iJ V (rest:=l) h.2 c d
  |on j=>simp only[bb,aw]at h;exact iJ V (rest:=l) h.2 c d
section
variable{X:DC}{H QZ:Dl}{Ld:List Nat}{pe:pP}{t:Tr AV}{ds:List gO}{ctx:Option (List PE)}{s:S}{E:G}{w:World}{tm:Array Value}{bz:List Deferred}{cs:List Frame}{i:Nat}
theorem r7{rec:Rec}(c:jw X.ops X.all){n:Nat}{a:RG->Prop}:∀(rest:List PI){H:Dl}{pe:pP}{t:Tr AV}{s:S},bb X.all n rest H=true->
  ff X H Ld pe t ds ctx s E w tm bz cs->oB X H Ld t s->(∀x,x∈link X.ops.toList rest->x∈X.lp)->
  (∀QZ eo B Q U,u9 eo->bb X.all n eo QZ=true->ff X QZ Ld B Q ds ctx U E w tm bz cs->oB X QZ Ld Q U->(∀x,x∈link X.ops.toList eo->x∈X.lp)->
    (kh X.C rec X.fi X.ops (link X.ops.toList eo) B Q ds ctx U).path a)->
  (kh X.C rec X.fi X.ops (link X.ops.toList rest) pe t ds ctx s).path a
 | [],H,pe,t,s,ho,g,z,f,K=>K H [] pe t s trivial ho g z f
 |p::l,H,pe,t,s,ho,g,z,f,K=>by
  cases p with
  |act i=>exact K H (.act i::l) pe t s trivial ho g z f
  |on i=>have D:=ho;simp only[bb,aw]at D;exact K H (.on i::l) pe t s (Ew (rest:=l) Vz D.2) ho g z f
  |ev i=>
   simp only[bb]at ho;split at ho
   .cases ho
   .next x Y=>
    simp only[aw]at ho;obtain⟨⟨A,I⟩,W⟩:=ho;obtain⟨o,j,Z⟩:=a1u (t:=t) c Y A;have m:x.kind=.ev:=by cases L:x.kind<;>rw[L]at I<;>first|rfl|cases I
    have d:=LZ (Z▸m);rw[Zg j.ho]at f ⊢;show((R.xJ (P9 X.ops o X.C t s)).bind λv=>kh X.C rec X.fi X.ops (link X.ops.toList l) pe (put X.fi.nt t o.dst v) ds ctx s).path a;refine R.wB λv M=>?_
    exact r7 c l W (g.Wf c Y j d (f _ (by simp)) v) (oB.Wf c g z j d M) (λy q=>f y (by simp[q])) K
  |re i=>
   simp only[bb,aw]at ho;obtain⟨⟨A,I⟩,W⟩:=ho;obtain⟨o,F,d⟩:=g.We i A;rw[Pq F]at f ⊢;show((R.xJ (P9 X.ops o X.C t s)).bind λv=>@Bool.rec (λ_=>R RG) (.bad "float: another value") (kh X.C rec X.fi X.ops (link X.ops.toList l) pe t ds ctx s) (h3 X.fi.nt t o.dst v)).path a;refine R.wB λv M=>?_
   cases P:h3 X.fi.nt t o.dst v with
   |false=>trivial
   |true=>
    refine r7 c l W (g.mask _ _) ?_ (λy q=>f y (by simp[q])) K;intro k Z u e;simp only[yj,ia]at e;by_cases G:k=i
    .subst G;exact⟨o,v,F,d,M,F2 P⟩
    .refine z k Z u ?_;have:decide (i=k)=false:=by simp[cm G]
     rw[this]at e;simpa using e
  |al i=>
   simp only[bb]at ho;split at ho
   .cases ho
   .next x Y=>
    simp only[aw]at ho;obtain⟨⟨A,I⟩,W⟩:=ho;obtain⟨o,j,Z⟩:=a1u (t:=t) c Y A;have m:x.kind=.al:=by cases L:x.kind<;>rw[L]at I<;>first|rfl|cases I
    have d:=L0 (Z▸m);rw[Zh j.ho]at f ⊢;have J:∀(Q:Tr AV)(U:S),oB X ⟨Nat.lor H.done (bit i),H.acts,H.uM,Nat.lor H.als (bit i),H.JT,minus H.uM H.last,0,H.last,x::H.fl⟩ Ld Q U:=by intro Q U k Z u e;simp only[yj]at e;have N:has H.uM k=true:=Z;rw[N]at e;exact absurd (g.nw k (by simpa using e)) u
    show((R.xJ (c8 X.ops o.guard t)).bind (AL o i X.fi.nt (kh X.C rec X.fi X.ops (link X.ops.toList l)) X.C pe t ds ctx s)).path a;refine R.wB λb O=>?_
    cases b with
    |false=>exact r7 c l W (g.a4H c Y j d (f _ (by simp)) O _) (J _ _) (λy q=>f y (by simp[q])) K
    |true=>
     show((R.xJ (aF o.op X.C t)).bind λr=>kh X.C rec X.fi X.ops (link X.ops.toList l) ((i,(s.next,r.2))::pe) (put X.fi.nt t o.dst (Vt r.1 s.next)) ds ctx ⟨s.h,Nat.add s.next 1,s.pc⟩).path a;refine R.wB λr T=>?_
     obtain⟨V,ay⟩:=r;exact r7 c l W (g.a4G c Y j d (f _ (by simp)) O T _) (J _ _) (λy q=>f y (by simp[q])) K
def QD(X:DC):RG->Prop
 | .fin t ds ctx s=>mY X.C X.base X.Lb X.s0 X.w0 X.fi X.ro X.k X.cs0 X.m0 (.fin t ds ctx s)
 | .eH ch t ds ctx s=>mY X.C X.base X.Lb X.s0 X.w0 X.fi X.ro X.k X.cs0 X.m0 (.eH ch (eJ X.fi.nt t X.lp) ds ctx s)
theorem uE(nt:Nat)(t:Tr AV)(d:Nat):∀l:List PS,((eJ nt t l).get d=some .junk/\d<nt)\/((eJ nt t l).get d=t.get d/\(d<nt->∀k o,(PS.ev k o∈l\/PS.al k o∈l)->o.dst≠some d))
 | []=>.inr ⟨rfl,λ_ k o h=>by rcases h with h|h<;>cases h⟩
 |x::l=>by
  have c:=uE nt t d l;have key:∀o:Oper,((put nt (eJ nt t l) o.dst .junk).get d=some .junk/\d<nt)\/((put nt (eJ nt t l) o.dst .junk).get d=t.get d/\(d<nt->o.dst≠some d)/\(d<nt->∀k o,(PS.ev k o∈l\/PS.al k o∈l)->o.dst≠some d)):=by grind[wj,lN,iD]
  cases x with
  |ev i o=>
   rcases key o with h|⟨A,I,W⟩
   .exact .inl h
   .refine .inr ⟨A,λb k T a=>?_⟩;rcases a with a|a
    .grind
    .grind
  |al i o=>
   rcases key o with h|⟨A,I,W⟩
   .exact .inl h
   .refine .inr ⟨A,λb k T a=>?_⟩;rcases a with a|a
    .grind
    .grind
  |_=>
   rcases c with h|⟨A,I⟩
   .exact .inl h
   .refine .inr ⟨A,λb k T a=>I b k T ?_⟩;rcases a with a|a<;>cases a with
     |tail _ a=>first|exact .inl a|exact .inr a
theorem ff.junk (h:ff X H Ld pe t ds ctx s E w tm bz cs) {B:G} (l:Grow E B):aD B X.fi.nt (eJ X.fi.nt t X.lp) tm:=by
 obtain⟨A,I,W⟩:=h.tm;refine⟨A,?_,?_⟩
 .intro d v a;rcases uE X.fi.nt t d X.lp with⟨g1,g2⟩|⟨g1,g2⟩
  .rw[g1]at a;obtain rfl:=ae a;have b:d<tm.size:=by rw[A];exact g2
   exact⟨g2,tm[d],dR b,.inl rfl⟩
  .rw[g1]at a;obtain⟨j,c,m,e⟩:=I d v a;refine⟨j,c,m,?_⟩;rcases e with⟨k,o,g,z2,z3,z4⟩|e
   .obtain⟨T,f,i⟩:=h.L5 k g;rw[z3]at f;obtain rfl:=ae f;exact absurd z4 (g2 j k o i)
   .exact e.grow l
 .intro d a;rcases uE X.fi.nt t d X.lp with⟨g1,g2⟩|⟨g1,g2⟩
  .rw[g1]at a;cases a
  .rw[g1]at a;rcases W d a with⟨k,o,g,z2,z3,z4⟩|e
   .obtain⟨T,f,i⟩:=h.L5 k g;rw[z3]at f;obtain rfl:=ae f;by_cases b:d<X.fi.nt
    .exact absurd z4 (g2 b k o i)
    .grind
   .exact e
theorem Nz(hC:Good X.C){rec:Rec}(J:ep X.C X.base rec)(h:jw X.ops X.all)(hR0:Rel X.C X.base X.Lb X.s0 X.w0){n a:Nat}{L:List Nat}{x:PO}(Y:cE X.all a=some x)
  (hb:∀k,has x.before k=true->k∈Ld) (hm0:Steps X.C.P X.m0 (lone (aC X.fi X.ro tm (.inRegion X.ops (a::L)::X.k) bz .run) cs w)):
  ∀(rest:List PI){H:Dl}{s:S},gX rest=some a->bb X.all n rest H=true->ff X H Ld pe t ds ctx s E w tm bz cs->(∀x,x∈link X.ops.toList rest->x∈X.lp)->
  (∀QZ l Q XB F U B M tm' G cs',bb X.all n l QZ=true->ff X QZ (a::Ld) pe Q XB F U B M tm' G cs'->oB X QZ (a::Ld) Q U->(∀x,x∈link X.ops.toList l->x∈X.lp)->
    Steps X.C.P X.m0 (lone (aC X.fi X.ro tm' (.inRegion X.ops L::X.k) G .run) cs' M)->
    (kh X.C rec X.fi X.ops (link X.ops.toList l) pe Q XB F U).path (QD X))->
  (kh X.C rec X.fi X.ops (link X.ops.toList rest) pe t ds ctx s).path (QD X)
 | [],H,s,hh,_,_,_,_=>by cases hh
 |p::l,H,s,hh,ho,e,hl,K=>by
  cases p with
  |ev i=>cases hh
  |re i=>cases hh
  |al i=>cases hh
  |on i=>
   simp only[bb,aw,fY]at ho;obtain⟨⟨⟨A,I⟩,W⟩,D⟩:=ho;have him:i∈Ld:=hb i (Ex Y (rest:=l) hh D ((au _ _ _).2 (.inr rfl)));rw[Pr]at hl ⊢;show(dOn i (kh X.C rec X.fi X.ops (link X.ops.toList l)) pe t ds ctx s).path (QD X);unfold dOn;cases hp:cK i pe with
   |none=>refine Nz hC J h hR0 Y hb hm0 l hh D (e.U9 _ _ _ ?_) (λy hy=>hl y (by simp[hy])) K;intro k Z;rw[eR,zV,ia,Fw]at Z;exact .inl Z.1
   |some q=>obtain⟨id,ay⟩:=q;exact Nz hC J h hR0 Y hb hm0 l hh D (e.a1k hR0 A I him hp _ _) (λy hy=>hl y (by simp[hy])) K
  |act i=>
   have XA:i=a:=by simpa[gX]using hh
   subst XA;simp only[bb,Y,aw]at ho;obtain⟨A,I⟩:=ho;obtain⟨g1,g2,g3,g4,g5,g6⟩:=lW A;obtain⟨o,hoi,r1,r2,r3,r4⟩:=h i x Y;rw[r1]at g1;rw[Cl hoi]at hl ⊢;show(h8 X.C rec X.fi X.ops (kh X.C rec X.fi X.ops (link X.ops.toList l) pe) o t ds ctx s).path (QD X);obtain⟨tJ,htJ,hag⟩:=yp e.tm _ (λd m=>ff.jl d m);have hni:i ∉ Ld:=λhm=>by rw[e.Na i hm]at g1;cases g1
   have hfl:∀k y,(has H.uM k=true\/has H.als k=true)->k ∉ Ld->cE X.all k=some y->y∈H.fl->
     (∀d,o.dst=some d->has y.look d=true->False)/\(∀d,o.dst=some d->has y.dst d=true->False)/\∀d,has x.look d=true->has y.dst d=true->False:=by
    intro k y Z r hy hyf;obtain⟨T,ho',V,z2,z3,z4⟩:=h k y hy;rcases tz g6 y hyf with g|⟨q1,q2⟩
    .rw[V]at g;exact absurd (hb k g) r
    .obtain⟨q3,q4⟩:=E5 q1;have m:∀d,o.dst=some d->has x.dst d=true:=λd m=>by rw[r3];exact mj m
     exact⟨λd e1 e2=>q3 d (m d e1) e2,λd e1 e2=>q4 d (m d e1) e2,λd e1 e2=>ov q2 d e1 e2⟩
   have z:∀d,has (jA X.ops.toList o) d=true->t.get d=tJ.get d:=by intro d m;refine(hag d ?_).symm;rintro⟨k,T,Z,r,ho',a8b⟩;obtain⟨y,hy1,O⟩:=e.fl k Z;obtain⟨V,z2,z3,z4⟩:=xW h O ho';exact(hfl k y Z r O hy1).2.2 d (by rw[r2];exact m) (by rw[z3];exact mj a8b)
   refine wy (k:=X.k) (rest:=L) hC J e.step.rel htJ (Lt X.ops o λd m=>z d (gC m)) (λs=>HO o.op o.type s λd m=>z d (l6 m))
    (λc hc=>JQ c λd m=>z d (l6 (by rw[hc];exact m))) hoi e.ro e.ds e.ctx _ _ ?_ ?_
   .intro B U M cs' XB G F v c f hv a3k a6q hcs j;refine K _ l _ XB F U B M (lO tm o.dst c) G cs' I ?_ ?_ (λy hy=>hl y (by simp[hy])) (hm0.trans j)
    .refine⟨e.step.trans f,e.ro.grow f.grow,a3k,a6q,e.cs.trans hcs,?_,?_,?_,?_,?_,e.two,e.fl,e.We,e.pw,?_,?_,e.L5,?_,e.ids,?_,?_,?_,?_⟩
     .intro k Z;rw[au];rcases bQ.1 Z with rfl|Z
      .exact .inr rfl
      .exact .inl (e.Na k Z)
     .grind[au]
     .intro k Z;rcases(au _ _ _).1 Z with g|g
      .rcases e.kinds k g with q|q
       .grind[au]
       .exact .inr q
      .grind[au]
     .intro k Z;exact(au _ _ _).2 (.inl (e.xk k Z))
     .intro k Z;exact(au _ _ _).2 (.inl (e.sQ k Z))
     .grind
     .refine((e.tm.grow f.grow).a7G o.dst hv).mono ?_;rintro d ⟨k,T,V,z2,z3⟩;refine⟨k,T,V,?_,z3⟩;intro hm;rcases bQ.1 hm with rfl|hm
      .rcases V with V|V
       .rw[e.xk k V]at g1;cases g1
       .rw[e.sQ k V]at g1;cases g1
      .exact z2 hm
     .intro k id b hp;obtain⟨q1,q2⟩:=e.j9 k id b hp;exact⟨q1,iT q2 f.next⟩
     .intro k k' id u b N l1 l2 hp hp' Hv hl1 hl2;obtain⟨l3,q1,q2⟩:=f.back hl1 (e.j9 k id b hp).2;obtain⟨l4,q3,q4⟩:=f.back hl2 (e.j9 k' u N hp').2;rw[q2,q4];exact e.Bp k k' id u b N l3 l4 hp hp' Hv q1 q3
     .intro k id b l1 hp hl1;obtain⟨l3,q1,q2⟩:=f.back hl1 (e.j9 k id b hp).2;rw[q2];exact iT (e.SX k id b l3 hp q1) f.keep.size
     .intro k Z r;have a6l:k ∉ Ld:=λhm=>r (bk _ hm)
      refine(e.al1 k Z a6l).step f λT ho'=>?_
      obtain⟨y,hy1,O⟩:=e.fl k (.inr Z);obtain⟨V,z2,z3,z4⟩:=xW h O ho';obtain⟨q1,q2,_⟩:=hfl k y (.inr Z) a6l O hy1;refine⟨λd m=>?_,λd m=>?_⟩
      .grind[iD]
      .grind[iD,mj]
     .intro k Z hkm hon;rcases bQ.1 hkm with rfl|hkm
      .rw[e.sQ k Z]at g1;cases g1
      .exact(e.al2 k Z hkm hon).step f
    .intro k Z r R;simp only[yj]at R;have hk':has H.uM k=true:=Z;rw[hk']at R;exact absurd (bk _ (hb k (by simpa using R))) r
   .intro B U M ch cch items f hch j;exact⟨B,tm,items,bz,cs,M,cch,e.step.trans f,e.junk f.grow,b7 f.grow e.ds,e.ctx.grow f.grow,e.cs,hch,hm0.trans j⟩
where
 Ex {n a:Nat} {x:PO} (Y:cE X.all a=some x):∀{rest:List PI}{H:Dl},gX rest=some a->bb X.all n rest H=true->∀{k:Nat},has H.run k=true->has x.before k=true
  | [],_,hh,_,_,_=>by cases hh
  |p::l,H,hh,ho,k,Z=>by
   cases p with
   |ev i=>cases hh
   |re i=>cases hh
   |al i=>cases hh
   |act i=>
    have XA:i=a:=by simpa[gX]using hh
    subst XA;simp only[bb,Y,aw]at ho;exact(lW ho.1).2.2.2.1 k Z
   |on i=>simp only[bb,aw]at ho;exact Ex Y (rest:=l) hh ho.2 ((au _ _ _).2 (.inl Z))
end
end Go.Proofs.YtokipodjggomfaaGreatDoor.Abs
namespace Go.Proofs.YtokipodjggomfaaGreatDoor.Abs
open Go
section
variable{P:Program}{fi:FI}{ro:Option Nat}{tm:Array Value}{k:List Item}{ds:List Deferred}{cs:List Frame}{w:World}{ops:Array Oper}
theorem Bk{id:Nat}:
  step P (lone (aC fi ro tm (.code (.region id ops true)::k) ds .run) cs w)=
   .next (lone (aC fi ro tm (.inRegion ops (Region.schedule (P.follows .mixedOrders) ops (w.tape w.drawn (.order fi.fn id)))::k) ds .run) cs { w with drawn:=w.drawn+1 }):=
 cz (by simp[stepG,stepG.exec,aC,choose,Sem.run,Question.forced,Question.cut])
end
theorem rh{all:List PO}{n a:Nat}(b:∀i x,cE all i=some x->x.i=i):∀{rest:List PI}{H:Dl},gX rest=some a->bb all n rest H=true->(∃x,cE all a=some x)/\has H.done a=false
 | [],_,hh,_=>by cases hh
 |p::l,H,hh,ho=>by
  cases p with
  |ev i=>cases hh
  |re i=>cases hh
  |al i=>cases hh
  |act i=>
   have XA:i=a:=by simpa[gX]using hh
   subst XA;simp only[bb]at ho;split at ho
   .cases ho
   .grind[lW]
  |on i=>simp only[bb,aw]at ho;have h:=rh b (rest:=l) hh ho.2;exact h
theorem Cw{all:List PO}{n a i:Nat}(V:i<n)(b:¬i=a):∀{rest:List PI}{H:Dl},gX rest=some a->bb all n rest H=true->has H.done i=false->∃x,cE all i=some x/\has x.before a=true
 | [],_,hh,_,_=>by cases hh
 |p::l,H,hh,ho,c=>by
  cases p with
  |ev i=>cases hh
  |re i=>cases hh
  |al i=>cases hh
  |act j=>
   have XA:j=a:=by simpa[gX]using hh
   subst XA;simp only[bb]at ho;split at ho
   .cases ho
   .next x Y=>
    simp only[aw]at ho;exact iJ V ho.2 ((au _ _ _).2 (.inr rfl)) (mM c b)
  |on j=>simp only[bb,aw]at ho;exact Cw V b (rest:=l) hh ho.2 c
theorem JS{all:List PO}{n i:Nat}(V:i<n):∀{rest:List PI}{H:Dl},u9 rest->gX rest=none->bb all n rest H=true->has H.done i=true
 | [],H,_,_,ho=>by
   simp only[bb,aw]at ho;have e:H.done=Nat.sub (bit n) 1:=aL ho.1.1;rw[e,PJ];simp[V]
 |p::l,H,a,hh,ho=>by
  cases p with
  |ev i=>exact a.elim
  |re i=>exact a.elim
  |al i=>exact a.elim
  |act j=>cases hh
  |on j=>simp only[bb,aw]at ho;have h:=JS V (rest:=l) a hh ho.2;exact h
section
variable{X:DC}
theorem GK(a:jw X.ops X.all)(f:Rel X.C X.base X.Lb X.s0 X.w0){rec:Rec}{Ld:List Nat}(b:∀k,k<X.ops.size->k∈Ld){pe:pP}{t:Tr AV}{ds:List gO}{ctx:Option (List PE)}{E:G}{w:World}{tm:Array Value}{bz:List Deferred}{cs:List Frame}
  (g:Steps X.C.P X.m0 (lone (aC X.fi X.ro tm (.inRegion X.ops []::X.k) bz .run) cs w)):
  ∀(rest:List PI){H:Dl}{s:S},u9 rest->gX rest=none->bb X.all X.ops.size rest H=true->ff X H Ld pe t ds ctx s E w tm bz cs->
  (kh X.C rec X.fi X.ops (link X.ops.toList rest) pe t ds ctx s).path (QD X)
 | [],H,s,_,_,_,e=>by
   refine⟨E,tm,bz,cs,w,e.step,?_,e.ds,e.ctx,e.cs,g.trans (.one sW)⟩;have x:∀d,¬DJ X H Ld d:=by
    rintro d ⟨k,o,_,n,ho,_⟩;refine n (b k ?_);rcases cV k X.ops.size with h|h
    .exact h
    .grind
   obtain⟨A,I,W⟩:=e.tm;exact⟨A,λd v r=>by obtain⟨g1,c,g2,g3⟩:=I d v r;exact⟨g1,c,g2,g3.resolve_left (x d)⟩,λd r=>(W d r).resolve_left (x d)⟩
 |p::l,H,s,m,hh,ho,e=>by
  cases p with
  |ev i=>exact m.elim
  |re i=>exact m.elim
  |al i=>exact m.elim
  |act j=>cases hh
  |on i=>
   simp only[bb,aw,fY]at ho;obtain⟨⟨⟨A,I⟩,W⟩,D⟩:=ho;have u:i∈Ld:=by
    obtain⟨y,_,z⟩:=e.fl i (.inr A);obtain⟨o,ho,_⟩:=a i y z;refine b i ?_;rcases cV i X.ops.size with h|h
    .exact h
    .grind
   rw[Pr];show(dOn i (kh X.C rec X.fi X.ops (link X.ops.toList l)) pe t ds ctx s).path (QD X);unfold dOn;cases B:cK i pe with
   |none=>refine GK a f b g l m hh D (e.U9 _ _ _ ?_);intro k Z;rw[eR,zV,ia,Fw]at Z;exact .inl Z.1
   |some q=>obtain⟨id,ay⟩:=q;exact GK a f b g l m hh D (e.a1k f A I u B _ _)
theorem oB.more {H:Dl} {Ld:List Nat} {t:Tr AV} {s:S} (h:oB X H Ld t s) (i:Nat):oB X H (i::Ld) t s:=λk Z a b=>h k Z (λc=>a (bk _ c)) b
theorem Qh(v:Good X.C){rec:Rec}(e:ep X.C X.base rec)(b:jw X.ops X.all)(j:Rel X.C X.base X.Lb X.s0 X.w0):
  ∀(L Ld:List Nat){H:Dl}{rest:List PI}{pe:pP}{t:Tr AV}{ds:List gO}{ctx:Option (List PE)}{s:S}{E:G}{w:World}{tm:Array Value}{bz:List Deferred}{cs:List Frame},
  K8 X.ops.size X.all Ld L->u9 rest->bb X.all X.ops.size rest H=true->ff X H Ld pe t ds ctx s E w tm bz cs->oB X H Ld t s->(∀x,x∈link X.ops.toList rest->x∈X.lp)->
  Steps X.C.P X.m0 (lone (aC X.fi X.ro tm (.inRegion X.ops L::X.k) bz .run) cs w)->
  (kh X.C rec X.fi X.ops (link X.ops.toList rest) pe t ds ctx s).path (QD X)
 | [],Ld,H,rest,pe,t,ds,ctx,s,E,w,tm,bz,cs,c,z,ho,m,N,O,F=>by
   have R:∀i x,cE X.all i=some x->x.i=i:=λi x Y=>by obtain⟨o,_,h,_⟩:=b i x Y;exact h
   cases hh:gX rest with
   |none=>exact GK b j c F rest z hh ho m
   |some a=>
    obtain⟨⟨x,Y⟩,p⟩:=rh R hh ho;obtain⟨o,hoo,_⟩:=b a x Y;have n:a<X.ops.size:=by grind
    rw[m.Na a (c a n)]at p;cases p
 |i::L,Ld,H,rest,pe,t,ds,ctx,s,E,w,tm,bz,cs,c,z,ho,m,N,O,F=>by
  have R:∀i x,cE X.all i=some x->x.i=i:=λi x Y=>by obtain⟨o,_,h,_⟩:=b i x Y;exact h
  obtain⟨q,n,f,d⟩:=c;cases p:has H.done i with
  |true=>
   rcases m.kinds i p with g|g|g
   .exact absurd (m.nE i g) q
   .obtain⟨y,_,r⟩:=m.fl i (.inl g);have T:has H.fj i=false:=by rw[GZ z ho,oc]
    obtain⟨B,M,J,u,V⟩:=ZM v b m g (N i g q T) r (f y r) L;exact Qh v e b j L (i::Ld) d z ho u (N.more i) O (F.trans V)
   .obtain⟨y,_,r⟩:=m.fl i (.inr g);obtain⟨B,M,J,u,V⟩:=ZN v b m g q r (f y r) L;exact Qh v e b j L (i::Ld) d z ho u (N.more i) O (F.trans V)
  |false=>
   cases hh:gX rest with
   |none=>rw[JS n z hh ho]at p;cases p
   |some a=>
    obtain⟨⟨x,Y⟩,K⟩:=rh R hh ho;by_cases XA:i=a
    .subst XA;refine Nz v e b j Y (f x Y) F rest hh ho m O ?_;intro QZ l Q XB a3E U B M J a4a cs' A I W D h5;refine r7 b l A I W D ?_;intro σ2 Z pe2 t2 s2 g1 g2 g3 g4 g5;exact Qh v e b j L (i::Ld) d g1 g2 g3 g4 g5 h5
    .obtain⟨y,r,hya⟩:=Cw n XA hh ho p;rw[m.Na a (f y r a hya)]at K;cases K
end
theorem xZ{C:Ctx}{base:Nat}(B:Good C){rec:Rec}(g:ep C base rec){E:G}{s:S}{w:World}{fi:FI}{ro:Option Nat}{t:Tr AV}{tm:Array Value}{k:List Item}{ds:List gO}{bz:List Deferred}{ctx:Option (List PE)}{cs:List Frame}{ops:Array Oper}
  (A:Rel C base E s w) (i:aD E fi.nt t tm) (m:mX E fi.roundOf ro) (n:cN fi.tl E ds=some bz) (e:eu E fi.kind ctx cs)
  {all:List PO} (f:jw ops all) {a:List PI} (o:bb all ops.size a ⟨0,0,0,0,0,0,0,0,[]⟩=true) {L:List Nat} (D:K8 ops.size all [] L) (lp:List PS) (p:∀x,x∈link ops.toList a->x∈lp):
  (kh C rec fi ops (link ops.toList a) [] t ds ctx s).path
    (QD ⟨C,base,fi,ops,all,lp,ro,k,E,s,w,cs,lone (aC fi ro tm (.inRegion ops L::k) bz .run) cs w⟩):=by
 let X:DC:=⟨C,base,fi,ops,all,lp,ro,k,E,s,w,cs,lone (aC fi ro tm (.inRegion ops L::k) bz .run) cs w⟩
 have z:∀j,¬has 0 j=true:=λj h=>by rw[oc]at h;cases h
 have F:ff X ⟨0,0,0,0,0,0,0,0,[]⟩ [] [] t ds ctx s E w tm bz cs:=by
  refine⟨Step.refl A,m,n,e,bN.refl e,(λk h=>by cases h),λk h=>absurd h (z k),λk h=>absurd h (z k),λk h=>absurd h (z k),λk h=>absurd h (z k),λk h=>absurd h (z k),
   (λk h=>by rcases h with h|h<;>exact absurd h (z k)),λk h=>absurd h (z k),(λx y h=>by cases h),λk h=>absurd h (z k),?_,(λk h=>by rcases h with h|h<;>exact absurd h (z k)),
   (λk id b h=>by cases h),(λk k' id b N h=>by cases h),(λk k' id u b N l O h=>by cases h),(λk id b l h=>by cases h),λk h=>absurd h (z k),λk h=>absurd h (z k)⟩
  exact⟨i.1,λd v q=>by obtain⟨g1,c,g2,g3⟩:=i.2.1 d v q;exact⟨g1,c,g2,.inr g3⟩,λd q=>.inr (i.2.2 d q)⟩
 have H:oB X ⟨0,0,0,0,0,0,0,0,[]⟩ [] t s:=λk h=>absurd h (z k)
 refine r7 (X:=X) f a o F H p ?_;intro I r J t2 s2 g1 g2 g3 g4 g5;exact Qh (X:=X) B g f A L [] D g1 g2 g3 g4 g5 (oF _ _)
theorem Step.drawn {C:Ctx} {base:Nat} {E:G} {s:S} {w:World} (a:Rel C base E s w) (n:Nat):Step C base E s w E s { w with drawn:=n }:=
 ⟨Grow.refl E,a.drawn rfl,⟨aX _,rfl,rfl,rfl,λ_ _ h _=>h⟩,λ_ h _=>h,aX _,λ_ _ h=>a.lt h,λ_ l h=>.inl ⟨l,h⟩,λ_ b h _=>⟨b,h⟩,λZ _ h id l d A I=>Dt.c6.stays (w:=w) (M:={ w with drawn:=n }) (F:=λk=>k<w.heap.size/\¬Live E s k/\¬Z k) (F':=λk=>k<w.heap.size/\¬Live E s k/\¬Z k) (λe c=>⟨c,rfl⟩) d (h id l d A I)⟩
theorem Rz{X:DC}{r:RG}(h:QD X r):(Wz X.fi.nt X.lp r).path (mY X.C X.base X.Lb X.s0 X.w0 X.fi X.ro X.k X.cs0 X.m0):=by
 cases r with
 |fin t ds ctx s=>exact h
 |eH ch t ds ctx s=>exact h
end Go.Proofs.YtokipodjggomfaaGreatDoor.Abs
namespace Go.Proofs.YtokipodjggomfaaGreatDoor.Abs
open Go
def Ik(s U:S):Prop:=(s.next=U.next/\s.pc=U.pc)/\∀id,s.h.get id=U.h.get id
theorem Ik.live {E:G} {s U:S} (h:Ik s U) {k:Nat}:Live E U k->Live E s k:=λ⟨id,b,l,a,c⟩=>⟨id,b,l,by rw[h.2 id];exact a,c⟩
theorem Ik.c6 {C:Ctx} {E:G} {s U:S} {w:World} {Z:Nat->Prop} (h:Ik s U) (b:cy C E s w Z):cy C E U w Z:=λid l d c e=>
 Dt.c6.stays (λf a=>⟨⟨a.1,λhh=>a.2.1 (h.live hh),a.2.2⟩,rfl⟩) d (b id l d c e)
theorem Rel.same {C:Ctx} {base:Nat} {E:G} {s U:S} {w:World} (h:Ik s U) (a:Rel C base E s w):Rel C base E U w:=
 ⟨λid b c=>a.ay id b (by rw[h.2 id];exact c),λi j x y li e Y g=>a.sep i j x y li e (by rw[h.2 i];exact Y) (by rw[h.2 j];exact g),λid d=>a.new id (by rw[h.1.1];exact d),a.eM,
   λid b l c=>a.low id b l (by rw[h.2 id];exact c),a.bs,λf k=>a.pc f (by rw[h.1.2];exact k),h.c6 a.rd⟩
theorem Step.same {C:Ctx} {base:Nat} {Lb E:G} {s0 s U:S} {w0 w:World} (h:Ik s U) (c:Step C base Lb s0 w0 E s w):Step C base Lb s0 w0 E U w:=by
 refine⟨c.grow,c.rel.same h,c.keep,?_,by rw[<-h.1.1];exact c.next,c.SW,c.MT,?_,λa e f=>h.c6 (c.Xw a e f)⟩
 .rintro k ⟨id,b,l,g,i⟩ Z;exact c.live k ⟨id,b,l,by rw[h.2 id];exact g,i⟩ Z
 .intro id b j d;exact c.lV id b (by rw[h.2 id];exact j) d
theorem QD.same {X:DC} {t:Tr AV} {ds:List gO} {ctx:Option (List PE)} {s U:S} (h:Ik s U) (d:QD X (.fin t ds ctx s)):QD X (.fin t ds ctx U):=by obtain⟨B,b,a,c,M,A,I⟩:=d;exact⟨B,b,a,c,M,A.same h,I⟩
theorem NY{s U:S}{b off:Nat}{vs:List AV}(h:gQ s b off vs=.ok U):
  (vs=[]/\U=s)\/∃elem cs n fz fh sg,s.h.get b=some (.cells elem cs n fz fh false sg)/\(U.next=s.next/\U.pc=s.pc)/\
    ∀id,U.h.get id=if id=b then some (.cells elem (Tr.iZ vs off cs) n fz [] false sg)else if id∈fh then none else s.h.get id:=by
 cases vs with
 |nil=>have a:(R.ok s:R S)=.ok U:=h;injection a with a;exact .inl ⟨rfl,a.symm⟩
 |cons v vs=>
  right;have a:(match s.h.get b with
   |some (.cells elem cs n fz fh fj sg)=>
    match !fj&&Nat.ble (Nat.add off (v::vs).length) n&&Nat.ble fz off&&kJ (v::vs)with
    |true=>R.ok (⟨(kH fh s.h).set b (.cells elem (Tr.iZ (v::vs) off cs) n fz [] false sg),s.next,s.pc⟩:S)
    |false=>.bad "write"
   |_=>.bad "write: no cells")=.ok U:=h
  cases e:s.h.get b with
  |none=>rw[e]at a;cases a
  |some x=>
   rw[e]at a;cases x with
   |cells elem cs n fz fh fj sg=>
    simp only at a;cases f:(!fj&&Nat.ble (Nat.add off (v::vs).length) n&&Nat.ble fz off&&kJ (v::vs))with
    |false=>rw[f]at a;cases a
    |true=>
     rw[f]at a;injection a with a;subst a;have c:fj=false:=by grind
     subst c;refine⟨elem,cs,n,fz,fh,sg,rfl,⟨rfl,rfl⟩,λid=>?_⟩;rw[Tr.bm];by_cases d:b=id
     .subst d;simp
     .grind[uQ]
   |_=>cases a
theorem yk{k:Nat}:∀{l:List Nat},pz k l=false->k ∉ l
 | [],_,h=>by cases h
 |e::l,h,b=>by
  unfold pz at h;cases a:Nat.beq k e with
  |true=>rw[a]at h;cases h
  |false=>
   rw[a]at h;cases b with
   |head=>rw[rK]at a;cases a
   |tail _ b=>exact yk h b
theorem Df{s:S}{b:Nat}{l:List Nat}(h:E6 s b=.ok l):∀ay,s.h.get b=some ay->zG ay=l:=by intro ay a;unfold E6 at h;rw[a]at h;cases ay<;>first|(cases h;done)|(injection h)
def Dn(b:Nat)(d:S->R S):Prop:=∀s U,d s=.ok U->
 (∀s2,d s2=.ok s2)\/∃ay c,s.h.get b=some ay/\(U.next=s.next/\U.pc=s.pc)/\(∀id,U.h.get id=if id=b then some c else if id∈zG ay then none else s.h.get id)/\
   ∀s2 a,s2.h.get b=some ay->d s2=.ok a->(a.next=s2.next/\a.pc=s2.pc)/\∀id,a.h.get id=if id=b then some c else if id∈zG ay then none else s2.h.get id
theorem a3v(b off:Nat)(vs:List AV):Dn b (λs=>gQ s b off vs):=by
 intro s U h;cases vs with
 |nil=>exact .inl λs2=>rfl
 |cons v vs=>
  have h:gQ s b off (v::vs)=.ok U:=h;rcases NY h with⟨c,_⟩|⟨ex,r,t,u,g,w,i,d,j⟩
  .cases c
  .refine .inr ⟨_,_,i,d,j,λs2 e g2 I=>?_⟩;have I:gQ s2 b off (v::vs)=.ok e:=I;rcases NY I with⟨c,_⟩|⟨x,y,z,A,k,B,a,f,py⟩
   .cases c
   .rw[g2]at a;have a:=ae a;injection a with l m n o p C q;subst l;subst m;subst n;subst o;subst p;subst q;exact⟨f,py⟩
theorem ZP(C:Ctx)(b:Nat)(i:SE)(g k:Nat)(c:List AV):Dn b (λs=>hJ C s b i g k c):=by
 have key:∀{s U:S},hJ C s b i g k c=.ok U->∃el y d,s.h.get b=some (.vec el y)/\U=⟨s.h.set b (.vec el d),s.next,s.pc⟩/\∀s2 a,s2.h.get b=some (.vec el y)->hJ C s2 b i g k c=.ok a->a=⟨s2.h.set b (.vec el d),s2.next,s2.pc⟩:=by
  intro s U h;unfold hJ at h;cases l:s.h.get b with
  |none=>rw[l]at h;cases h
  |some m=>
   rw[l]at h;cases m<;>first|(cases h;done)|skip
   rename_i el y;simp only at h;cases e:T2 (mv y []).1 with
   |none=>rw[e]at h;cases h
   |some p=>
    rw[e]at h;simp only at h;cases f:((Nat.beq p.1 g&&b5 p.2 i)&&(Nat.beq g (aq C el).length&&(!Nat.beq g 0&&(Nat.ble (Nat.add k c.length) (mv y []).2.length&&kJ c))))with
    |false=>rw[f]at h;cases h
    |true=>
     rw[f]at h;simp only at h;cases j:nN C (aq C el) ((nr (aq C el) (mv y []).2 (aq C el)).take k++c++(nr (aq C el) (mv y []).2 (aq C el)).drop (Nat.add k c.length)) (aq C el) (mv y []).1 with
     |none=>rw[j]at h;cases h
     |some d=>rw[j]at h;injection h with h;refine⟨el,y,d,rfl,h.symm,λs2 a g2 I=>?_⟩;unfold hJ at I;rw[g2]at I;simp only[e,f,j]at I;injection I with I;exact I.symm
 intro s U h;obtain⟨el,y,d,g1,rfl,g2⟩:=key h;refine .inr ⟨_,.vec el d,g1,⟨rfl,rfl⟩,λid=>?_,λs2 a W D=>?_⟩
 .grind[Tr.bm,zG]
 .grind[Tr.bm,zG]
theorem Wn{ex i:S->R S}{s e j f s4:S}{d a:Nat}{t u:List Nat}(Y:Dn d ex)(C:Dn a i)(g:d≠a)(k:E6 s d=.ok t)(l:E6 s a=.ok u)(A:pz a t=false)(I:pz d u=false)
  (e1:ex s=.ok e) (e2:i e=.ok j) (e3:i s=.ok f) (c:ex f=.ok s4):Ik s4 j:=by
 rcases Y s e e1 with b|⟨m,D,v,w,x,rx⟩
 .rw[b s]at e1;injection e1 with e1;subst e1
  rw[b f]at c;injection c with c;subst c
  rw[e2]at e3;injection e3 with e3;subst e3
  exact⟨⟨rfl,rfl⟩,λ_=>rfl⟩
 .rcases C s f e3 with b|⟨n,E,y,z,py,F⟩
  .rw[b s]at e3;injection e3 with e3;subst e3
   rw[b e]at e2;injection e2 with e2;subst e2
   rw[e1]at c;injection c with c;subst c
   exact⟨⟨rfl,rfl⟩,λ_=>rfl⟩
  .have o:a ∉ zG m:=by rw[Df k m v];exact yk A
   have p:d ∉ zG n:=by rw[Df l n y];exact yk I
   have q:e.h.get a=some n:=by rw[x,ai (cm g),ai o];exact y
   have r:f.h.get d=some m:=by rw[py,ai g,ai p];exact v
   obtain⟨B,G⟩:=F e j q e2;obtain⟨n4,H⟩:=rx f s4 r c;refine⟨⟨by rw[n4.1,z.1,B.1,w.1],by rw[n4.2,z.2,B.2,w.2]⟩,λid=>?_⟩;rw[H,py,G,x];by_cases i1:id=d
   .grind
   .grind
theorem R.nk {α j:Type} {Q:j->Prop} {f:α->R j}:∀{r:R α},(r.bind f).path Q->r.path (λa=>(f a).path Q)
 | .ok _,h=>h
 | .bad _,_=>trivial
 | .ask _ _,⟨i,V,h⟩=>⟨i,V,R.nk h⟩
 | .must _ _,h=>h.imp id λh=>R.nk h
theorem R.bind_mono {α j:Type} {Q:j->Prop} {f g:α->R j} {r:R α} (h:∀a,(f a).path Q->(g a).path Q) (b:(r.bind f).path Q):(r.bind g).path Q:=
 R.nX (R.aE h (R.nk b))
def Dm(Q:RG->Prop)(K a:RK):Prop:=∀t ds ctx s,(K t ds ctx s).path Q->(a t ds ctx s).path Q
theorem Jk{C:Ctx}{rec:Rec}{fi:FI}{ops:Array Oper}{Q:RG->Prop}{K g:RK}(h:Dm Q K g)(o:Oper):Dm Q (qG C rec fi ops K o) (qG C rec fi ops g o):=by
 intro t ds ctx s j;have e:∀K,qG C rec fi ops K o t ds ctx s=(fx ops o.guard t s).bind λr=>v7 C rec fi fi.nt K o.dst o.op o.type t ds ctx r.2 r.1:=by intro K;cases o;rfl
 rw[e]at j ⊢;refine R.bind_mono (λb k=>?_) j;obtain⟨b,s1⟩:=b;cases b with
 |false=>exact h _ _ _ _ k
 |true=>
  show(yI C rec fi fi.nt g o.dst o.op o.type t ds ctx s1).path Q;have a:(yI C rec fi fi.nt K o.dst o.op o.type t ds ctx s1).path Q:=k;unfold yI at a ⊢;have back:∀out,(E2 fi.nt o.dst K t ds ctx out).path Q->(E2 fi.nt o.dst g t ds ctx out).path Q:=by
   intro out ho;obtain⟨res,m,os⟩:=out;cases res with
   |ret v=>exact h _ _ _ _ ho
   |eH ch=>exact ho
  cases n:mS o.op with
  |some c=>rw[n]at a;refine R.bind_mono (λx Y=>?_) a;exact R.bind_mono (λr i=>h _ _ _ _ i) Y
  |none=>
   rw[n]at a;refine R.bind_mono (λx Y=>?_) a;cases x with
   |val v U=>exact h _ _ _ _ Y
   |skip U=>exact h _ _ _ _ Y
   |enter f args U=>exact R.bind_mono back Y
   |round l args U=>exact R.bind_mono back Y
   |defer d U=>trivial
   |recover U=>exact R.bind_mono (λr i=>h _ _ _ _ i) Y
   |eH v U=>exact Y
theorem R0{Q:RG->Prop}{nt:Nat}{d:Option Tmp}{K b:RK}(h:Dm Q K b):Dm Q (R1 nt d K) (R1 nt d b):=by
 intro t ds ctx s a;unfold R1 at a ⊢;cases c:J9 nt d t with
 |none=>rw[c]at a;exact h _ _ _ _ a
 |some e=>rw[c]at a;exact R.bind_mono (λr f=>h _ _ _ _ f) a
theorem Gd{C:Ctx}{rec:Rec}{fi:FI}{ops:Array Oper}{Q:RG->Prop}{K a:RK}(h:Dm Q K a)(o:Oper):Dm Q (h8 C rec fi ops K o) (h8 C rec fi ops a o):=Jk (R0 h) o
def a1Q(Q:RG->Prop)(K a:DK):Prop:=∀pe,Dm Q (K pe) (a pe)
theorem uR{C:Ctx}{rec:Rec}{fi:FI}{ops:Array Oper}{Q:RG->Prop}{K d:DK}(h:a1Q Q K d):∀l:List PS,a1Q Q (h1 C rec fi ops K l) (h1 C rec fi ops d l)
 | []=>h
 |x::l=>by
  have c:=uR (C:=C) (rec:=rec) (fi:=fi) (ops:=ops) h l;intro pe t ds ctx s e;cases x with
  |act i o=>exact Gd (c pe) o t ds ctx s e
  |ev i o=>show((R.xJ (P9 ops o C t s)).bind λv=>h1 C rec fi ops d l pe (put fi.nt t o.dst v) ds ctx s).path Q;exact R.bind_mono (f:=λv=>h1 C rec fi ops K l pe (put fi.nt t o.dst v) ds ctx s) (λv g=>c pe _ _ _ _ g) e
  |re i o=>
   show((R.xJ (P9 ops o C t s)).bind λv=>@Bool.rec (λ_=>R RG) (.bad "float: another value") (h1 C rec fi ops d l pe t ds ctx s) (h3 fi.nt t o.dst v)).path Q;refine R.bind_mono (f:=λv=>@Bool.rec (λ_=>R RG) (.bad "float: another value") (h1 C rec fi ops K l pe t ds ctx s) (h3 fi.nt t o.dst v)) (λv g=>?_) e;cases m:h3 fi.nt t o.dst v with
   |false=>trivial
   |true=>simp only[m]at g;exact c pe _ _ _ _ g
  |al i o=>
   show((R.xJ (c8 ops o.guard t)).bind (AL o i fi.nt (h1 C rec fi ops d l) C pe t ds ctx s)).path Q;refine R.bind_mono (f:=AL o i fi.nt (h1 C rec fi ops K l) C pe t ds ctx s) (λb j=>?_) e;cases b with
   |false=>exact c pe _ _ _ _ j
   |true=>exact R.bind_mono (λr n=>c _ _ _ _ _ n) j
  |on i=>
   show(dOn i (h1 C rec fi ops d l) pe t ds ctx s).path Q;have a:(dOn i (h1 C rec fi ops K l) pe t ds ctx s).path Q:=e;unfold dOn at a ⊢;cases k:cK i pe with
   |none=>rw[k]at a;exact c pe _ _ _ _ a
   |some q=>rw[k]at a;exact c pe _ _ _ _ a
theorem pD{C:Ctx}{rec:Rec}{fi:FI}{ops:Array Oper}{K:DK}(m:List PS):∀l:List PS,h1 C rec fi ops K (l++m)=h1 C rec fi ops (h1 C rec fi ops K m) l
 | []=>rfl
 |x::l=>by
  show Wx C rec fi ops x (h1 C rec fi ops K (l++m))=Wx C rec fi ops x (h1 C rec fi ops (h1 C rec fi ops K m) l);rw[pD m l]
theorem iG(ops:List Oper)(q:List PI):∀p:List PI,link ops (p++q)=link ops p++link ops q
 | []=>rfl
 |x::p=>by
  show(match h9 ops x with|some y=>y::link ops (p++q)|none=>link ops (p++q))=(match h9 ops x with|some y=>y::link ops p|none=>link ops p)++link ops q;rw[iG ops q p];cases h9 ops x<;>rfl
section
variable{C:Ctx}{rec:Rec}{fi:FI}{ops:Array Oper}{t:Tr AV}{ds:List gO}{ctx:Option (List PE)}{s U:S}{o:Oper}
theorem R.mn {α:Type} {r:R α} {a:α} (h:R.xJ r=.ok a):r=.ok a:=by
 cases r with
 |ok b=>exact h
 |bad w=>cases h
 |ask n k=>cases h
 |must pc k=>cases h
theorem R.jD {α j:Type} {r:R α} {f:α->R j} {b:j} (h:(r>>=f)=.ok b):∃a,r=.ok a/\f a=.ok b:=by
 cases r with
 |ok a=>exact⟨a,rfl,h⟩
 |bad w=>cases h
 |ask n k=>cases h
 |must pc k=>cases h
theorem Mj{ops:Array Oper}{g:Option (Nat×Bool)}{t:Tr AV}{b:Bool}(h:c8 ops g t=.ok b):qS ops g t=none:=by
 unfold qS;cases g with
 |none=>rfl
 |some p=>
  obtain⟨i,w⟩:=p;have a:(@Option.rec Tmp (λ_=>R Bool) (.ok false) (λd=>@Option.rec AV (λ_=>R Bool) (.ok false) (V1 w) (t.get d)) (oh ops i))=.ok b:=h;simp only;cases c:oh ops i with
  |none=>rfl
  |some d=>
   rw[c]at a;simp only at a ⊢;cases e:t.get d with
   |none=>rfl
   |some v=>
    rw[e]at a;cases v<;>first|rfl|skip
    cases a
theorem la(h:fy ops o C t s=.ok U):o.dst=none/\c8 ops o.guard t=.ok true/\(∃ty a x,o.op=.store ty a x)/\nA o.op o.type C t s=.ok (.skip U)/\
  ∀b,vN o C t=.ok b->Dn b (λs2=>fy ops o C t s2):=by
 unfold fy at h;cases y:o.dst with
 |some d=>rw[y]at h;cases h
 |none=>
  rw[y]at h;simp only at h;obtain⟨b,E,h⟩:=R.jD h;have r:=R.mn E;cases b with
  |false=>cases h
  |true=>
   simp only at h;cases l:o.op with
   |store ty a x=>
    rw[l]at h;simp only at h;obtain⟨p,z,h⟩:=R.jD h;obtain⟨v,B,h⟩:=R.jD h;refine⟨rfl,r,⟨ty,a,x,rfl⟩,?_,?_⟩
    .show o6 ty a x o.type C t s=_;unfold o6;rw[z,B];show(storeAt C s ty p v>>=λU=>R.ok (Nx.skip U))=_;rw[h];rfl
    .intro D f;unfold vN at f;rw[l]at f;simp only at f;obtain⟨p',m,f⟩:=R.jD f;rw[z]at m;injection m with m;subst m
     have A:∀s2,fy ops o C t s2=storeAt C s2 ty p v:=by intro s2;unfold fy;rw[y];simp only[r,l];show(do let p <-kW C t a;let v <-kW C t x;storeAt C s2 ty p v)=_;rw[z,B];rfl
     have gen:∀(j:S->List AV->R S),(∀c,Dn D λs2=>j s2 c)->(∀s2,storeAt C s2 ty p v=(do
       let i <-ti C ty
       let c <-v.cells
       match Nat.beq c.length i.size with
       |true=>j s2 c
       |false=>R.bad "store: size"))->Dn D (λs2=>fy ops o C t s2):=by
      intro j u w;have n:=h;rw[w s]at n;obtain⟨i,V,n⟩:=R.jD n;obtain⟨c,F,n⟩:=R.jD n;have e:(λs2=>fy ops o C t s2)=λs2=>j s2 c:=by
       funext s2;rw[A s2,w s2,V,F];show(match Nat.beq c.length i.size with|true=>j s2 c|false=>R.bad "store: size")=_;cases G:Nat.beq c.length i.size with
       |false=>rw[G]at n;cases n
       |true=>rfl
      rw[e];exact u c
     cases p with
     |ptr b off=>simp only at f;injection f with f;subst f;exact gen (λs2 c=>gQ s2 b off c) (λc=>a3v b off c) λs2=>rfl
     |gS b k g q=>simp only at f;injection f with f;subst f;exact gen (λs2 c=>hJ C s2 b k g q c) (λc=>ZP C b k g q c) λs2=>rfl
     |_=>cases f
   |_=>rw[l]at h;cases h
theorem Gc(h:fy ops o C t s=.ok U)(K:RK):qG C rec fi ops K o t ds ctx s=K t ds ctx U:=by
 obtain⟨A,I,⟨ty,a,x,b⟩,W,_⟩:=la h;have e:qG C rec fi ops K o t ds ctx s=(fx ops o.guard t s).bind λr=>v7 C rec fi fi.nt K o.dst o.op o.type t ds ctx r.2 r.1:=by cases o;rfl
 have e2:fx ops o.guard t s=.ok (true,s):=by unfold fx;rw[Mj I,I];rfl
 rw[e,e2];show yI C rec fi fi.nt K o.dst o.op o.type t ds ctx s=_;unfold yI;have c:mS o.op=none:=by rw[b];rfl
 rw[c];show(nA o.op o.type C t s).bind _=_;rw[W];show K (put fi.nt t o.dst gu) ds ctx U=_;rw[A];rfl
theorem sY(h:fy ops o C t s=.ok U)(K:RK):h8 C rec fi ops K o t ds ctx s=K t ds ctx U:=by unfold h8;rw[Gc h];obtain⟨A, -⟩:=la h;unfold R1;rw[A];rfl
theorem I6{x y:Nat}{c d:Oper}{ra:List Nat}{a b:S}(Y:ops[x]? =some c)(g:ops[y]? =some d)(A:fy ops c C t s=.ok a)(I:BG ops fi.nt C t a ra=.ok ())(W:fy ops d C t a=.ok b)(pe:pP):
  kh C rec fi ops (link ops.toList (iX x y ra)) pe t ds ctx s=.ok (.fin t ds ctx b):=by
 unfold iX;rw[Cl Y];show h8 C rec fi ops (kh C rec fi ops (link ops.toList (ra.map PI.re++[.act y])) pe) c t ds ctx s=_;rw[sY A];clear A;induction ra with
 |nil=>show kh C rec fi ops (link ops.toList [.act y]) pe t ds ctx a=_;rw[Cl g];show h8 C rec fi ops (kh C rec fi ops (link ops.toList []) pe) d t ds ctx a=_;rw[sY W];rfl
 |cons i l h=>
  unfold BG at I;cases ho:nth ops.toList i with
  |none=>rw[ho]at I;cases I
  |some o=>
   rw[ho]at I;simp only at I;obtain⟨v,j,I⟩:=R.jD I;have e:ops[i]? =some o:=by rw[<-o7];exact ho
   cases f:h3 fi.nt t o.dst v with
   |false=>rw[f]at I;cases I
   |true=>rw[f]at I;show kh C rec fi ops (link ops.toList (.re i::(l.map PI.re++[.act y]))) pe t ds ctx a=_;rw[Pq e];show(R.xJ (P9 ops o C t a)).bind (λv=>@Bool.rec (λ_=>R RG) (.bad "float: another value") (kh C rec fi ops (link ops.toList (l.map PI.re++[.act y])) pe t ds ctx a) (h3 fi.nt t o.dst v))=_;rw[j];show@Bool.rec (λ_=>R RG) (.bad "float: another value") (kh C rec fi ops (link ops.toList (l.map PI.re++[.act y])) pe t ds ctx a) (h3 fi.nt t o.dst v)=_;rw[f];exact h I
theorem Qg{k l:Oper}{ra rb:List Nat}{pe:pP}{r:RG}(h:DP C fi ops k l ra rb pe t ds ctx s=.ok r):
  ∃f b i c,r=.fin t ds ctx b/\fy ops k C t s=.ok f/\BG ops fi.nt C t f ra=.ok ()/\fy ops l C t f=.ok b/\
   fy ops l C t s=.ok i/\BG ops fi.nt C t i rb=.ok ()/\fy ops k C t i=.ok c/\Ik c b:=by
 unfold DP at h;obtain⟨d,A,h⟩:=R.jD h;obtain⟨a,I,h⟩:=R.jD h;obtain⟨u,W,h⟩:=R.jD h;obtain⟨v,D,h⟩:=R.jD h;obtain⟨_,h5,h⟩:=R.jD h;obtain⟨f,h6,h⟩:=R.jD h;obtain⟨_,h7,h⟩:=R.jD h;obtain⟨b,x,h⟩:=R.jD h;obtain⟨i,y,h⟩:=R.jD h;obtain⟨_,m,h⟩:=R.jD h;obtain⟨c,n,h⟩:=R.jD h;injection h with h;have g:(!Nat.beq d a && !pz a u && !pz d v)=true:=by
  cases z:(!Nat.beq d a && !pz a u && !pz d v)with
  |true=>rfl
  |false=>rw[z]at h5;cases h5
 simp only[aw,fY]at g;obtain⟨⟨g1,g2⟩,g3⟩:=g;have o:d≠a:=λe=>by subst e;rw[rK]at g1;cases g1
 have p:=R.mn h6;have w:=R.mn x;have q:=R.mn y;have j:=R.mn n;refine⟨f,b,i,c,h.symm,p,R.mn h7,w,q,R.mn m,j,?_⟩;exact Wn ((la p).2.2.2.2 d (R.mn A)) ((la q).2.2.2.2 a (R.mn I)) o (R.mn W) (R.mn D) g2 g3 p w q j
end
end Go.Proofs.YtokipodjggomfaaGreatDoor.Abs
namespace Go.Proofs.YtokipodjggomfaaGreatDoor.Abs
open Go
def Bef(x y:Nat):List Nat->Prop
 | []=>True
 |i::L=>i=x\/(i≠y/\Bef x y L)
theorem EZ{x y:Nat}:∀L:List Nat,Bef x y L\/Bef y x L
 | []=>.inl trivial
 |i::L=>by
  by_cases A:i=x
  .exact .inl (.inl A)
  .by_cases I:i=y
   .exact .inr (.inl I)
   .rcases EZ (x:=x) (y:=y) L with h|h
    .exact .inl (.inr ⟨I,h⟩)
    .exact .inr (.inr ⟨A,h⟩)
theorem nD(y m:Nat):∀(all:List PO)(i:Nat),cE (fV y m all) i=(cE all i).map λp=>match Nat.beq p.i y with|true=>⟨p.i,Nat.lor p.before m,p.look,p.dst,p.kind⟩|false=>p
 | [],i=>by simp[fV,cE]
 |x::l,0=>rfl
 |x::l,i+1=>by
  show cE (fV y m l) i=_;rw[nD y m l i];rfl
theorem xE{ops:Array Oper}{all:List PO}(h:jw ops all)(y m:Nat):jw ops (fV y m all):=by intro i p a;rw[nD]at a;simp only[aN]at a;obtain⟨q,b,rfl⟩:=a;obtain⟨o,A,I,W,D,h5⟩:=h i q b;refine⟨o,A,?_⟩;split<;>exact⟨I,W,D,h5⟩
theorem BB{ops:Array Oper}{all:List PO}(b:jw ops all){n x y:Nat}(d:x≠y){f:PO}(Y:cE all x=some f):
  ∀(L Ld:List Nat),K8 n all Ld L->((x∈Ld/\∀k,has f.before k=true->k∈Ld)\/Bef x y L)->K8 n (fV y (Nat.lor (bit x) f.before) all) Ld L
 | [],Ld,h,_=>h
 |i::L,Ld,⟨A,I,W,D⟩,a=>by
  refine⟨A,I,?_,BB b d Y L (i::Ld) D ?_⟩
  .intro p g k Z;rw[nD]at g;simp only[aN]at g;obtain⟨q,j,rfl⟩:=g;obtain⟨o,_,l,_⟩:=b i q j;cases c:Nat.beq q.i y with
   |false=>rw[c]at Z;exact W q j k Z
   |true=>
    rw[c]at Z;have e:i=y:=by rw[<-l];exact aL c
    simp only[eR,fW]at Z;have m:x∈Ld/\∀k,has f.before k=true->k∈Ld:=by
     rcases a with a|a
     .exact a
     .rcases a with a|⟨a,_⟩
      .exact absurd (a.symm.trans e) d
      .exact absurd e a
    rcases Z with Z|Z|Z
    .exact W q j k Z
    .grind[ia]
    .exact m.2 k Z
  .rcases a with⟨g1,g2⟩|a
   .grind
   .rcases a with a|⟨_,a⟩
    .grind
    .exact .inr a
theorem x9{all:List PO}{n:Nat}{p:List PI}(h:GR all n p=true):bb all n p ⟨0,0,0,0,0,0,0,0,[]⟩=true:=h
theorem CV{C:Ctx}{fi:FI}{ops:Array Oper}{d e:Oper}{ra rb:List Nat}{pe:pP}{t:Tr AV}{ds:List gO}{ctx:Option (List PE)}{s:S}{n:Nat}{k:Nat->R RG}(h:DP C fi ops d e ra rb pe t ds ctx s=.ask n k):False:=by
 have key:∀{α j:Type}{r:R α}{f:α->R j}{n:Nat}{k:Nat->R j},(R.xJ r>>=f)=.ask n k->∃a,f a=.ask n k:=by
  intro α j r f n k h;cases r with
  |ok a=>exact⟨a,h⟩
  |bad w=>cases h
  |ask m g=>cases h
  |must pc g=>cases h
 have c:∀{j:Type}{b:Bool}{m:String}{f:Unit->R j}{n:Nat}{k:Nat->R j},(bD b m>>=f)=.ask n k->∃a,f a=.ask n k:=by
  intro j b m f n k h;cases b with
  |true=>exact⟨(),h⟩
  |false=>cases h
 unfold DP at h;obtain⟨_,h⟩:=key h;obtain⟨_,h⟩:=key h;obtain⟨_,h⟩:=key h;obtain⟨_,h⟩:=key h;obtain⟨_,h⟩:=c h;obtain⟨_,h⟩:=key h;obtain⟨_,h⟩:=key h;obtain⟨_,h⟩:=key h;obtain⟨_,h⟩:=key h;obtain⟨_,h⟩:=key h;obtain⟨_,h⟩:=key h;cases h
theorem zd{C:Ctx}{fi:FI}{ops:Array Oper}{d e:Oper}{ra rb:List Nat}{pe:pP}{t:Tr AV}{ds:List gO}{ctx:Option (List PE)}{s:S}{pc:List Fact}{k:R RG}(h:DP C fi ops d e ra rb pe t ds ctx s=.must pc k):False:=by
 have key:∀{α j:Type}{r:R α}{f:α->R j}{pc:List Fact}{k:R j},(R.xJ r>>=f)=.must pc k->∃a,f a=.must pc k:=by
  intro α j r f pc k h;cases r with
  |ok a=>exact⟨a,h⟩
  |bad w=>cases h
  |ask m g=>cases h
  |must Gv g=>cases h
 have c:∀{j:Type}{b:Bool}{m:String}{f:Unit->R j}{pc:List Fact}{k:R j},(bD b m>>=f)=.must pc k->∃a,f a=.must pc k:=by
  intro j b m f pc k h;cases b with
  |true=>exact⟨(),h⟩
  |false=>cases h
 unfold DP at h;obtain⟨_,h⟩:=key h;obtain⟨_,h⟩:=key h;obtain⟨_,h⟩:=key h;obtain⟨_,h⟩:=key h;obtain⟨_,h⟩:=c h;obtain⟨_,h⟩:=key h;obtain⟨_,h⟩:=key h;obtain⟨_,h⟩:=key h;obtain⟨_,h⟩:=key h;obtain⟨_,h⟩:=key h;obtain⟨_,h⟩:=key h;cases h
theorem ml{C:Ctx}{base:Nat}{E B:G}{s U:S}{w M:World}(a:Step C base E s w B U M)(c:U.next=s.next):∀(e:SE)(d:Dt),aj B e=some d->aj E e=some d
 | .var i,d,h=>by
   simp only[aj,bW]at h ⊢;obtain⟨O,b,f⟩:=h;have k:i<s.next:=by
    rcases cV i s.next with h|h
    .exact h
    .rw[a.rel.new i (by omega)]at b;cases b
   rcases a.MT i O b with⟨l,j⟩|⟨A,_⟩
   .obtain⟨p,I,m⟩:=a.grow i l j;rw[b]at I;obtain rfl:=ae I;exact⟨l,j,by rw[<-(j3 m.2.2).2];exact f⟩
   .omega
 | .int _ _,d,h| .bool _,d,h| .str _,d,h=>h
 | .a1 o x,d,h=>by
   simp only[aj,bW]at h ⊢;obtain⟨u,g,h⟩:=h;exact⟨u,ml a c x u g,h⟩
 | .a2 o x y,d,h=>by
   simp only[aj,bW]at h ⊢;obtain⟨u,g,v,f,h⟩:=h;exact⟨u,ml a c x u g,v,ml a c y v f,h⟩
 | .a3 o x y z,d,h=>by
   simp only[aj,bW]at h ⊢;obtain⟨u,g,v,f,q,n,h⟩:=h;exact⟨u,ml a c x u g,v,ml a c y v f,q,ml a c z q n,h⟩
theorem CS{C:Ctx}{base:Nat}(i:Good C){ops:Array Oper}{nt:Nat}{e:SE}:∀(l:List Oper){E:G}{s:S}{w:World}{t:Tr AV}{tm:Array Value},Rel C base E s w->aD E nt t tm->Sx C ops nt l t s=some e->∃b,aj E e=some (.val (.bool b))
 | [],E,s,w,t,tm,_,_,h=>by cases h
 |o::l,E,s,w,t,tm,r,f,h=>by
  unfold Sx at h;cases j:qS ops o.guard t with
  |some p=>obtain⟨x,want⟩:=p;rw[j]at h;obtain rfl:=ae h;exact L8 f ops o j
  |none=>
   rw[j]at h;simp only at h;cases g:c8 ops o.guard t with
   |bad m=>rw[g]at h;cases h
   |ask n k=>rw[g]at h;cases h
   |must pc k=>rw[g]at h;cases h
   |ok b=>
    rw[g]at h;cases b with
    |false=>exact CS i l r (f.put o.dst gI) h
    |true=>
     simp only at h;cases ho:nA o.op o.type C t s with
     |bad m=>rw[ho]at h;cases h
     |ask n k=>rw[ho]at h;cases h
     |must pc k=>rw[ho]at h;cases h
     |ok x=>
      rw[ho]at h;cases x<;>first|(cases h;done)|skip
      rename_i v U;simp only at h;cases q:Nat.beq U.next s.next with
      |false=>rw[q]at h;cases h
      |true=>rw[q]at h;have u:=x2 i r (a:=⟨tm,[]⟩) f o;rw[ho]at u;obtain⟨B,c,M,z,y,d⟩:=u;obtain⟨b,A⟩:=CS i l d.rel ((f.grow d.grow).put o.dst y) h;exact⟨b,ml d (aL q) e _ A⟩
theorem Wu(C:Ctx)(base:Nat)(hC:Good C)(hM:C.P.follows .mixedOrders=true){rec:Rec}(p:ep C base rec){E:G}{s:S}{w:World}{fi:FI}{ro:Option Nat}{t:Tr AV}{tm:Array Value}{k:List Item}{ds:List gO}{bz:List Deferred}{ctx:Option (List PE)}{cs:List Frame}(id:Nat)(ops:Array Oper)
  (hR:Rel C base E s w) (ht:aD E fi.nt t tm) (T:mX E fi.roundOf ro) (V:cN fi.tl E ds=some bz) (j:eu E fi.kind ctx cs):
  (Wy C rec fi ops (qK ops.toList) t ds ctx s).path (mY C base E s w fi ro k cs (lone (aC fi ro tm (.code (.region id ops true)::k) bz .run) cs w)):=by
 show(@Bool.rec (λ_=>R RG) (.bad "no plan") (dGo C rec fi ops (qK ops.toList) t ds ctx s) (BK ops.toList (qK ops.toList))).path _;cases J:BK ops.toList (qK ops.toList)with
 |false=>trivial
 |true=>
  show(dGo C rec fi ops (qK ops.toList) t ds ctx s).path _;unfold BK at J;simp only[aw]at J;obtain⟨hb,J⟩:=J;have F:=Step.drawn hR (w.drawn+1);have hL:=DA hb (w.tape w.drawn (.order fi.fn id));have hs:=Bk (P:=C.P) (fi:=fi) (ro:=ro) (tm:=tm) (k:=k) (ds:=bz) (cs:=cs) (w:=w) (ops:=ops) (id:=id);rw[hM]at hs;have L:ops.toList.length=ops.size:=by simp
  have fin:∀(lp:List PS)(r:R RG)(all:List PO),r.path (QD ⟨C,base,fi,ops,all,lp,ro,k,E,s,{ w with drawn:=w.drawn+1 },cs,
     lone (aC fi ro tm (.inRegion ops (Region.schedule true ops (w.tape w.drawn (.order fi.fn id)))::k) bz .run) cs { w with drawn:=w.drawn+1 }⟩)->
    (r.bind (Wz fi.nt lp)).path (mY C base E s w fi ro k cs (lone (aC fi ro tm (.code (.region id ops true)::k) bz .run) cs w)):=by
   intro lp r all W;refine R.pb _ W λx Y=>?_
   refine R.aE (λz N=>?_) (Rz Y);exact N.of_steps F (.one hs) (bN.refl j)
  cases hpl:qK ops.toList with
  |one plan=>rw[hpl]at J;have hok:=x9 J;rw[L]at hok;exact fin _ _ _ (xZ (k:=k) (ro:=ro) hC p F.rel ht T V j (jN ops) hok hL (link ops.toList plan) (λ_ h=>h))
  |two pre x y ra rb=>
   rw[hpl]at J;have f:Vi (ei ops.toList) ops.toList.length x y ra rb pre=true:=J;unfold Vi at f;cases Y:cE (ei ops.toList) x with
   |none=>rw[Y]at f;cases f
   |some px=>
    cases hy:cE (ei ops.toList) y with
    |none=>rw[Y,hy]at f;cases f
    |some py=>
     rw[Y,hy,L]at f;simp only[aw,fY]at f;obtain⟨⟨Hv,hA⟩,hB⟩:=f;have O:x≠y:=λe=>by subst e;rw[rK]at Hv;cases Hv
     obtain⟨ox,X,_⟩:=jN ops x px Y;obtain⟨oy,Z,_⟩:=jN ops y py hy;show(match nth ops.toList x,nth ops.toList y with
      |some ox,some oy=>(h1 C rec fi ops (DP C fi ops ox oy ra rb) (link ops.toList pre) [] t ds ctx s).bind (Wz fi.nt (link ops.toList pre))
      |_,_=>R.bad "no plan: two").path _
     rw[o7,o7,X,Z];simp only;have A:∀(u v:Nat)(rr:List Nat)(B:Tr AV),eJ fi.nt B (link ops.toList (pre++iX u v rr))=eJ fi.nt B (link ops.toList pre):=by
      intro u v rr B;rw[iG];have a6a:∀q∈link ops.toList (iX u v rr),(∀i o,q≠.ev i o)/\∀i o,q≠.al i o:=by
       have hl:∀(l:List PI),(∀z∈l,(∃a,z=.act a)\/∃a,z=.re a)->∀q∈link ops.toList l,(∀i o,q≠.ev i o)/\∀i o,q≠.al i o:=by
        intro l;induction l with
        |nil=>intro _ q H;cases H
        |cons z l ih=>
         intro N q H;have g:q∈(match h9 ops.toList z with|some w=>w::link ops.toList l|none=>link ops.toList l):=H;have I:=ih (λz' hz'=>N z' (bk _ hz'));cases hlo:h9 ops.toList z with
         |none=>rw[hlo]at g;exact I q g
         |some M=>
          rw[hlo]at g;rcases bQ.1 g with rfl|g
          .rcases N z (by simp)with⟨a,rfl⟩|⟨a,rfl⟩
           .grind[h9,Option.map_eq_some_iff]
           .grind[h9,Option.map_eq_some_iff]
          .exact I q g
       refine hl _ ?_;intro z N;unfold iX at N;rcases bQ.1 N with rfl|N
       .exact .inl ⟨_,rfl⟩
       .grind
      have a7W:∀l:List PS,(∀q∈l,(∀i o,q≠.ev i o)/\∀i o,q≠.al i o)->eJ fi.nt B l=B:=by
       intro l;induction l with
       |nil=>intro _;rfl
       |cons q l ih=>
        intro h;have I:=ih (λq' g=>h q' (bk _ g));cases q with
        |ev i o=>exact absurd rfl ((h _ (by simp)).1 i o)
        |al i o=>exact absurd rfl ((h _ (by simp)).2 i o)
        |_=>exact I
      have a8h:∀l:List PS,eJ fi.nt B (l++link ops.toList (iX u v rr))=eJ fi.nt B l:=by
       intro l;induction l with
       |nil=>exact a7W _ a6a
       |cons q l ih=>
        cases q with
        |ev i o=>show put fi.nt (eJ fi.nt B (l++_)) o.dst .junk=put fi.nt (eJ fi.nt B l) o.dst .junk;rw[ih]
        |al i o=>show put fi.nt (eJ fi.nt B (l++_)) o.dst .junk=put fi.nt (eJ fi.nt B l) o.dst .junk;rw[ih]
        |_=>exact ih
      exact a8h _
     refine fin (link ops.toList pre) _ (ei ops.toList) ?_;rcases EZ (x:=x) (y:=y) (Region.schedule true ops (w.tape w.drawn (.order fi.fn id)))with hbf|hbf
     .have hLA:=BB (jN ops) O Y _ [] hL (.inr hbf);have b:=xZ (k:=k) (ro:=ro) hC p F.rel ht T V j (xE (jN ops) _ _) (x9 hA) hLA (link ops.toList (pre++iX x y ra)) (λ_ h=>h);rw[iG]at b;unfold kh at b;rw[pD]at b;refine uR (K:=h1 C rec fi ops a3A (link ops.toList (iX x y ra))) ?_ (link ops.toList pre) [] t ds ctx s (R.aE ?_ b)
      .intro pe Q d c U H;cases hd:DP C fi ops ox oy ra rb pe Q d c U with
       |bad m=>trivial
       |ask n kk=>exfalso;exact CV hd
       |must pc kk=>exfalso;exact zd hd
       |ok r=>obtain⟨sx,sxy,sy,syx,rfl,e1,e2,e3,_⟩:=Qg hd;have:=I6 (rec:=rec) (ds:=d) (ctx:=c) X Z e1 e2 e3 pe;unfold kh at this;rw[this]at H;exact H
      .intro r W;cases r with
       |fin Q d c U=>exact W
       |eH ch Q d c U=>have D:mY C base E s { w with drawn:=w.drawn+1 } fi ro k cs _ (.eH ch (eJ fi.nt Q (link ops.toList pre++link ops.toList (iX x y ra))) d c U):=W;rw[<-iG,A]at D;exact D
     .have hLB:=BB (jN ops) (cm O) hy _ [] hL (.inr hbf);have b:=xZ (k:=k) (ro:=ro) hC p F.rel ht T V j (xE (jN ops) _ _) (x9 hB) hLB (link ops.toList (pre++iX y x rb)) (λ_ h=>h);rw[iG]at b;unfold kh at b;rw[pD]at b;refine uR (K:=h1 C rec fi ops a3A (link ops.toList (iX y x rb))) ?_ (link ops.toList pre) [] t ds ctx s (R.aE ?_ b)
      .intro pe Q d c U H;cases hd:DP C fi ops ox oy ra rb pe Q d c U with
       |bad m=>trivial
       |ask n kk=>exfalso;exact CV hd
       |must pc kk=>exfalso;exact zd hd
       |ok r=>obtain⟨sx,sxy,sy,syx,rfl,_,_,_,e1,e2,e3,a6c⟩:=Qg hd;have:=I6 (rec:=rec) (ds:=d) (ctx:=c) Z X e1 e2 e3 pe;unfold kh at this;rw[this]at H;exact QD.same a6c H
      .intro r W;cases r with
       |fin Q d c U=>exact W
       |eH ch Q d c U=>have D:mY C base E s { w with drawn:=w.drawn+1 } fi ro k cs _ (.eH ch (eJ fi.nt Q (link ops.toList pre++link ops.toList (iX y x rb))) d c U):=W;rw[<-iG,A]at D;exact D
theorem drawn(C:Ctx)(base:Nat)(h:Good C)(j:C.P.follows .mixedOrders=true):QY C base:=by
 intro rec c E s w fi ro t tm k ds bz ctx cs id ops d i f g a;show(Kz C rec fi ops 6 t ds ctx s).path _
 suffices H:∀(n:Nat)(s:S),Rel C base E s w->(Kz C rec fi ops n t ds ctx s).path (mY C base E s w fi ro k cs (lone (aC fi ro tm (.code (.region id ops true)::k) bz .run) cs w))from H 6 s d
 intro n;induction n with
 |zero=>intro s d;exact Wu C base h j c id ops d i f g a
 |succ n m=>
  intro s d;unfold Kz;cases o:Sx C ops fi.nt ops.toList t s with
  |none=>exact Wu C base h j c id ops d i f g a
  |some e=>
   obtain⟨b,p⟩:=CS h _ d i o;refine R.pb _ (o0 d p) λr l=>?_
   exact R.aE (λz q=>q.of_steps l.2.1 (oF _ _) (bN.refl a)) (m r.2 l.2.1.rel)
end Go.Proofs.YtokipodjggomfaaGreatDoor.Abs
namespace Go.Proofs.YtokipodjggomfaaGreatDoor.Abs
open Go
def a0x(a b:Option (List (List Fact))):Option (List (List Fact)):=
 match a with
 |none=>none
 |some x=>match b with
  |none=>none
  |some y=>some (x++y)
def a1B(pc:List Fact)(a:Option (List (List Fact))):Option (List (List Fact)):=
 match a with
 |none=>none
 |some x=>some (pc::x)
def okO(b:Bool):Option (List (List Fact)):=
 match b with
 |true=>some []
 |false=>none
def R.res {α:Type} (p:α->Bool) (r:R α):Option (List (List Fact)):=
 @R.rec α (λ_=>Option (List (List Fact))) (λa=>okO (p a)) (λ_=>none) (λn _ c=>@Nat.rec (λ_=>Option (List (List Fact))) (some []) (λi b=>a0x b (c i)) n) (λpc _ c=>a1B pc c) r
def Unsat(pc:List Fact):Prop:=¬∃E:G,∀f∈pc,f.holds E
def mr(l:List (List Fact)):Prop:=∀pc∈l,Unsat pc
theorem SP{a b:Option (List (List Fact))}{l:List (List Fact)}(h:a0x a b=some l):∃x y,a=some x/\b=some y/\l=x++y:=by
 unfold a0x at h;cases a with
 |none=>cases h
 |some x=>cases b with
  |none=>cases h
  |some y=>grind
theorem R.Ov {α:Type} (p:α->Bool) (k:Nat->R α):∀(n:Nat)(l:List (List Fact)),R.res p (.ask n k)=some l->∀i,i<n->∃x,R.res p (k i)=some x/\∀pc∈x,pc∈l
 |0,_,_,i,h=>absurd h (rS i)
 |n+1,l,h,i,V=>by
  have e:R.res p (.ask (n+1) k)=a0x (R.res p (.ask n k)) (R.res p (k n)):=rfl;rw[e]at h;obtain⟨x,y,A,I,rfl⟩:=SP h;rcases cV i n with b|b
  .obtain⟨z,W,D⟩:=R.Ov p k n x A i b;exact⟨z,W,λpc a=>xL _ (D pc a)⟩
  .grind
theorem R.hN {α:Type} {p:α->Bool} {pc:List Fact} {k:R α} {l:List (List Fact)} (h:R.res p (.must pc k)=some l):∃x,R.res p k=some x/\l=pc::x:=by
 have e:R.res p (.must pc k)=a1B pc (R.res p k):=rfl;rw[e]at h;cases Z:R.res p k with
 |none=>rw[Z]at h;cases h
 |some x=>rw[Z]at h;exact⟨x,rfl,(ae h).symm⟩
theorem R.qD {α j:Type} {p:j->Bool} {Q:α->Prop} {f:α->R j}:∀{r:R α}{l:List (List Fact)},R.res p (r.bind f)=some l->mr l->r.path Q->∃a x,Q a/\R.res p (f a)=some x/\mr x
 | .ok a,l,h,d,b=>⟨a,l,b,h,d⟩
 | .bad _,_,h,_,_=>by cases h
 | .ask n k,l,h,d,⟨i,V,b⟩=>by
   obtain⟨x,A,I⟩:=R.Ov p (λi=>(k i).bind f) n l h i V;exact R.qD A (λpc c=>d pc (I pc c)) b
 | .must pc k,l,h,d,b=>by
   obtain⟨x,A,rfl⟩:=R.hN (k:=k.bind f) h;rcases b with b|b
   .exact absurd b (d pc aV)
   .exact R.qD A (λGv c=>d Gv (bk _ c)) b
def Cb:List Func->Bool
 | []=>true
 |f::l=>match f.body.isSome&&(f.name== "runtime.NumGoroutine")with
  |true=>false
  |false=>Cb l
theorem yZ:∀{l:List Func},Cb l=true->∀f∈l,f.body.isSome=true->(f.name== "runtime.NumGoroutine")=false
 | [],_,_,h=>by cases h
 |g::l,h,f,b=>by
  unfold Cb at h;cases a:(g.body.isSome&&(g.name== "runtime.NumGoroutine"))with
  |true=>rw[a]at h;cases h
  |false=>
   rw[a]at h;intro c;cases b with
   |head=>rw[c]at a;simpa using a
   |tail _ b=>exact yZ h f b c
theorem VX{P:Program}{eqT:Nat->Bool}{X:List (FuncId×Ext)}{K L:List bp}(a:∀c∈L,ju P c)(b:∀c∈K,eb P c)(A:FD P=true)(I:Cb P.funcs.toList=true)
  (W:∀f e,rp f X=some e->Io P f e):Good (gk P eqT X K L):=
 ⟨rfl,b,a,A,λf fn d g=>yZ I fn (by have:=Array.mem_of_getElem? (xs:=P.funcs) d;simpa using this) g,W⟩
structure Xo(E:G)(s:S)(w M:World):Prop where
 size:w.heap.size<=M.heap.size
 tape:M.tape=w.tape
 os:M.os=w.os
 output:M.output=w.output
 stays:∀(k:Nat)(o:Obj),w.heap[k]? =some o->¬Live E s k->M.heap[k]? =some o
def a1P(E:G)(o:Out)(e:Ending):Prop:=
 match o.res with
 | .ret v=>∃c,ag E v=some c/\e=.returned c
 | .eH ch=>∃c,fa E ch=some c/\e=.panicked c
theorem H0{C:Ctx}(y:Good C)(Q:C.P.follows .mixedOrders=true){base:Nat}{E:G}{s:S}{w:World}(T:Rel C base E s w){f:FuncId}{args:List AV}{b:List Value}(g:ax E args=some b)(n:Nat)
  {j:Type} {p:j->Bool} {look:Out->R j} {l:List (List Fact)} (h:R.res p ((pC C (zu C n) f args .normal none s).bind look)=some l) (U:mr l):
  Calls C.P f ⟨b⟩ w λe M=>∃B o x,Step C base E s w B o.s M/\R.res p (look o)=some x/\mr x/\a1P B o e:=by
 intro cs;have V:=qQ y (xT y (drawn C base y Q) n) T f g .normal (ctx:=none) (cs:=cs) rfl;obtain⟨o,x,⟨⟨fn,z⟩,nt,B,M,A,k,N,D,c⟩,Y,m⟩:=R.qD h U V;have q:A=cs:=D;subst q;obtain⟨res,d,os⟩:=o;cases res with
 |ret v=>obtain⟨O,F,i,a,r,Z,H,I,J,t,K⟩:=c;exact⟨.returned O,M,i,⟨B,⟨.ret v,d,os⟩,x,k,Y,m,O,F,rfl⟩,a,r,H,I,Z,J,by rw[r];exact t,K⟩
 |eH ch=>obtain⟨u,L,i,a,r,H,I⟩:=c;exact⟨.panicked u,M,i,⟨B,⟨.eH ch,d,os⟩,x,k,Y,m,u,L,rfl⟩,a,r,H,I,fn,by rw[r];exact z⟩
end Go.Proofs.YtokipodjggomfaaGreatDoor.Abs
namespace Go.Proofs.YtokipodjggomfaaGreatDoor.Abs
open Go
theorem DL{s:S}(e:∀g b,s.h.get g=some b->dm b=true){E:G}{w M:World}(h:Xo E s w M):w.keptBut M (λ_=>False):=by
 refine⟨h.os,h.output,λi V=>?_⟩;have d:w.heap[i]? =some w.heap[i]:=dR V;have a:=h.stays i _ d (λ⟨id,b,l,A,I,_⟩=>by rw[e id b A]at I;cases I);rw[d,a];cases w.heap[i]with
 |cells c t f=>exact⟨rfl,rfl,rfl,λ_ _=>rfl⟩
 |map J clock=>exact .inr ⟨rfl,rfl⟩
 |_=>rfl
theorem UU{H:Type}{qf:TypeId×Value->H}{P:Program}{f:Func}{s:ChangeSpec}{apart d a:Bool}{W j:World}{args:Array Value}{v:Value}{ds gs:List (DataW H)}{before pa pv:List MemPlace}
  (n:DataW.Whole qf P f.params.toList s.vars apart W args.toList ds gs before)
  (k:∀(b:Nat)(e:Nat->Bool)(o:Bool),DataW.TrodAll qf P j b e o f.resultTypes.toList (v.resultList f.resultTypes.size) (s.fn H (ds++gs)).results [])
  (g:∀e:Nat->Bool,(∀p∈before,e p.block=true)->DataW.TrodAll qf P j 0 e true f.params.toList args.toList (s.fn H (ds++gs)).args pa)
  (i:∀e:Nat->Bool,(∀p∈before,e p.block=true)->DataW.TrodVars qf P j e s.vars (s.fn H (ds++gs)).vars pv)
  (m:before=pa++pv) (Z:W.keptBut j (·∈before)):s.post qf P f apart d a false W args v j:=by
 have c:∀p∈before,(λb=>decide (b<W.heap.size)) p.block=true:=λp l=>by simpa using n.lt p l
 refine⟨ds,gs,before,[],pa,pv,n,k _ _ _,g _ c,i _ c,World.keptBut_mono (λp l=>⟨l,?_⟩) Z,λh=>by cases h⟩;rw[m,iR]at l;exact .inr l
theorem Sb{w M:World}{may:MemPlace->Prop}(h:w.keptBut M (λ_=>False)):w.keptBut M may:=World.keptBut_mono (λ_ f=>f.elim) h
def Xs(P:Program):List (FuncId×Ext)->Prop
 | []=>True
 |x::l=>Io P x.1 x.2/\Xs P l
theorem P7{P:Program}:∀{X:List (FuncId×Ext)},Xs P X->∀f e,rp f X=some e->Io P f e
 | [],_,f,e,h=>by cases h
 |x::l,Y,f,e,h=>by
  have e1:rp f (x::l)=match Nat.beq x.1 f with|true=>some x.2|false=>rp f l:=rfl
  rw[e1]at h;cases a:Nat.beq x.1 f with
  |true=>rw[a]at h;injection h with h;subst h;have:=aL a;subst this;exact Y.1
  |false=>rw[a]at h;exact P7 Y.2 f e h
theorem w9{H:Type}{qf:TypeId×Value->H}{a:Assume}{C:Checked}{os:Os}{f:FuncId}{fn:Func}{s:ChangeSpec}{c:List PathCond}{apart g b again:Bool}{X:World->Array Value->Prop}
  (z:∀(w M:World)(args:Array Value),w.heap=M.heap->X w args->X M args)
  (own:ownKnob C.prog.godebug=none) (h:os.Started) (l:C.prog.inits.idxOf? f=none) (p:C.prog.funcs[f]? =some fn)
  (k:∃(w:World)(tape:Tape)(i:Input),w.os=os/\(w.forCall tape i).Shaped C.prog/\i.vars=[]/\Input.okWide C.prog (w.forCall tape i) .any w.heap.size f i/\
    ((s.pre qf C.prog fn c apart (w.forCall tape i).memory i.args/\X (w.forCall tape i).memory i.args)/\sizedMet qf C.prog fn (OpenSpec.ofChange s) apart (w.forCall tape i).memory i.args)/\a.holds C.prog (lone (Frame.enter C.prog f i.args .normal) [] (w.forCall tape i)))
  (d:∀(W:World)(base:Nat)(args:Array Value)(ds gs:List (DataW H))(before:List MemPlace),
    (∀(j:Nat)t v,fn.params[j]? =some t->args[j]? =some v->Value.okWide C.prog W .any base t v)->
    DataW.Whole qf C.prog fn.params.toList s.vars apart W args.toList ds gs before->
    c.all (PathCond.test C.prog ⟨fn.params.toList,ds,s.plain.varTypes C.prog,gs⟩)=true->
    W.ShapedOpen C.prog->X W args->
    Calls C.prog f args W λe y=>∃v,e=.returned v/\s.post qf C.prog fn apart g b again W args v y):
  ReturnsInHanded a C os f .any (λw args=>(s.pre qf C.prog fn c apart w args/\X w args)/\sizedMet qf C.prog fn (OpenSpec.ofChange s) apart w args) (s.post qf C.prog fn apart g b again):=by
 refine returnsInHanded_of_calls own h l k ?_;intro w tape i _ q _ r m _;obtain⟨_,_,_,u,n,_,_,_,_,o⟩:=r;have e:u=fn:=ae (n.symm.trans p);subst e;obtain⟨⟨⟨ds,gs,before,A,B⟩,Y⟩,_⟩:=m;have x:=DataW.Whole.of_heap (show(w.forCall tape i).memory.heap=(w.forCall tape i).heap from rfl) A;refine(d (w.forCall tape i) w.heap.size i.args ds gs before o x B q (z _ _ _ (by rfl) Y)).mono λe y⟨v,D,E⟩=>?_
 subst D;exact ChangeSpec.post_blind E
theorem Hl{P:Program}{w:World}{g t:Nat}(h:w.ShapedOpen P)(b:Nat.blt g P.globals.size=true)
  (c:(((begin P (λ_ _=>0) default).world.heap[g]?).bind Obj.row?)=some (#[.int .i64 0],t)) (a:∃m,w.cell? ⟨g,0,none⟩=some (.int .i64 m)):
  ∃(vs:Array Value)(m:Int),w.heap[g]? =some (.cells vs t (0,0))/\vs[0]? =some (.int .i64 m):=by
 obtain⟨cs,A, -, -⟩:=h.1 g _ t (bn b) c;obtain⟨m,a⟩:=a;refine⟨cs,m,A,?_⟩;simpa[World.cell?,A]using a
end Go.Proofs.YtokipodjggomfaaGreatDoor.Abs
namespace Go.Proofs.YtokipodjggomfaaGreatDoor.Abs
open Go
theorem fq{H:Nat->SE}{pc:List Fact}{E:G}(c:∀f∈pc,f.holds E):∀{l:List Fact}{x:List (List Fact)},R.res (λ_=>true) (cP pc H l)=some x->mr x->∀f∈l,f.pos=true/\(f.sub H).holds E
 | [],_,_,_=>λf a=>by cases a
 | .tr e::l,x,h,g=>by
   have h:R.res (λ_=>true) (match th (SE.sub H e) pc with|true=>cP pc H l|false=>R.must (.rel "tr" true dk [SE.sub H e]::pc) (cP pc H l))=some x:=h;cases Z:th (SE.sub H e) pc with
   |true=>
    rw[Z]at h;intro f a;cases a with
    |head=>exact⟨rfl,uI c Z⟩
    |tail _ a=>exact fq c h g f a
   |false=>
    rw[Z]at h;obtain⟨y,A,rfl⟩:=R.hN h;intro f a;cases a with
    |head=>
     refine⟨rfl,Gb.1 ?_⟩;by_cases d:∃ds,gZ E [SE.sub H e]=some ds/\dk ds
     .exact d
     .refine absurd ⟨E,λf a=>?_⟩ (g _ aV);cases a with
      |head=>exact d
      |tail _ a=>exact c f a
    |tail _ a=>exact fq c A (λGv d=>g Gv (bk _ d)) f a
 | .fl e::l,x,h,g=>by
   have h:R.res (λ_=>true) (match tj (SE.sub H e) pc with|true=>cP pc H l|false=>R.must (.rel "fl" true pFl [SE.sub H e]::pc) (cP pc H l))=some x:=h;cases Z:tj (SE.sub H e) pc with
   |true=>
    rw[Z]at h;intro f a;cases a with
    |head=>exact⟨rfl,uJ c Z⟩
    |tail _ a=>exact fq c h g f a
   |false=>
    rw[Z]at h;obtain⟨y,A,rfl⟩:=R.hN h;intro f a;cases a with
    |head=>
     refine⟨rfl,LX.1 ?_⟩;by_cases d:∃ds,gZ E [SE.sub H e]=some ds/\pFl ds
     .exact d
     .refine absurd ⟨E,λf a=>?_⟩ (g _ aV);cases a with
      |head=>exact d
      |tail _ a=>exact c f a
    |tail _ a=>exact fq c A (λGv d=>g Gv (bk _ d)) f a
 | .inr i n::l,x,h,g=>by
   have h:R.res (λ_=>true) (match nz (SE.sub H i) (SE.sub H n) pc with|true=>cP pc H l|false=>R.must (.rel "in" true ee [SE.sub H i,SE.sub H n]::pc) (cP pc H l))=some x:=h;cases Z:nz (SE.sub H i) (SE.sub H n) pc with
   |true=>
    rw[Z]at h;intro f a;cases a with
    |head=>exact⟨rfl,ri c Z⟩
    |tail _ a=>exact fq c h g f a
   |false=>
    rw[Z]at h;obtain⟨y,A,rfl⟩:=R.hN h;intro f a;cases a with
    |head=>
     refine⟨rfl,BE.1 ?_⟩;by_cases d:∃ds,gZ E [SE.sub H i,SE.sub H n]=some ds/\ee ds
     .exact d
     .refine absurd ⟨E,λf a=>?_⟩ (g _ aV);cases a with
      |head=>exact d
      |tail _ a=>exact c f a
    |tail _ a=>exact fq c A (λGv d=>g Gv (bk _ d)) f a
 | .rel nm b p args::l,x,h,g=>by
   cases b with
   |true=>cases h
   |false=>
    obtain⟨y,A,rfl⟩:=R.hN (show R.res (λ_=>true) (.must (.rel nm true p (SE.fZ H args)::pc) (cP pc H l))=some x from h);intro f a;cases a with
    |head=>
     refine⟨rfl,?_⟩;by_cases d:∃ds,gZ E (SE.fZ H args)=some ds/\p ds
     .exact d
     .refine absurd ⟨E,λf a=>?_⟩ (g _ aV);cases a with
      |head=>exact d
      |tail _ a=>exact c f a
    |tail _ a=>exact fq c A (λGv d=>g Gv (bk _ d)) f a
theorem wk{h:Tr eD}{a:Nat->Nat}{d:Nat->SE}:∀{l:List (Nat×CB)},wm h a d l=true->∀x∈l,∃b,h.get (a x.1)=some b/\nB b (x.2.sub a d)=true/\x.2.live=true
 | [],_,x,Y=>by cases Y
 |y::l,e,x,Y=>by
  unfold wm at e;cases c:h.get (a y.1)with
  |none=>rw[c]at e;cases e
  |some b=>
   rw[c]at e;simp only[aw]at e;cases Y with
   |head=>exact⟨b,c,e.1,e.2.1⟩
   |tail _ Y=>exact wk e.2.2 x Y
theorem D6{n next:Nat}{l:List (Nat×Nat)}(a:n<=next):(∀i,i<n->Ly n next l i=i)/\∀i,n<=i->n<=Ly n next l i:=by
 refine⟨λi h=>by unfold Ly;rw[js h],λi h=>?_⟩;unfold Ly;rw[lC h];simp only;cases ke i l with
 |none=>exact a
 |some j=>
  simp only;cases b:Nat.ble n j with
  |true=>exact bn b
  |false=>exact a
theorem Ey{n m:Nat}{l:List (Nat×SE)}:(∀i,i<n->Mv n m l i=.var i)/\∀(E:G)i,n+m<=i->aj E (Mv n m l i)=none:=by refine⟨λi h=>by unfold Mv;rw[js h],λE i h=>?_⟩;unfold Mv;rw[lC (show n<=i by omega)];simp only;rw[show Nat.blt i (Nat.add n m)=false from lC h];rfl
theorem nu{C:Ctx}{base:Nat}{c:bp}{eH:Bool}{s:S}{v:AV}{E:G}{w:World}{z:Value}(g:Rel C base E s w)(t:ag E v=some z)(j:c.n<=s.next):∀{l:List de}{x:List (List Fact)},R.res (λ_=>true) (jm C c eH s v l)=some x->mr x->
  ∃o,o∈l/\o.eH=eH/\∃(B:G)(U:S)(D:AV)(u:Nat->Nat)(k:Nat->SE),Step C base E s w B U w/\ag B D=some z/\(∀i,i<c.n->u i=i/\k i=.var i)/\(∀i,c.n<=i->c.n<=u i)/\(∀i,c.n+o.m<=i->aj B (k i)=none)/\
   Aq U D o u k=true/\∀f∈o.facts,f.pos=true/\(f.sub k).holds B
 | [],x,h,p=>by
   obtain⟨y, -,rfl⟩:=R.hN (show R.res (λ_=>true) (R.must s.pc (R.ok ()))=some x from h);exact absurd ⟨E,λf b=>(g.pc f b).2⟩ (p s.pc aV)
 |o::l,x,h,p=>by
  unfold jm at h;cases q:a5g o.eH eH with
  |true=>rw[q]at h;obtain⟨T,W,I⟩:=nu g t j h p;exact⟨T,bk _ W,I⟩
  |false=>
  rw[q]at h;have d:o.eH=eH:=by cases ho:o.eH<;>cases eH<;>rw[ho]at q<;>first|rfl|cases q
  simp only at h;obtain⟨r,y,⟨B,a,F⟩,A,e⟩:=R.qD h p (Eo o.res v g t);revert A;obtain⟨_,tl,H⟩:=G4 c.n r.2.h o.post (Mz o.res r.1 (.nil,[],[]));intro A;simp only at A;cases b:Aq r.2 r.1 o (Ly c.n r.2.next tl) (Mv c.n o.m H)with
  |true=>rw[b]at A;exact⟨o,aV,d,B,r.2,r.1,_,_,a,F,λi V=>⟨(D6 (gn j a.next)).1 i V,Ey.1 i V⟩,(D6 (gn j a.next)).2,Ey.2 B,b,fq (λf b=>(a.rel.pc f b).2) A e⟩
  |false=>rw[b]at A;obtain⟨T,W,I⟩:=nu g t j A e;exact⟨T,bk _ W,I⟩
def bM(k:Kd)(l:List Dt):Prop:=∃d,l=[d]/\k.fits d
def tyV(v:AV):List Fact:=
 match v with
 | .bS k e=>[.rel "ty" false (bM k) [e]]
 |_=>[]
def tyT(a:List (Nat×AV)):List (Nat×AV)->List Fact
 | []=>[]
 |x::l=>(match hH x.1 a with
  |some v=>tyV v
  |none=>[])++tyT a l
def tyC(cs:Tr AV):Nat->List Fact
 |0=>[]
 |n+1=>(match cs.get n with
  |some v=>tyV v
  |none=>[])++tyC cs n
def tyB(h:Tr eD):List (Nat×CB)->List Fact
 | []=>[]
 |x::l=>(match h.get x.1 with
  |some b=>(match b with
   | .cells _ cs n _ _ st _=>(match st with
     |true=>[]
     |false=>tyC cs n)
   |_=>[])
  |none=>[])++tyB h l
def bp.S2 (c:bp):_root_.Go.Proofs.YtokipodjggomfaaGreatDoor.Abs.S:=⟨c.S.h,c.n,tyT (vL SV .var c.t) c.t++(tyB c.S.h c.pre++c.facts)⟩
theorem DZ{E:G}{v:AV}{c:Value}(h:VR E v c):∀f∈tyV v,f.pos=true/\f.holds E:=by
 intro f b;cases v with
 |bS k e=>
  obtain rfl:f=.rel "ty" false (bM k) [e]:=zT.1 b;refine⟨rfl,?_⟩;rcases h with h|h
  .cases h
  .simp only[ag,bW]at h;obtain⟨d,g,a⟩:=h;unfold Kd.see at a;split at a
   .next Z=>
    refine⟨[d],?_,d,rfl,Z⟩;show(aj E e).bind (λd=>(some []).map λr=>d::r)=_;rw[g];rfl
   .cases a
 |_=>cases b
theorem D0{E:G}{nt:Nat}{a:List (Nat×AV)}{tm:Array Value}(h:aD E nt (Dv nt a) tm):∀{l:List (Nat×AV)},∀f∈tyT a l,f.pos=true/\f.holds E
 | [],f,b=>by cases b
 |x::l,f,b=>by
  unfold tyT at b;rcases iR.1 b with b|b
  .cases d:hH x.1 a with
   |none=>rw[d]at b;cases b
   |some v=>rw[d]at b;obtain⟨-,c, -,e⟩:=h.2.1 x.1 v (by rw[xQ,d]);exact DZ e f b
  .exact D0 h f b
theorem D1{E:G}{cs:Tr AV}{m:Nat}(h:∀i v,i<m->cs.get i=some v->∃c,VR E v c):∀{n:Nat},n<=m->∀f∈tyC cs n,f.pos=true/\f.holds E
 |0,_,f,a=>by cases a
 |n+1,b,f,a=>by
  unfold tyC at a;rcases iR.1 a with a|a
  .grind[DZ]
  .exact D1 h (Nat.le_of_succ_le b) f a
theorem D2{C:Ctx}{base:Nat}{E:G}{s:S}{w:World}(d:Rel C base E s w):∀{l:List (Nat×CB)},∀f∈tyB s.h l,f.pos=true/\f.holds E
 | [],f,a=>by cases a
 |x::l,f,a=>by
  unfold tyB at a;rcases iR.1 a with a|a
  .cases c:s.h.get x.1 with
   |none=>rw[c]at a;cases a
   |some b=>
    rw[c]at a;obtain⟨F,o, -, -,e⟩:=d.ay _ _ c;cases b with
    |cells elem cs n fz fh st sg=>
     cases st with
     |true=>cases a
     |false=>obtain⟨vs,lo,V, -, -,g, -⟩:=e;exact D1 (λi v V j=>(g i v V j).imp λ_ h=>h.2) (aX n) f a
    |_=>cases a
  .exact D2 d f a
theorem yu{C:Ctx}(Q:Good C)(hM:C.P.follows .mixedOrders=true)(c:bp)(n:Nat){l:List (List Fact)}
  (h:∀tl,R.res (λ_=>true) ((zu C n (c.fi tl) c.tr c.todo [] .run none c.S2).bind (pG C c))=some l) (hu:mr l):eb C.P c:=by
 obtain⟨hT,hG⟩:=Kt Q;have hP:C.P=(gk C.P (λ_=>false) []).P:=rfl;intro base E ro tl tm items cs w d;have u:gN (gk C.P (λ_=>false) []) base E (c.fi tl) ro c.tr c.todo [] .run none c.S2 tm items tl .run cs w:=
  ⟨⟨d.rel.ay,d.rel.sep,d.rel.new,d.rel.eM,d.rel.low,d.rel.bs,λf k=>by
     rcases iR.1 k with k|k
     .exact D0 d.tmps f k
     .rcases iR.1 k with k|k
      .exact D2 d.rel f k
      .exact d.rel.pc f k,d.rel.rd⟩,d.ro,d.tmps,d.todo,d.defs,d.mode,d.ctx,d.fn,d.rk⟩
 have conv:∀{B:G}{U:S}{M:World},Step (gk C.P (λ_=>false) []) base E c.S2 w B U M->Step (gk C.P (λ_=>false) []) base E c.S w B U M:=λh=>⟨h.grow,h.rel,⟨h.keep.size,h.keep.tape,h.keep.os,h.keep.output,h.keep.stays⟩,h.live,h.next,h.SW,h.MT,h.lV,h.Xw⟩
 have hs:=xT Q (drawn C base Q hM) n E (c.fi tl) ro c.tr c.todo [] .run none c.S2 tm items tl .run cs w (u.over hP.symm hT.symm hG.symm);obtain⟨o,x,⟨m,M,q,r,a8F,T,s⟩,Y,z⟩:=R.qD (h tl) hu hs;have H:q=cs:=T;subst H;obtain⟨res,a2N,s1⟩:=o;have fin:∀{v:AV}{t:Value}{eH:Bool},ag m v=some t->R.res (λ_=>true) (jm C c eH s1 v c.outs)=some x->a7k (gk C.P (λ_=>false) []) (c.fi tl) q (lone (aC (c.fi tl) ro tm items tl .run) q w) M t eH->Ip C.P c base E (lone (aC (c.fi tl) ro tm items tl .run) q w) tl q w:=by
  intro v t eH j Y g;obtain⟨o,ho,J,K,s2,v2,θ,ν,L,N,A,I,W,D,h5⟩:=nu r.rel j r.next Y z;simp only[Aq,aw]at D;obtain⟨g1,g2,g3⟩:=D;have g1:=fU _ _ g1;subst g1;exact⟨o,ho,K,s2,M,θ,ν,t,conv ((r.trans L).ctx hP hT hG),A,I,λx Y=>by
   obtain⟨b,q1,q2,q3⟩:=wk g2 x Y;obtain⟨F,ob,r1, -, -⟩:=L.rel.ay _ b q1;exact⟨b,F,q1,by rw[(mU q2).2,l7,q3];rfl,r1,λob V=>(mU q2).1 _ K F ob V⟩,λx Y y hy X=>B9 g3 x Y y hy X,W,h5,N,by rw[J];exact g⟩
 have none_:R.res (λ_=>true) (R.must s1.pc (R.ok ()))=some x->False:=λY=>by
  obtain⟨y, -,rfl⟩:=R.hN Y;exact z s1.pc aV ⟨m,λf k=>(r.rel.pc f k).2⟩
 cases res with
 |eH ch=>
  cases ch with
  |nil=>exact(none_ Y).elim
  |cons p l=>
   cases l with
   |cons _ _=>exact(none_ Y).elim
   |nil=>
    obtain⟨pv,pr⟩:=p;cases pr with
    |true=>exact(none_ Y).elim
    |false=>
     obtain⟨O,e,Z,k1,k2,k3,k4⟩:=s;have e:(match iA m ⟨pv,false⟩,fa m []with|some a,some b=>some (a::b)|_,_=>none)=some O:=e;unfold iA at e;cases j:ag m pv with
     |none=>rw[j]at e;cases e
     |some t=>rw[j]at e;obtain rfl:=ae (show some [({ v:=t,recovered:=false }:PanicEntry)]=some O from e);exact fin j (show R.res (λ_=>true) (jm C c true s1 pv c.outs)=some x from Y) ⟨Z,k1,k2,k3,k4⟩
 |ret v=>
  obtain⟨t,j,g⟩:=s;refine fin j (show R.res (λ_=>true) (jm C c false s1 v c.outs)=some x from Y) ?_;show K9 _ _ _ _ _ _;unfold K9;cases hr:(c.fi tl).roundOf with
  |none=>rw[hr]at g;exact g
  |some i=>rw[hr]at g;exact g
end Go.Proofs.YtokipodjggomfaaGreatDoor.Abs
namespace Go.Proofs.YtokipodjggomfaaGreatDoor.Abs
open Go
mutual
def Lc:Dt->Nat
 | .val _=>1
 | .sl _ _ _ J=>ca J+1
 | .pt _ _ _ _ _ _=>1
 | .ls _ J=>ca J+1
def ca:List Dt->Nat
 | []=>0
 |d::l=>Lc d+ca l
end
theorem dA:∀{l m:List Dt},ca (l++m)=ca l+ca m
 | [],m=>by simp[ca]
 |d::l,m=>by simp only[jG,ca,dA (l:=l)];omega
theorem Ze:∀(d:Dt),1<=Lc d:=by intro d;cases d<;>simp only[Lc]<;>omega
theorem wQ:∀{l:List Dt},l.length<=ca l
 | []=>j0 _
 |d::l=>by
  have:=Ze d;have:=wQ (l:=l);simp only[bZ,ca];omega
theorem Ce(l:List Dt)(n:Nat):ca (l.take n)+ca (l.drop n)=ca l:=by grind[dA,List.take_append_drop]
mutual
def u0{H:Type}:DataW H->Nat
 | .lit (.string bytes)=>bytes.length+1
 | .lit _=>1
 | .nil=>1
 | .ptr d=>u0 d+1
 | .slice elems spare=>fH elems+fH spare+1
 | .agg parts=>fH parts+1
 | .iface _ d=>u0 d+1
 | .map entries=>zj entries+1
 | .held _=>1
def fH{H:Type}:List (DataW H)->Nat
 | []=>0
 |d::r=>u0 d+fH r
def zj{H:Type}:List (Lit×DataW H)->Nat
 | []=>0
 |x::r=>SG x+zj r
def SG{H:Type}:Lit×DataW H->Nat
 |(.string bytes,d)=>bytes.length+u0 d+1
 |(_,d)=>u0 d+1
end
def uK(C:Ctx)(w:World)(F:Nat->Prop):List Kd->List Dt->Prop
 | [],[]=>True
 |k::P,d::ds=>k.fits d/\d.c6 C w F/\uK C w F P ds
 |_,_=>False
section
variable{C:Ctx}{w:World}{F:Nat->Prop}
theorem kf:∀{P:List Kd}{ds:List Dt},uK C w F P ds->ds.length=P.length
 | [],[],_=>rfl
 |_::_,_::_,h=>by simp[kf h.2.2]
 | [],_::_,h=>h.elim
 |_::_,[],h=>h.elim
theorem xg:∀{P:List Kd}{ds:List Dt}{i:Nat}{d:Dt},uK C w F P ds->ds[i]? =some d->∃k,P[i]? =some k/\k.fits d/\d.c6 C w F
 | [],[],i,d,_,h=>by simp at h
 |k::P,d::ds,0,d',h,e=>by
  simp only[cr,ar]at e;subst e;exact⟨k,rfl,h.1,h.2.1⟩
 |k::P,d::ds,i+1,d',h,e=>by simpa using xg (i:=i) h.2.2 (by simpa using e)
 | [],_::_,_,_,h,_=>h.elim
 |_::_,[],_,_,h,_=>h.elim
theorem y7:∀{P a:List Kd}{ds b:List Dt},uK C w F P ds->uK C w F a b->uK C w F (P++a) (ds++b)
 | [],_,[],_,_,h=>h
 |_::_,_,_::_,_,h,c=>⟨h.1,h.2.1,y7 h.2.2 c⟩
 | [],_,_::_,_,h,_=>h.elim
 |_::_,_,[],_,h,_=>h.elim
theorem Dt.bG.mk {P:List Kd}:∀{l:List Dt}{j:Nat},(∀(i:Nat)d,l[i]? =some d->(∃k,P[(j+i)%P.length]? =some k/\k.fits d)/\d.c6 C w F)->Dt.bG C w F P j l
 | [],_,_=>trivial
 |d::l,j,h=>⟨(h 0 d rfl).1,(h 0 d rfl).2,Dt.bG.mk λi d' V=>by
   have:=h (i+1) d' (by simpa using V)
   rwa [show j+(i+1)=j+1+i by omega]at this⟩
theorem CC{P:List Kd}:∀{Dq:List (List Dt)}{q:Nat},(∀x∈Dq,uK C w F P x)->Dt.bG C w F P (q*P.length) Dq.flatten
 | [],_,_=>trivial
 |x::Dq,q,h=>.mk λi d V=>by
  have Y:=h x aV;have c:=CC (Dq:=Dq) (q:=q+1) λy e=>h y (bk _ e)
  rw[List.flatten_cons,lE]at V;split at V
  .next a=>
   obtain⟨k,A,I,W⟩:=xg Y V;refine⟨⟨k,?_,I⟩,W⟩;have f:i<P.length:=by rw[<-kf Y];exact a
   rw[rL,vn,jH f];exact A
  .next b=>
   have:=c.get V;rw[show(q+1)*P.length+(i-x.length)=q*P.length+i by rw[kf Y,cY,Nat.one_mul];rw[kf Y]at b;omega]at this;exact this
end
def xj(C:Ctx)(L:List TypeId):List Field->Nat->List Kd->Bool
 | []=>λ_ P=>match P with| []=>true|_::_=>false
 |f::a=>λoff P=>Nat.beq f.offset off&&(pz f.type L&&(Nat.beq (C.P.cellsOf f.type) (aq C f.type).length&&(kR (P.take (aq C f.type).length) (aq C f.type)&&xj C L a (Nat.add off (aq C f.type).length) (P.drop (aq C f.type).length))))
def Lv(C:Ctx)(L:List TypeId)(t:TypeId):Bool:=
 match C.P.underlying t with
 |some d=>match d with
  | .int k=>kR (aq C t) [.int k]
  | .bool=>kR (aq C t) [.bool]
  | .string=>kR (aq C t) [.str]
  | .slice e=>kR (aq C t) [.sl e]&&(pz e L&&(!Nat.beq (C.P.cellsOf e) 0&&Nat.beq (C.P.cellsOf e) (aq C e).length))
  | .struct a=>xj C L a.toList 0 (aq C t)&&Nat.beq (C.P.cellsOf t) (aq C t).length
  |_=>false
 |none=>false
def Oh(C:Ctx)(L:List TypeId):List TypeId->Bool
 | []=>true
 |t::l=>Lv C L t&&Oh C L l
theorem Hx{k:Nat}:∀{l:List Nat},pz k l=true->k∈l
 | [],h=>by cases h
 |e::J,h=>by
  unfold pz at h;cases a:Nat.beq k e with
  |true=>rw[aL a];exact aV
  |false=>rw[a]at h;exact bk _ (Hx h)
theorem DY{C:Ctx}{L:List TypeId}:∀{l:List TypeId},Oh C L l=true->∀t∈l,Lv C L t=true
 | [],_,t,a=>by cases a
 |x::l,h,t,a=>by
  simp only[Oh,aw]at h;cases a with
  |head=>exact h.1
  |tail _ a=>exact DY h.2 t a
section
variable{H:Type}{qf:TypeId×Value->H}{C:Ctx}{w:World}{spare:Nat->Bool}{held:Bool}{L:List TypeId}
theorem Qc{α:Type}{F:Nat->Prop}{P:List Kd}{g:α->DataW H}:∀(n:Nat)(xs:List α)(rd:Nat->List Value),xs.length=n->
  (∀(i:Nat)x,xs[i]? =some x->∃ds:List Dt,ds.map Dt.v=rd i/\uK C w F P ds/\ca ds<=u0 (g x))->
  ∃Dq:List (List Dt),Dq.length=n/\(∀(i:Nat)ds,Dq[i]? =some ds->ds.map Dt.v=rd i)/\(∀x∈Dq,uK C w F P x)/\ca Dq.flatten<=fH (xs.map g)
 |0,[],rd,_,_=>⟨[],rfl,(λi ds h=>by simp at h),(λx Y=>by cases Y),by simp[ca,fH]⟩
 |n+1,x::xs,rd,b,h=>by
  obtain⟨ds,A,I,W⟩:=h 0 x rfl;obtain⟨Dq,g1,g2,g3,g4⟩:=Qc n xs (λi=>rd (i+1)) (by simpa using b) λi y a=>h (i+1) y (by simpa using a)
  refine⟨ds::Dq,by simp[g1],λi e c=>?_,λy a=>?_,?_⟩
  .grind
  .grind
  .grind[dA,fH]
theorem ES{F:Nat->Prop}{m:Nat}{cs:List Value}(c:∀(t:TypeId)(cs:List Value)(x:DataW H×List MemPlace),t∈L->DataW.trod qf C.P w 0 spare held m t cs=some x->∃ds:List Dt,ds.map Dt.v=cs/\uK C w F (aq C t) ds/\ca ds<=u0 x.1):
  ∀(a:List Field)(xs:List (DataW H×List MemPlace))(off:Nat)(P:List Kd),xj C L a off P=true->off+P.length=cs.length->xs.length=a.length->
   (∀(i:Nat)f,a[i]? =some f->DataW.trod qf C.P w 0 spare held m f.type ((cs.drop f.offset).take (C.P.cellsOf f.type))=xs[i]?)->
   ∃ds:List Dt,ds.map Dt.v=cs.drop off/\uK C w F P ds/\ca ds<=fH (xs.map (·.1))
 | [],[],off,P,h,d,_,_=>by
   cases P with
   |cons _ _=>cases h
   |nil=>simp only[dv,hx]at d;exact⟨[],by rw[ql (by omega)];rfl,dB,by simp[ca,fH]⟩
 |f::a,x::xs,off,P,h,d,j,Y=>by
  simp only[xj,aw]at h;obtain⟨A,I,W,D,h5⟩:=h;have A:=aL A;have W:=aL W;have D:=dF D;have e:=Y 0 f rfl;simp only[cr]at e;obtain⟨ds,d1,d2,d3⟩:=c f.type _ x (Hx I) e;have b:(aq C f.type).length<=P.length:=by grind
  obtain⟨J,e1,e2,e3⟩:=ES (F:=F) (cs:=cs) c a xs (off+(aq C f.type).length) (P.drop (aq C f.type).length) h5 (by rw[eT];omega) (by simpa using j) λi g k=>by
   have:=Y (i+1) g (by simpa using k);simpa using this
  refine⟨ds++J,?_,?_,?_⟩
  .grind[e1,List.drop_drop,List.take_append_drop]
  .have:=y7 d2 e2
   rwa [<-D,cG,vl b,zX]at this
  .grind[dA,fH]
 | [],_::_,_,_,_,_,h,_=>by simp at h
 |_::_,[],_,_,_,_,h,_=>by simp at h
theorem HS(X:∀t∈L,Lv C L t=true):∀(r:Nat)(t:TypeId)(cs:List Value)(x:DataW H×List MemPlace),t∈L->DataW.trod qf C.P w 0 spare held r t cs=some x->
  ∃ds:List Dt,ds.map Dt.v=cs/\uK C w (λk=>k<w.heap.size) (aq C t) ds/\ca ds<=u0 x.1
 |0,_,_,_,_,h=>by simp[DataW.trod]at h
 |r+1,t,cs,x,ht,h=>by
  have m:=X t ht;unfold Lv at m;cases J:C.P.underlying t with
  |none=>rw[J]at m;cases m
  |some d=>
   rw[J]at m;cases d<;>first|(cases m;done)|skip
   case bool=>
    obtain⟨b,rfl,rfl⟩:=DataW.trod_bool J h;rw[dF m];exact⟨[.val (.bool b)],rfl,⟨⟨b,rfl⟩,rfl,dB⟩,by simp[ca,Lc,u0]⟩
   case int k=>
    obtain⟨n,rfl,rfl, -⟩:=DataW.trod_int J h;rw[dF m];exact⟨[.val (.int k n)],rfl,⟨⟨n,rfl⟩,rfl,dB⟩,by simp[ca,Lc,u0]⟩
   case string=>
    obtain⟨s,rfl,rfl, -⟩:=DataW.trod_string J h;rw[dF m];exact⟨[.val (.string s)],rfl,⟨⟨s,rfl⟩,rfl,dB⟩,by simp[ca,Lc,u0]⟩
   case slice e=>
    simp only[aw,fY]at m;obtain⟨A,I,W,D⟩:=m;have D:=aL D;have h0:C.P.cellsOf e≠0:=by intro q;rw[q]at W;cases W
    rw[dF A];rcases DataW.trod_slice J h with⟨rfl,rfl⟩|⟨a,len,cap,elems,rest,n,hf,rfl,rfl,hb,hl,hm,u,Z,hsp,hns⟩
    .exact⟨[.sl (.slice none 0 0) e 0 []],rfl,⟨⟨_,_,_,_,_,rfl⟩,.inl ⟨rfl,rfl⟩,dB⟩,by simp[ca,Lc,u0]⟩
    .obtain rfl:r=n:=by omega
     have each:∀(i:Nat)y,elems[i]? =some y->∃z,w.cells? 0 (a.add (i*C.P.cellsOf e)) (C.P.cellsOf e)=some z/\DataW.trod qf C.P w 0 spare held r e z=some y:=by
      intro i y E;have B:i<len:=by rw[<-u];exact(jK.1 E).1
      have:=Z i B;rw[E]at this;exact bW.1 this
     obtain⟨Dq,d1,d2,d3,d4⟩:=Qc (C:=C) (w:=w) (F:=λk=>k<w.heap.size) (P:=aq C e) (g:=λy:DataW H×List MemPlace=>y.1) len elems
      (λi=>(w.cells? 0 (a.add (i*C.P.cellsOf e)) (C.P.cellsOf e)).getD []) u λi y E=>by
        obtain⟨z,U,q2⟩:=each i y E;rw[U];exact HS X r e z y (Hx I) q2
     have dl:∀x∈Dq,x.length=C.P.cellsOf e:=λx Y=>by rw[kf (d3 x Y),D]
     have N:∀(l:List (List Dt)),(∀x∈l,x.length=C.P.cellsOf e)->l.flatten.length=l.length*C.P.cellsOf e:=by
      intro l;induction l with
      |nil=>intro _;simp
      |cons x l ih=>intro Y;rw[List.flatten_cons,bL,Y x aV,ih λy E=>Y y (bk _ E),bZ,cY];omega
     have O:∀(l:List (List Dt))(j:Nat)(d:Dt),(∀x∈l,x.length=C.P.cellsOf e)->l.flatten[j]? =some d->∃i q x,q<C.P.cellsOf e/\j=i*C.P.cellsOf e+q/\l[i]? =some x/\x[q]? =some d:=by
      intro l;induction l with
      |nil=>intro j d _ h;simp at h
      |cons x l ih=>
       intro j d Y M;have hxl:=Y x aV;rw[List.flatten_cons,lE]at M;split at M
       .next B=>exact⟨0,j,x,by omega,by omega,rfl,M⟩
       .next hge=>
        obtain⟨i,q,y,g1,g2,g3,g4⟩:=ih (j-x.length) d (λy E=>Y y (bk _ E)) M;exact⟨i+1,q,y,g1,by rw[cY];omega,by simpa using g3,g4⟩
     refine⟨[.sl (.slice (some a) len cap) e (C.P.cellsOf e) Dq.flatten],rfl,⟨⟨_,_,_,_,_,rfl⟩,.inr ⟨D,⟨a,len,cap,rfl,by rw[N Dq dl,d1],λHv=>?_⟩,?_⟩,dB⟩,?_⟩
     .
      have cellAt:∀(i q:Nat)x d,Dq[i]? =some x->x[q]? =some d->q<C.P.cellsOf e->w.cell? ((a.add (i*C.P.cellsOf e)).add q)=some d.v:=by
       intro i q x d Y hd hq;have B:i<len:=by rw[<-d1];exact(jK.1 Y).1
       have R:i<elems.length:=by rw[u];exact B
       obtain⟨z,U, -⟩:=each i _ (dw R);have hv:=d2 i x Y;simp only[U,fu]at hv;have:=(World.cells?_some U).2.2 q hq;rw[this,<-hv,ik,hd];rfl
      have G:0<Dq.length:=by omega
      have hx0:=dw G;have hl0:=dl _ (List.getElem_mem G);have S:0<(Dq[0]).length:=by omega
      have c0:=cellAt 0 0 _ _ hx0 (dw S) (by omega);simp only[kx,Addr.add,aH]at c0;have T:∃(vs:Array Value)(Q:TypeId)(lo V:Nat),w.heap[a.block]? =some (.cells vs Q (lo,V))/\a.spot=none:=by
       unfold World.cell? at c0;cases hh:w.heap[a.block]? with
       |none=>rw[hh]at c0;cases c0
       |some o=>
        rw[hh]at c0;cases o<;>first|(cases c0;done)|skip
        rename_i vs Q fr;obtain⟨lo,V⟩:=fr;cases hs:a.spot with
        |none=>exact⟨vs,Q,lo,V,rfl,rfl⟩
        |some p=>rw[hs]at c0;cases c0
      obtain⟨vs,Q,lo,V,hh,K⟩:=T;refine⟨K,?_,vs,Q,lo,V,hh,λj d M=>?_⟩
      .grind
      .obtain⟨i,q,x,g1,g2,g3,g4⟩:=O Dq j d dl M;have c:=cellAt i q x d g3 g4 g1;obtain⟨ab,ao,asp⟩:=a;simp only at K hh;subst K;rw[addr_add,addr_add]at c;unfold World.cell? at c;rw[hh]at c;rw[g2,<-ig];exact c
     .have:=CC (C:=C) (w:=w) (F:=λk=>k<w.heap.size) (P:=aq C e) (Dq:=Dq) (q:=0) d3
      rwa [kx]at this
     .simp only[ca,Lc,u0];omega
   case struct fs=>
    simp only[aw]at m;obtain⟨A,I⟩:=m;have I:=aL I;obtain⟨xs,n,hf,rfl,hl,u,Y⟩:=DataW.trod_struct J h;obtain rfl:r=n:=by omega
    obtain⟨ds,d1,d2,d3⟩:=ES (F:=λk=>k<w.heap.size) (cs:=cs) (λt cs x A I=>HS X r t cs x A I) fs.toList xs 0 (aq C t) A (by rw[du,<-I,hl]) (by simpa using u)
     (λi f V=>by rw[xN]at V;exact Y i f V)
    exact⟨ds,by simpa using d1,d2,by simp only[u0];omega⟩
end
end Go.Proofs.YtokipodjggomfaaGreatDoor.Abs
namespace Go.Proofs.YtokipodjggomfaaGreatDoor.Abs
open Go
mutual
def Dt.wf (K:TypeId->List Kd):Dt->Prop
 | .val v=>zB v=true
 | .sl v t g J=>(v=.slice none 0 0/\J=[])\/(g=(K t).length/\(∃a n c,v=.slice (some a) n c/\J.length=n*g)/\Dt.jx K (K t) 0 J)
 | .pt _ _ _ _ _ _=>True
 | .ls P J=>Dt.jx K P 0 J
def Dt.jx (K:TypeId->List Kd) (P:List Kd):Nat->List Dt->Prop
 |_,[]=>True
 |j,d::l=>(∃k,P[j%P.length]? =some k/\k.fits d)/\Dt.wf K d/\Dt.jx K P (j+1) l
end
mutual
theorem Dt.c6.wf {C:Ctx} {w:World} {F:Nat->Prop}:∀(d:Dt),d.c6 C w F->d.wf (aq C)
 | .val _,h=>h
 | .sl v t g J,h=>by
   rcases h with h|⟨b,⟨a,n,c,e1,e3, -⟩,I⟩
   .exact .inl h
   .exact .inr ⟨b,⟨a,n,c,e1,e3⟩,Dt.bG.wf _ 0 J I⟩
 | .pt _ _ _ _ _ _,_=>trivial
 | .ls P J,h=>Dt.bG.wf P 0 J h
theorem Dt.bG.wf {C:Ctx} {w:World} {F:Nat->Prop} (P:List Kd):∀(j:Nat)(l:List Dt),Dt.bG C w F P j l->Dt.jx (aq C) P j l
 |_,[],_=>trivial
 |j,d::l,⟨A,I,W⟩=>⟨A,Dt.c6.wf d I,Dt.bG.wf P (j+1) l W⟩
end
section
variable{K:TypeId->List Kd}{P:List Kd}
theorem Dt.jx.get:∀{l:List Dt}{j i:Nat}{d:Dt},Dt.jx K P j l->l[i]? =some d->(∃k,P[(j+i)%P.length]? =some k/\k.fits d)/\d.wf K
 | [],_,_,_,_,h=>by simp at h
 |x::l,j,0,d,⟨A,I,W⟩,h=>by grind
 |x::l,j,i+1,d,⟨A,I,W⟩,h=>by
  have:=W.get (i:=i) (d:=d) (by simpa using h)
  rwa [show j+1+i=j+(i+1) by omega]at this
theorem Dt.jx.mk:∀{l:List Dt}{j:Nat},(∀(i:Nat)d,l[i]? =some d->(∃k,P[(j+i)%P.length]? =some k/\k.fits d)/\d.wf K)->Dt.jx K P j l
 | [],_,_=>trivial
 |d::l,j,h=>⟨(h 0 d rfl).1,(h 0 d rfl).2,Dt.jx.mk λi d' V=>by
   have:=h (i+1) d' (by simpa using V)
   rwa [show j+(i+1)=j+1+i by omega]at this⟩
theorem Dt.jx.take {l:List Dt} {j:Nat} (n:Nat) (h:Dt.jx K P j l):Dt.jx K P j (l.take n):=.mk λi d V=>by
 rw[qk]at V;split at V
 .exact h.get V
 .cases V
theorem Dt.jx.append {l m:List Dt} {j:Nat} (h:Dt.jx K P j l) (a:∀(i:Nat)d,m[i]? =some d->(∃k,P[(j+l.length+i)%P.length]? =some k/\k.fits d)/\d.wf K):Dt.jx K P j (l++m):=.mk λi d V=>by
 rw[lE]at V;split at V
 .exact h.get V
 .next b=>
  have:=a (i-l.length) d V
  rwa [show j+l.length+(i-l.length)=j+i by omega]at this
end
def oA(K:TypeId->List Kd)(T:TypeId)(a:Option Addr)(k g:Nat)(ss:List Dt):Prop:=ss.length=k*(K T).length/\Dt.jx K (K T) 0 ss/\(k≠0->g=(K T).length/\∃b,a=some b)
theorem IX{K:TypeId->List Kd}{T:TypeId}{d:Dt}(e:Kd.fits (.sl T) d)(f:d.wf K):∃a n c g J,d=.sl (.slice a n c) T g J/\oA K T a n g J:=by
 obtain⟨a,n,c,g,J,rfl⟩:=e;rcases f with⟨A,rfl⟩|⟨b,⟨a',i,c',A,I⟩,W⟩
 .injection A with e1 e2 e3;subst e2;exact⟨_,_,_,_,_,rfl,by simp,dB,λh=>absurd rfl h⟩
 .injection A with e1 e2 e3;subst e2;exact⟨_,_,_,_,_,rfl,by rw[I,b],W,λ_=>⟨b,a',e1⟩⟩
theorem Cf{l:List Dt}{a b:Nat}(h:a<=b):ca (l.take a)<=ca (l.take b):=by have:=Ce (l.take b) a;rw[List.take_take,vl h]at this;omega
theorem xS{l:List Dt}{n:Nat}(h:n*4+4<=l.length):∃a b c d,l[n*4]? =some a/\l[n*4+1]? =some b/\l[n*4+2]? =some c/\l[n*4+3]? =some d/\l.take ((n+1)*4)=l.take (n*4)++[a,b,c,d]:=by refine⟨l[n*4],l[n*4+1],l[n*4+2],l[n*4+3],dw _,dw _,dw _,dw _,?_⟩;rw[show(n+1)*4=n*4+1+1+1+1 by omega];rw[tO,tO,tO,tO];rw[dw (show n*4<l.length by omega),dw (show n*4+1<l.length by omega),dw (show n*4+1+1<l.length by omega),dw (show n*4+1+1+1<l.length by omega)];simp only[Option.toList_some,jI,jG,ij]
def Nd(K:TypeId->List Kd):List TypeId->List Dt->Prop
 | [],l=>l=[]
 |t::ts,l=>∃a b,l=a++b/\a.length=(K t).length/\Dt.jx K (K t) 0 a/\Nd K ts b
theorem ZK{C:Ctx}{w:World}{F:Nat->Prop}{P:List Kd}{ds:List Dt}(h:uK C w F P ds):Dt.jx (aq C) P 0 ds:=.mk λi d V=>by
 obtain⟨k,A,I,W⟩:=xg h V;have a:i<P.length:=(jK.1 A).1;rw[du,jH a];exact⟨⟨k,A,I⟩,Dt.c6.wf d W⟩
def JM(K:TypeId->List Kd)(ts:List TypeId)(N:Nat)(l:List Dt):Prop:=Nd K ts l/\ca l<=N
end Go.Proofs.YtokipodjggomfaaGreatDoor.Abs
namespace Go.Proofs.YtokipodjggomfaaGreatDoor.Abs
open Go Go.ChangeShapes
def Eu:List Kd->Nat->List AV
 | []=>λ_=>[]
 |k::l=>λi=>.bS k (.var i)::Eu l (Nat.add i 1)
def Xb(C:Ctx)(t:TypeId)(i:Nat):AV:=
 match C.P.underlying t with
 |none=>.junk
 |some d=>match d with
  | .struct _=>.agg (Eu (aq C t) i)
  |_=>match Eu (aq C t) i with
   | []=>.junk
   |v::l=>match l with
    | []=>v
    |_::_=>.junk
def Ie(C:Ctx):List TypeId->Nat->List AV
 | []=>λ_=>[]
 |t::ts=>λi=>Xb C t i::Ie C ts (Nat.add i (aq C t).length)
def Xa(C:Ctx):List TypeId->Nat
 | []=>0
 |t::ts=>Nat.add (aq C t).length (Xa C ts)
section
variable{H:Type}{qf:TypeId×Value->H}{C:Ctx}{w:World}{spare:Nat->Bool}{held:Bool}{L:List TypeId}
theorem CX{E:G}{F:Nat->Prop}:∀{P:List Kd}{ds:List Dt}{i:Nat},uK C w F P ds->(∀(j:Nat)x,ds[j]? =some x->aj E (.var (i+j))=some x)->ax E (Eu P i)=some (ds.map Dt.v)
 | [],[],_,_,_=>rfl
 |k::P,d::ds,i,h,a=>by
  refine av.2 ⟨d.v,ds.map Dt.v,dn (a 0 d rfl) h.1 rfl,CX (i:=i+1) h.2.2 λj x Y=>?_,rfl⟩;have:=a (j+1) x (by simpa using Y)
  rwa [show i+(j+1)=i+1+j by omega]at this
 | [],_::_,_,h,_=>h.elim
 |_::_,[],_,h,_=>h.elim
theorem JU{P:Program}{w:World}{r:Reach}{base:Nat}{u:TypeId}{v:Value}(h:Cell.okWide P w r base u v):zB v=true:=by
 unfold Cell.okWide at h;split at h<;>first|rfl|skip
 unfold Cell.ok at h;split at h<;>first|rfl|exact h.elim
theorem SC{v:Value}(h:zB v=true):v.cells.toList=[v]:=by cases v<;>first|rfl|cases h
theorem W9(s:∀t∈L,Lv C L t=true){t:TypeId}(u:t∈L){v:Value}{d:DataW H}{p:List MemPlace}(h:DataW.Trod qf C.P w 0 spare held t v d p){r:Reach}{base:Nat}(g:Value.okWide C.P w r base t v):
  ∃ds:List Dt,uK C w (λk=>k<w.heap.size) (aq C t) ds/\ca ds<=u0 d/\∀(E:G)i,(∀(j:Nat)x,ds[j]? =some x->aj E (.var (i+j))=some x)->ag E (Xb C t i)=some v:=by
 obtain⟨fuel,z⟩:=h;obtain⟨ds,A,I,W⟩:=HS s fuel t _ _ u z;refine⟨ds,I,W,λE i B=>?_⟩;have m:=CX I B;have c:=s t u;unfold Lv at c;unfold Xb;cases o:C.P.underlying t with
 |none=>rw[o]at c;cases c
 |some q=>
  rw[o]at c;have single:∀k,kR (aq C t) [k]=true->Cell.okWide C.P w r base t v->ag E (match Eu (aq C t) i with| []=>.junk|v::l=>match l with| []=>v|_::_=>.junk)=some v:=by intro k Z D;rw[dF Z]at m ⊢;rw[A,SC (JU D)]at m;obtain⟨a,b,g1,g2,g3⟩:=av.1 m;injection g3 with g3 g4;rw[g3];exact g1
  have f:(∀y,q≠.struct y)->(∀n e,q≠.array n e)->Cell.okWide C.P w r base t v:=by intro F J;unfold Value.okWide at g;rw[o]at g;cases q<;>first|exact absurd rfl (F _)|exact absurd rfl (J _ _)|exact g
  cases q<;>first|(cases c;done)|skip
  case bool=>exact single _ c (f (λ_ h=>by cases h) (λ_ _ h=>by cases h))
  case int k=>exact single _ c (f (λ_ h=>by cases h) (λ_ _ h=>by cases h))
  case string=>exact single _ c (f (λ_ h=>by cases h) (λ_ _ h=>by cases h))
  case slice e=>
   simp only[aw]at c;exact single _ c.1 (f (λ_ h=>by cases h) (λ_ _ h=>by cases h))
  case struct y=>
   unfold Value.okWide at g;rw[o]at g;obtain⟨cs,rfl, -, -⟩:=g;rw[A]at m;show(ax E (Eu (aq C t) i)).map _=_;rw[m];rfl
theorem E4(l:∀t∈L,Lv C L t=true){r:Reach}{base:Nat}:∀{ts:List TypeId}{vs:List Value}{ds:List (DataW H)}{ps:List MemPlace},(∀t∈ts,t∈L)->DataW.TrodAll qf C.P w 0 spare held ts vs ds ps->
  (∀(j:Nat)t v,ts[j]? =some t->vs[j]? =some v->Value.okWide C.P w r base t v)->
  ∃c:List Dt,(∀d∈c,d.c6 C w λk=>k<w.heap.size)/\c.length=Xa C ts/\(Nd (aq C) ts c/\ca c<=fH ds)/\∀(E:G)i,(∀(j:Nat)x,c[j]? =some x->aj E (.var (i+j))=some x)->ax E (Ie C ts i)=some vs
 | [],vs,ds,ps,_,h,_=>by
   obtain⟨rfl,rfl,rfl⟩:=trodAll_nil h;exact⟨[],(λd n=>by cases n),rfl,⟨rfl,by simp[ca,fH]⟩,λ_ _ _=>rfl⟩
 |t::ts,vs,ds,ps,e,h,f=>by
  obtain⟨v,g,d,o,p,q,rfl,rfl,rfl,A,I⟩:=trodAll_cons h;obtain⟨J,e1,e2,e3⟩:=W9 l (e t aV) A (f 0 t v rfl rfl);obtain⟨c,g1,g2,g3,g4⟩:=E4 l (λu s=>e u (bk _ s)) I λj u y a b=>f (j+1) u y (by simpa using a) (by simpa using b)
  refine⟨J++c,λx Y=>?_,?_,?_,λE i m=>?_⟩
  .rcases iR.1 Y with Y|Y
   .obtain⟨j,z⟩:=zW Y;obtain⟨_,_,_,h⟩:=xg e1 z;exact h
   .exact g1 x Y
  .rw[bL,kf e1,g2];rfl
  .exact⟨⟨J,c,rfl,kf e1,ZK e1,g3.1⟩,by rw[dA];have:=g3.2;simp only[fH];omega⟩
  .refine av.2 ⟨v,g,e3 E i λj x Y=>m j x ?_,g4 E (i+(aq C t).length) λj x Y=>?_,rfl⟩
   .grind
   .have:=m (J.length+j) x (by rw[A4 (by omega)];simpa using Y)
    rwa [kf e1,<-ig]at this
end
def Is(n:Nat)(V:Nat->Option Value)(L:List Dt):G:=λid=>if id<n then some ⟨id,0,1,(V id).map .val⟩else if id<n+L.length then some ⟨0,0,0,L[id-n]?⟩else none
theorem SZ{n:Nat}{V:Nat->Option Value}{L:List Dt}{j:Nat}{x:Dt}(h:L[j]? =some x):aj (Is n V L) (.var (n+j))=some x:=by grind[aj,Is]
theorem LW{C:Ctx}{w:World}{s:S}{V:Nat->Option Value}{L:List Dt}(q:C.nG+L.length<=s.next)(e:∀f∈s.pc,f.pos=true/\f.holds (Is C.nG V L))(c:∀g v,V g=some v->zB v=true)
  (j:∀d∈L,d.c6 C w λk=>k<w.heap.size)
  (h:∀g b,s.h.get g=some b->g<C.nG/\dm b=true/\∃o,w.heap[g]? =some o/\cw C (Is C.nG V L) ⟨g,0,1,(V g).map .val⟩ b o):Rel C 0 (Is C.nG V L) s w:=by
 have at':∀g,g<C.nG->Is C.nG V L g=some ⟨g,0,1,(V g).map .val⟩:=λg i=>by simp[Is,i]
 have a:∀k,¬Live (Is C.nG V L) s k:=by rintro k ⟨id,b,l,A,I, -, -⟩;rw[(h id b A).2.1]at I;cases I
 refine⟨(λid b r=>?_),(λid u b N l O A I W D m t=>?_),(λid n=>?_),(λg i=>⟨_,at' g i,rfl,rfl⟩),(λid b l A _ _=>(h id b A).2.1),j0 _,e,λid l d A I=>?_⟩
 .grind
 .grind
 .grind[Is]
 .unfold Is at A;split at A
  .obtain rfl:=ae A;obtain⟨v,p,rfl⟩:=aN.1 I;exact c id v p
  .split at A
   .obtain rfl:=ae A;exact Dt.c6.stays (λk Z=>⟨⟨Z,a k,λh=>h⟩,rfl⟩) d (j d (vy I))
   .cases A
def N2:Nat->Nat->List SE
 |0=>λ_=>[]
 |n+1=>λi=>.var i::N2 n (Nat.add i 1)
theorem I4{E:G}:∀{L:List Dt}{i:Nat},(∀(j:Nat)x,L[j]? =some x->aj E (.var (i+j))=some x)->gZ E (N2 L.length i)=some L
 | [],_,_=>rfl
 |d::L,i,h=>by
  have a:=h 0 d rfl;have b:=I4 (L:=L) (i:=i+1) λj x Y=>by
   have:=h (j+1) x (by simpa using Y)
   rwa [show i+(j+1)=i+1+j by omega]at this
  show((aj E (.var i)).bind λd=>(gZ E (N2 L.length (i+1))).map λr=>d::r)=_;rw[show aj E (.var i)=some d from a,b];rfl
def QP(C:Ctx)(ts:List TypeId)(N:Nat):Fact:=.rel "args" false (JM (aq C) ts N) (N2 (Xa C ts) C.nG)
def QO(P:Program)(ts:List TypeId):Bool:=ts.all λt=>P.readableRec t&&decide (t<P.types.size)
theorem E3{H:Type}{qf:TypeId×Value->H}{P:Program}(j:laidOutB P=true){W a:World}(Z:W.keptBut a (λ_=>False)){k:Nat->Bool}:∀{ts:List TypeId}{vs:List Value}{ds:List (DataW H)}{ps:List MemPlace},
  QO P ts=true->DataW.TrodAll qf P W 0 (λ_=>true) true ts vs ds ps->(∀p∈ps,p.block<W.heap.size)->(∀p∈ps,k p.block=true)->DataW.TrodAll qf P a 0 k true ts vs ds ps
 | [],vs,ds,ps,_,h,_,_=>by
   obtain⟨rfl,rfl,rfl⟩:=trodAll_nil h;exact rfl
 |t::ts,vs,ds,ps,l,h,c,m=>by
  obtain⟨v,s,d,u,p,q,rfl,rfl,rfl,⟨n,w⟩,I⟩:=trodAll_cons h;simp only[QO,List.all_cons,aw,nc]at l;obtain⟨⟨o,e⟩,g⟩:=l;refine⟨p,q,⟨n,DataW.trod_stays (kids_book j o) (book_sized o) (λh=>by cases h) ⟨e,book_self t⟩ w (λx Y=>?_) (λx Y=>m x (xL _ Y))⟩,
   E3 j Z g I (λx Y=>c x (zY _ Y)) (λx Y=>m x (zY _ Y)),rfl⟩
  have r:a.heap[x.block]? =W.heap[x.block]? :=Z.block (c x (xL _ Y)) (λ_ f=>f.elim);cases x with
  |cell b off=>show a.cell? ⟨b,off,none⟩=W.cell? ⟨b,off,none⟩;have i:a.heap[b]? =W.heap[b]? :=r;simp only[World.cell?,i]
  |map b=>exact r
theorem Za{P:Program}{ts:List TypeId}(h:(ts.all λt=> !P.wantsStandIn t)=true)(j:Nat)(t:TypeId)(a:ts[j]? =some t):P.wantsStandIn t=false:=by grind
end Go.Proofs.YtokipodjggomfaaGreatDoor.Abs
