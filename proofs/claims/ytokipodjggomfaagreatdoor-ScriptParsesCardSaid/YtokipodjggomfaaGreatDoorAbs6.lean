/- Part 6 of an abstract machine that evaluates programs of the model in the kernel, and of the proofs that its run is the model's. Conditions: those of each theorem. -/
import Derived.Test.YtokipodjggomfaaGreatDoorAbs5
import Derived.Orders
noncomputable section
set_option linter.unusedVariables false
set_option linter.unusedSimpArgs false
namespace Go.Proofs.YtokipodjggomfaaGreatDoor.Abs
open Go
section
variable{C:Ctx}{base:Nat}{E:G}{s:S}{w:World}{fi:FI}{ro:Option Nat}{t:Tr AV}{todo:List bH}{tm:Array Value}{items:List Item}{ds:List gO}{bz:List Deferred}{cs:List Frame}
theorem PA{f:Fact}{H:Nat->SE}:∀{l:List Fact},f∈l->f.sub H∈Fact.k9 H l
 | [],h=>by cases h
 |g::l,h=>by
  cases h with
  |head=>exact aV
  |tail _ h=>exact bk _ (PA h)
theorem KA{E:G}{H:Nat->SE}{pc:List Fact}(b:∀f∈pc,f.holds E):∀{l:List Fact},tn H pc l=true->(∀f∈l,(f.sub H).holds E)->False
 | [],h,_=>by cases h
 |f::l,h,d=>by
  have rest:=λ(g:tn H pc l=true)=>KA b g (λf i=>d f (bk _ i))
  have a:=d f aV;cases f with
  |tr e=>
   simp only[tn]at h;cases c:yH false (SE.sub H e) pc with
   |false=>rw[c]at h;exact rest h
   |true=>have A:=oR b c;have a:aj E (SE.sub H e)=some (.val (.bool true)):=a;rw[A]at a;cases a
  |fl e=>
   simp only[tn]at h;cases c:yH true (SE.sub H e) pc with
   |false=>rw[c]at h;exact rest h
   |true=>have A:=oR b c;have a:aj E (SE.sub H e)=some (.val (.bool false)):=a;rw[A]at a;cases a
  |inr _ _=>exact rest h
  |rel _ _ _ _=>exact rest h
theorem Ep(hC:Good C){c:bp}{m0:Machine}(z:c.fn=fi.fn){no:R Out}{Q:Out->Prop}(hno:no.path Q)(h:gN C base E fi ro t todo ds .run none s tm items bz .run cs w)
  (a6m:fi.kind=.normal->∀B,gN (gk C.P (λ_=>false) []) base B (c.fi bz) ro c.tr c.todo [] .run none c.S tm items bz .run cs w->Ip C.P c base B m0 bz cs w)
  (hQ:∀o,cD C base E s w fi cs m0 o->Q o):(WO C c no fi t todo ds s).path Q:=by
 obtain⟨hT,hG⟩:=Kt hC;have hP:C.P=(gk C.P (λ_=>false) []).P:=rfl;have hR:=h.rel;unfold WO;obtain⟨_,rl,sl⟩:=EA s.h c.pre (RY c.t t (.nil,[],[]));simp only;cases Z:WI C c fi t todo s rl (cU C.nG c.n s.next rl) (dT C.nG c.n sl)with
 |false=>exact hno
 |true=>
  refine R.aE hQ ?_;simp only[WI,aw]at Z;obtain⟨⟨hnt,L,p⟩,htm,D,T,hnd,htg,a6g,hnG⟩:=Z;have hnt:=ct _ _ hnt;have N:fi.kind=.normal:=by cases hq:fi.kind<;>rw[hq]at L<;>first|rfl|cases L
  have D:=qZ Kj D;have rr:=Uu hR (n:=c.n) (rl:=rl) (sl:=sl);refine R.pb _ (jf (E:=E) (λf hf=>(hR.pc f hf).2) c.facts) λ_ hf=>?_
  have VP:=YD hR T hnd htg hnG hf;have hro:mX (Ds E c.n (cU C.nG c.n s.next rl) (dT C.nG c.n sl)) c.round ro/\(c.round=none↔fi.roundOf=none):=by
   have h0:=h.ro;cases K:c.round with
   |none=>
    cases q:fi.roundOf with
    |none=>
     rw[q]at h0;cases ro with
     |none=>exact⟨dB,by simp⟩
     |some _=>exact h0.elim
    |some j=>rw[K,q]at p;cases p
   |some i=>
    cases q:fi.roundOf with
    |none=>rw[K,q]at p;cases p
    |some j=>
     rw[K,q]at p;have e:=ct _ _ p;rw[q]at h0;cases ro with
     |none=>exact h0.elim
     |some b=>obtain⟨F,A,I⟩:=h0;obtain⟨O,W,X, -⟩:=rr.ay i F rfl (by rw[e];exact A);exact⟨⟨O,W,by rw[X];exact I⟩,by simp⟩
  have a74:gN C base (Ds E c.n (cU C.nG c.n s.next rl) (dT C.nG c.n sl)) (c.fi bz) ro c.tr c.todo [] .run none c.S tm items bz .run cs w:=by
   refine⟨VP,hro.1,?_,λ_=>?_,rfl,rfl,rfl,by show∃fn,C.P.funcs[c.fn]? =some fn;rw[z];exact h.fn,λ_ _=>rfl⟩
   .have ht:aD E c.nt t tm:=by rw[<-hnt];exact h.tmps
    exact rr.tmps (uc _) (vK htm ht)
   .have V:=h.todo rfl;rw[D]at V;exact EK (λi l hl=>by obtain⟨O,W,X, -⟩:=rr.ay i l rfl hl;exact⟨O,W,X⟩) V
  obtain⟨o,ho,XD,s1,M,θ,ν,cv,hst,hθ,a7O,a6f,Zz,hν,a77,hcv,g⟩:=a6m N _ (a74.over hP hT hG);have hst:=hst.ctx hP.symm hT.symm hG.symm;obtain⟨i,V⟩:=zW ho;have Kr:i<c.outs.length:=by grind
  refine⟨i,Kr,?_⟩;unfold WL;rw[qU,V];simp only;have hok:=B0 a6g o ho;obtain⟨B,k,rr2⟩:=Ub hR T htg hok hst hθ a7O
   (λx Y=>by
     obtain⟨b1,l1,g1,g2,g3,g4⟩:=a6f x Y;exact⟨b1,l1,g1,g2,g3,λob hob=>(g4 ob (hob.ctx hP hT)).ctx hP.symm hT.symm⟩) Zz hν a77
  have a6o:tn (vS c.n s.next o.m (dT C.nG c.n sl)) s.pc o.facts=false:=by
   cases hdd:tn (vS c.n s.next o.m (dT C.nG c.n sl)) s.pc o.facts with
   |false=>rfl
   |true=>exact(KA (E:=B) (λf hf=>(k.rel.pc f (zY _ hf)).2) hdd (λf hf=>(k.rel.pc _ (xL _ (PA hf))).2)).elim
  rw[a6o];simp only;have H:ag B (o.res.sub (vX c.n s.next (cU C.nG c.n s.next rl)) (vS c.n s.next o.m (dT C.nG c.n sl)))=some cv:=by simp only[JN,aw]at hok;exact rr2.ag _ _ hok.1 hcv
  have J:eu B fi.kind none cs:=by rw[N];rfl
  have y:bN fi.kind cs cs:=bN.refl (E:=E) h.ctx;have G:cN fi.tl B ds=some bz:=b7 k.grow h.defs;cases Sk:o.eH with
  |true=>
   rw[Sk]at g;obtain⟨r,W,X,k3,k4⟩:=g;cases ds with
   |cons d ds=>trivial
   |nil=>obtain rfl:fi.tl=bz:=ae (show some fi.tl=some bz from G);refine⟨B,M,cs,k,J,y,[{ v:=cv,recovered:=false }],?_,r,W,by rw[show r.fn=c.fn from X,z],k3,k4⟩;show(match iA B _,fa B []with|some a,some b=>some (a::b)|_,_=>none)=_;unfold iA;simp only[H,bX];rfl
  |false=>
  rw[Sk]at g;have g:K9 C (c.fi bz) cs m0 M cv:=g;simp only;cases u:Pb C fi ds with
  |false=>trivial
  |true=>
   simp only;cases q:fi.roundOf with
   |some l=>
    cases ds with
    |cons d ds=>unfold Pb at u;rw[q]at u;cases u
    |nil=>
     refine⟨B,M,cs,k,J,y,cv,H,?_⟩;rw[q];unfold K9 at g;cases K:c.round with
     |none=>rw[hro.2.1 K]at q;cases q
     |some i'=>rw[show(c.fi bz).roundOf=some i' from K]at g;exact g
   |none=>
    unfold K9 at g;rw[show(c.fi bz).roundOf=none from hro.2.2 q]at g;obtain⟨r,W,X,k3,k4,k5,fn,k6,k7⟩:=g;have k6':C.P.funcs[c.fn]? =some fn:=k6;cases ds with
    |nil=>obtain rfl:fi.tl=bz:=ae (show some fi.tl=some bz from G);refine⟨B,M,cs,k,J,y,cv,H,?_⟩;rw[q];exact⟨r,W,by rw[show r.fn=c.fn from X,z],by rw[show r.kind=.normal from k3,N],k4,k5,fn,by rw[<-z];exact k6',k7⟩
    |cons d ds=>
     refine R.pb _ (En (cs:=cs) k.rel G r k4 k5) λU hs'=>?_
     obtain⟨w2,g1,g2⟩:=hs';refine⟨B,w2,cs,k.trans g1,J,y,cv,H,?_⟩;rw[q];refine⟨{ r with defers:=fi.tl },W.trans g2,by rw[show r.fn=c.fn from X,z],by rw[show r.kind=.normal from k3,N],k4,rfl,fn,by rw[<-z];exact k6',?_⟩;unfold Pb at u;rw[q]at u;simp only at u;cases hF:C.F.get fi.fn with
     |none=>rw[hF]at u;cases u
     |some fn2=>rw[hF]at u;have A:=xf hC hF;rw[<-z,k6']at A;obtain rfl:=ae A;exact results_none (aL u) k7
theorem RA(g:Good C){c:bp}(i:c∈C.K)(a:c.fn=fi.fn){no:R Out}{Q:Out->Prop}(b:no.path Q)(h:gN C base E fi ro t todo ds .run none s tm items bz .run cs w)
  (j:∀o,cD C base E s w fi cs (lone (aC fi ro tm items bz .run) cs w) o->Q o):(WO C c no fi t todo ds s).path Q:=
 Ep g a b h (λd B e=>by
  have:=g.con c i base B ro bz tm items cs w e;have f:aC (c.fi bz) ro tm items bz .run=aC fi ro tm items bz .run:=by unfold aC bp.fi;rw[a,d]
  rw[f]at this;exact this) j
theorem Mb(j:Good C){c:bp}(k:c∈C.K)(e:c.fn=fi.fn){no:R Out}{Q:Out->Prop}(f:no.path Q)(h:gN C base E fi ro t todo ds .run none s tm items bz .run cs w)
  (l:∀o,cD C base E s w fi cs (lone (aC fi ro tm items bz .run) cs w) o->Q o):(WR C c no fi t todo ds s).path Q:=by
 unfold WR;obtain⟨m,A,b⟩:=xv (C:=C) c.t h.rel h.tmps;revert A b;obtain⟨t1,s1⟩:=coT C c.t t s;intro A b;simp only at A b ⊢;generalize a6C s1.h c t1=rl;obtain⟨d,I⟩:=EX rl c.pre A.rel;have a:=A.trans I;have g:mX d fi.roundOf ro:=h.ro.grow a.grow;have i:gN C base d fi ro t1 todo ds .run none (a0f C rl c.pre s1) tm items bz .run cs w:=by refine⟨a.rel,g,b.grow I.grow,λ_=>?_,b7 a.grow h.defs,rfl,h.ctx.grow a.grow,h.fn,h.rk⟩;exact kj a.grow (h.todo rfl)
 exact RA j k e f i λo ho=>l o (cD.of_steps a (oF _ _) (bN.refl (E:=E) h.ctx) ho)
theorem RB(g:Good C){c:bp}(i:c∈C.K)(a:c.fn=fi.fn){no:R Out}(b:no.path (cD C base E s w fi cs (lone (aC fi ro tm items bz .run) cs w)))(h:gN C base E fi ro t todo ds .run none s tm items bz .run cs w):
  (a36 C c no fi t todo ds s).path (cD C base E s w fi cs (lone (aC fi ro tm items bz .run) cs w)):=by
 unfold a36;refine R.pb _ (sf (C:=C) c.t h.rel h.tmps) λr⟨d,A,e⟩=>?_
 have f:gN C base d fi ro r.1 todo ds .run none r.2 tm items bz .run cs w:=
  ⟨A.rel,h.ro.grow A.grow,e,λ_=>kj A.grow (h.todo rfl),b7 A.grow h.defs,rfl,h.ctx.grow A.grow,h.fn,h.rk⟩
 exact Mb g i a b f λo ho=>cD.of_steps A (oF _ _) (bN.refl (E:=E) h.ctx) ho
theorem yU(e:Good C){rec:Rec}(a:ep C base rec)(h:gN C base E fi ro t todo ds .run none s tm items bz .run cs w):∀{l:List bp},(∀c∈l,c∈C.K)->
  (C0 C rec fi t todo ds s l).path (cD C base E s w fi cs (lone (aC fi ro tm items bz .run) cs w))
 | [],_=>a E fi ro t todo ds .run none s tm items bz .run cs w h
 |c::l,f=>by
  have g:=yU e a h (l:=l) λx Y=>f x (bk _ Y)
  unfold C0;cases b:MQ s.h c fi.fn t todo with
  |false=>exact g
  |true=>
   have d:c.fn=fi.fn:=by
    unfold MQ at b;cases i:Nat.beq c.fn fi.fn with
    |true=>exact aL i
    |false=>rw[i]at b;cases b
   exact RB e (f c aV) d g h
theorem Em(b:Good C){rec:Rec}(a:ep C base rec){ctx:Option (List PE)}(h:gN C base E fi ro t todo ds .run ctx s tm items bz .run cs w):
  (UH C rec fi t todo ds ctx s).path (cD C base E s w fi cs (lone (aC fi ro tm items bz .run) cs w)):=by
 unfold UH;cases c:C.K with
 |nil=>exact a E fi ro t todo ds .run ctx s tm items bz .run cs w h
 |cons c0 l=>
  simp only;rw[<-c];cases ctx with
  |none=>exact yU b a h λ_ h=>h
  |some _=>exact a E fi ro t todo ds .run (some _) s tm items bz .run cs w h
end
end Go.Proofs.YtokipodjggomfaaGreatDoor.Abs
namespace Go.Proofs.YtokipodjggomfaaGreatDoor.Abs
open Go
section
variable{C:Ctx}{base:Nat}{E:G}{s:S}{w:World}
theorem CQ{args:List AV}{a:List Value}(h:ax E args=some a){n:Nat}(j:args.length<=n):
  aD E n (Tr.ofList args) ((⟨a⟩:Array Value)++Array.replicate (n-a.length) undef):=by
 have k:=ba h;refine⟨by simp;omega,?_,?_⟩
 .intro d v b;rw[Tr.dG]at b;obtain⟨c,f,g⟩:=jT d v h b;have e:d<a.length:=by grind
  refine⟨by omega,c,?_,.inr f⟩;rw[xO (by simpa using e)];simpa using g
 .intro d b;rw[Tr.dG]at b;have i:args.length<=d:=by grind
  rw[kD,Array.getElem?_append_right (by simp;omega)];rw[Array.getElem?_replicate];split<;>rfl
theorem qQ(m:Good C){rec:Rec}(e:ep C base rec)(p:Rel C base E s w)(f:FuncId){args:List AV}{a:List Value}(b:ax E args=some a)
  (kind:CallKind) {ctx:Option (List PE)} {cs:List Frame} (g:eu E kind ctx cs):
  (pC C rec f args kind ctx s).path (λo=>(∃fn,C.P.funcs[f]? =some fn)/\∃n,cD C base E s w ⟨f,n,kind,none,[]⟩ cs (lone (Frame.enter C.P f ⟨a⟩ kind) cs w) o):=by
 unfold pC;cases q:C.F.get f with
 |none=>trivial
 |some fn=>
  have d:=xf m q;cases j:fn.body with
  |none=>simp only[j];trivial
  |some c=>
   simp only[j];cases k:Nat.ble args.length fn.ntmps with
   |false=>trivial
   |true=>
    have i:args.length<=fn.ntmps:=bn k;have r:=CQ b i;have l:Frame.enter C.P f ⟨a⟩ kind=aC ⟨f,fn.ntmps,kind,none,[]⟩ none ((⟨a⟩:Array Value)++Array.replicate (fn.ntmps-a.length) undef) [.code c] [] .run:=by simp[Frame.enter,aC,d,j]
    rw[l];refine R.aE ?_ (Em m e (fi:=⟨f,fn.ntmps,kind,none,[]⟩) (ro:=none) (t:=Tr.ofList args) (todo:=[.code c]) (ds:=[]) (items:=[.code c]) (bz:=[]) (cs:=cs)
     ⟨p,dB,r,λ_=>rfl,rfl,rfl,g,⟨fn,d⟩,λ_ h=>by cases h⟩)
    intro o ho;exact⟨⟨fn,d⟩,_,ho⟩
theorem OQ:∀(a b:List UInt8),preB a b=a.isPrefixOf b
 | [],b=>by cases b<;>rfl
 |a::l,[]=>rfl
 |a::l,b::m=>by
  show(match Nat.beq a.toNat b.toNat with|true=>preB l m|false=>false)=_;have e:Nat.beq a.toNat b.toNat=(a==b):=by rw[vm];simp[fX]
  rw[e];show _=(a==b&&l.isPrefixOf m);cases a==b
  .rfl
  .simp[OQ l m]
theorem EL(sub:List UInt8):∀(l:List UInt8)(k:Nat),Hm sub l k=if Go.Lib.index l sub== -1 then -1 else(k:Int)+Go.Lib.index l sub
 | [],k=>by
   cases sub with
   |nil=>show Int.ofNat k=_;simp[Go.Lib.index]
   |cons a m=>show(-1:Int)=_;simp[Go.Lib.index]
 |b::l,k=>by
  show(match preB sub (b::l)with|true=>Int.ofNat k|false=>Hm sub l (k+1))=_;rw[OQ];unfold Go.Lib.index;cases d:sub.isPrefixOf (b::l)with
  |true=>simp
  |false=>
   simp only[dY,aQ];rw[EL sub l (k+1)];have c:=Go.Lib.index_ge l sub;by_cases h:Go.Lib.index l sub= -1
   .simp[h]
   .grind
theorem JA(U:Good C)(H:Rel C base E s w)(f:FuncId)(g:Nat)(W:rp f C.X=some (.index g)){args:List AV}{j:List Value}(t:ax E args=some j){cs:List Frame}:
  (MS C s g args).path (λo=>(∃fn,C.P.funcs[f]? =some fn)/\∃n,cD C base E s w ⟨f,n,.normal,none,[]⟩ cs (lone (Frame.enter C.P f ⟨j⟩ .normal) cs w) o):=by
 unfold MS;split
 case h_2=>trivial
 rename_i x y;obtain⟨Y,cl,J,A,rfl⟩:=av.1 t;obtain⟨Z,cl2,K,I,rfl⟩:=av.1 A;simp only[ax,ar]at I;subst I;refine R.bh _ (o4 x Y J) λa ha=>?_
 refine R.bh _ (o4 y Z K) λb hb=>?_
 subst ha;subst hb;cases hg:s.h.get g with
 |none=>trivial
 |some ay=>
  cases ay with
  |cells elem cc n fz fh st sg=>
   simp only;cases hv:cc.get 0 with
   |none=>trivial
   |some v=>
    cases v with
    |bS k i=>
     refine R.bh _ (R.aI _ _) λ_ z=>?_
     simp only[aw,vc,rG]at z;obtain⟨⟨⟨L,N⟩,hn⟩,B⟩:=z;obtain rfl:=iH L;obtain⟨l,o,hl,ho,D⟩:=H.ay g _ hg;obtain⟨O,F,hb0,hd0⟩:=H.eM g N;rw[hl]at F;obtain rfl:=ae F;obtain⟨vs,lo,V,rfl, -,p, -⟩:=D;obtain⟨c,hc,Q⟩:=p 0 _ hn hv;have d:∃m,w.cell? ⟨g,0,none⟩=some (.int .i64 m):=by
      rcases Q with h|h
      .cases h
      .obtain⟨dd, -,⟨m,rfl⟩,rfl⟩:=c7 h;have d:w.cell? ⟨g,0,none⟩=some (Dt.val (.int .i64 m)).v:=by grind[World.cell?]
       exact⟨m,d⟩
     obtain⟨m,hm⟩:=d;obtain⟨⟨fn,S⟩,q⟩:=U.ext f (.index g) W;obtain⟨e,M,fr,⟨rfl,rfl⟩,u,G,r⟩:=q ⟨⟨a⟩⟩ ⟨⟨b⟩⟩ m w B hm cs;obtain⟨q1,q2,q3,T,q4,q5⟩:=r;refine⟨⟨fn,S⟩,0,E,M,cs,Step.refl H,rfl,bN.refl (E:=E) (ctx:=none) rfl,_,?_,fr,u,G,q3,q1,q2,T,by rw[<-G];exact q4,q5⟩;simp only[ag,ar,iS,fw];rw[EL];split
     .next h=>exact(eq_of_beq h).symm
     .simp
    |_=>trivial
  |_=>trivial
theorem Step.kept (a:Rel C base E s w) {M:World} (h:Kept w M):Step C base E s w E s M:=by
 have Z:∀k,k<w.heap.size->¬Live E s k->M.heap[k]? =w.heap[k]? :=λk Z _=>by rw[dR Z];exact h.stays k _ (dR Z)
 refine Step.of ⟨Grow.refl E,⟨λid b c=>?_,a.sep,a.new,a.eM,a.low,gn a.bs h.size,a.pc,a.YG h.size Z (λ_ _ h=>h) λid l d A I=>⟨id,l,A,I⟩⟩,⟨h.size,h.tape,h.os,h.output,λk o Z _=>h.stays k o Z⟩,λ_ h _=>h,aX _,λ_ _ h=>a.lt h,λ_ l h=>.inl ⟨l,h⟩,λ_ b h _=>⟨b,h⟩⟩;obtain⟨l,o,A,I,W⟩:=a.ay id b c;exact⟨l,o,A,h.stays _ _ I,W⟩
theorem uA{f:FuncId}{c:bp}:∀{l:List bp},Kb f l=some c->c∈l/\c.fn=f
 | [],h=>by cases h
 |x::l,h=>by
  unfold Kb at h;cases a:Nat.beq x.fn f with
  |true=>rw[a]at h;obtain rfl:=ae h;exact⟨aV,aL a⟩
  |false=>rw[a]at h;exact⟨bk _ (uA h).1,(uA h).2⟩
theorem Ry(t:Good C)(x:Rel C base E s w){c:bp}(y:c∈C.L){args:List AV}{a:List Value}(b:ax E args=some a){cs:List Frame}:
  (a2X C c args s).path (λo=>(∃fn,C.P.funcs[c.fn]? =some fn)/\∃n,cD C base E s w ⟨c.fn,n,.normal,none,[]⟩ cs (lone (Frame.enter C.P c.fn ⟨a⟩ .normal) cs w) o):=by
 obtain⟨k,d,l,f⟩:=t.lib c y;unfold a2X;cases p:iM args.length c.nt with
 |false=>trivial
 |true=>
  have p:=ct _ _ p;have h:a.length=c.nt:=by rw[ba b];exact p
  refine Ep (fi:=⟨c.fn,c.nt,.normal,none,[]⟩) (ro:=none) (tm:=⟨a⟩) (items:=[]) (bz:=[]) (m0:=lone (Frame.enter C.P c.fn ⟨a⟩ .normal) cs w) t rfl trivial ⟨x,dB,?_,λ_=>rfl,rfl,rfl,rfl,k,λ_ _=>rfl⟩ (λ_ B m=>?_) (λo ho=>⟨k,c.nt,ho⟩)
  .have u:=CQ (n:=c.nt) b (by omega);rw[h,Nat.sub_self]at u;simpa using u
  .obtain⟨e,M,v,⟨o,ho,q,s1,z,F,G,A,I,W,D,h5,h6,h7,H,rfl⟩,j,i,g⟩:=f base B a w m.rel m.tmps h cs;obtain⟨J,K,N,r,O,Q⟩:=g;refine⟨o,ho,q,s1,M,z,F,G,A,I,W,D,h5,h6,h7,H,?_⟩;rw[l o ho];show K9 _ _ _ _ _ _;unfold K9;rw[show(c.fi []).roundOf=none from d];exact⟨v,j,i,N,J,K,r,by rw[show(c.fi []).fn=v.fn from i.symm];exact O,Q⟩
theorem BP(d:Good C){rec:Rec}(c:ep C base rec)(h:Rel C base E s w)(f:FuncId){args:List AV}{a:List Value}(b:ax E args=some a){cs:List Frame}:
  (QI C rec f args s).path (λo=>(∃fn,C.P.funcs[f]? =some fn)/\∃n,cD C base E s w ⟨f,n,.normal,none,[]⟩ cs (lone (Frame.enter C.P f ⟨a⟩ .normal) cs w) o):=by
 have gen:=qQ d c h f b .normal (ctx:=none) (cs:=cs) rfl;unfold QI;cases i:rp f C.X with
 |none=>exact gen
 |some e=>
  cases e with
  |index g=>exact JA d h f g i b
  |_=>exact gen
theorem Mc(e:Good C){rec:Rec}(d:ep C base rec)(g:Rel C base E s w)(f:FuncId){args:List AV}{b:List Value}(a:ax E args=some b){cs:List Frame}:
  (WV C rec f args s).path (λo=>(∃fn,C.P.funcs[f]? =some fn)/\∃n,cD C base E s w ⟨f,n,.normal,none,[]⟩ cs (lone (Frame.enter C.P f ⟨b⟩ .normal) cs w) o):=by
 unfold WV;cases h:Kb f C.L with
 |some c=>
  simp only;cases AV.xY args with
  |true=>exact BP e d g f a
  |false=>obtain⟨A,I⟩:=uA h;have:=Ry e g A a (cs:=cs);rw[I]at this;exact this
 |none=>exact BP e d g f a
theorem BQ(d:Good C){rec:Rec}(c:ep C base rec)(e:Rel C base E s w)(f:FuncId){args:List AV}{a:List Value}(b:ax E args=some a){cs:List Frame}:
  (KR C rec f args s).path (λo=>(∃fn,C.P.funcs[f]? =some fn)/\∃n,cD C base E s w ⟨f,n,.normal,none,[]⟩ cs (lone (Frame.enter C.P f ⟨a⟩ .normal) cs w) o):=by
 exact Mc d c e f b
theorem je(i:Rel C base E s w)(l:Nat):
  (getLoop s l).path (λr=>∃st pe fn nt tmps params assign body d,r=(st,pe,fn,nt,tmps,params,assign,body,d)/\s.h.get l=some (.loop st pe fn nt tmps params assign body d)):=by
 unfold getLoop;cases h:s.h.get l with
 |none=>trivial
 |some b=>
  cases b with
  |loop a b c n d e f g k=>exact⟨_,_,_,_,_,_,_,_,_,rfl,rfl⟩
  |_=>trivial
theorem wv:∀(ps:List Tmp)(nt:Nat)(args:List AV)(c:List Value)(t:Tr AV)(tm:Array Value),ax E args=some c->aD E nt t tm->
  (setArgs nt ps args t).path (λQ=>ps.length=c.length/\aD E nt Q ((ps.zip c).foldl (λtmps(x:Tmp×Value)=>tmps.setIfInBounds x.1 x.2) tm))
 | [],nt,args,c,t,tm,d,e=>by
   cases args with
   |nil=>simp only[ax,ar]at d;subst d;exact⟨rfl,e⟩
   |cons _ _=>trivial
 |p::ps,nt,args,c,t,tm,d,e=>by
  cases args with
  |nil=>trivial
  |cons x xs=>obtain⟨a,b,A,I,rfl⟩:=av.1 d;refine R.aE ?_ (wv ps nt xs b (put nt t (some p) x) (lO tm (some p) a) I (e.put (some p) A));rintro Q ⟨W,D⟩;exact⟨by simp[W],D⟩
theorem Q0(ps:List Tmp)(cs:List Value)(tm:Array Value):((⟨ps⟩:Array Tmp).zip ⟨cs⟩).foldl (λtmps(x:Tmp×Value)=>match x with|(t,a)=>tmps.setIfInBounds t a) tm=
  (ps.zip cs).foldl (λtmps(x:Tmp×Value)=>tmps.setIfInBounds x.1 x.2) tm:=by
 simp
theorem Jx(p:Good C){rec:Rec}(e:ep C base rec)(h:Rel C base E s w)(l:Nat){args:List AV}{a:List Value}(c:ax E args=some a){F:Loc}(n:E l=some F)(cs:List Frame):
  (F4 C rec l args s).path (λo=>∃fi ro f tm assign body,fi.tl=[]/\fi.kind=.normal/\fi.roundOf=some l/\
    (Instr.yield F.ay ⟨a⟩).run C.P w=.ok (.round F.ay f tm assign body) w/\Frame.round F.ay f tm assign body .normal=aC fi ro tm [.code assign,.beginRound,.code body] [] .run/\
    (∃fn,C.P.funcs[fi.fn]? =some fn)/\
    cD C base E s w fi cs (lone (Frame.round F.ay f tm assign body .normal) cs w) o):=by
 unfold F4;refine R.bh _ (je h l) λr q=>?_
 obtain⟨st,pe,fn,nt,tmps,params,assign,body,d,rfl,t⟩:=q;obtain⟨i,o,A,I,W⟩:=h.ay l _ t;obtain rfl:F=i:=by rw[n]at A;exact ae A
 obtain⟨tm,ld,D,h5,rfl⟩:=W;simp only;refine R.bh _ (wv params nt args a tmps tm c D) λQ j=>?_
 obtain⟨h6,h7⟩:=j;have u:(Instr.yield F.ay ⟨a⟩).run C.P w=.ok (.round F.ay fn ((params.zip a).foldl (λtmps(x:Tmp×Value)=>tmps.setIfInBounds x.1 x.2) tm) assign body) w:=by
  have v:(getObj F.ay).run C.P w=.ok (.loop { state:=st,pending:=pe,fn,tmps:=tm,params:=⟨params⟩,assign,body,defers:=ld.ay }) w:=ly I (by simp);have k:¬((⟨a⟩:Array Value).size≠(⟨params⟩:Array Tmp).size):=by simp[h6]
  unfold Instr.yield Instr.getLoop;simp only[aA,v,aP,aY,ai k,bind_assoc,Q0]
 refine R.bh _ (R.fD _ _) λg m=>?_
 have b:=xf p m;refine R.aE ?_ (e E ⟨fn,nt,.normal,some l,[]⟩ (some F.ay) Q [.code assign,.beginRound,.code body] [] .run none s _ [.code assign,.beginRound,.code body] [] .run cs w
  ⟨h,⟨F,n,rfl⟩,h7,λ_=>rfl,rfl,rfl,rfl,⟨g,b⟩,λ_ _=>rfl⟩)
 intro o ho;exact⟨⟨fn,nt,.normal,some l,[]⟩,some F.ay,fn,_,assign,body,rfl,rfl,rfl,u,rfl,⟨g,b⟩,ho⟩
end
end Go.Proofs.YtokipodjggomfaaGreatDoor.Abs
namespace Go.Proofs.YtokipodjggomfaaGreatDoor.Abs
open Go
section
variable{C:Ctx}{base:Nat}{E:G}{s:S}{w:World}{nt:Nat}{t:Tr AV}{a:Act}
theorem GA(j:Rel C base E s w)(k:aD E nt t a.tmps)(c:Call)(rt:TypeId):
  (fN c C t).path (λd=>∃l,kY E d=some l/\(resolve a.eval c rt).run C.P w=.ok l w):=by
 refine R.bh _ (qO j k c.args.toList) λargs b=>?_
 have m:c.args.map a.eval=⟨c.args.toList.map a.eval⟩:=by apply mC;simp
 cases n:c.callee with
 |value f=>
  simp only;refine R.bh _ (bf j k f) λo e=>?_
  cases o with
  |fn g x y=>
   simp only[ag]at e;cases h:ji g with
   |false=>simp[h]at e
   |true=>
    cases Y:ax E x with
    |none=>simp[h,Y]at e
    |some p=>
     cases i:ax E y with
     |none=>simp[h,Y,i]at e
     |some q=>
      simp only[h,Y,i,ar]at e;refine⟨{ target:=.fn g ⟨q⟩,args:=(⟨p⟩:Array Value)++⟨c.args.toList.map a.eval⟩ },?_,?_⟩
      .simp only[kY,ag,h,Y,i,b]
      .simp only[resolve,n];rw[<-e,m];simp[Deferred.ofValue]
  |_=>trivial
 |_=>simp only;trivial
end
section
variable{P:Program}{fi:FI}{ro:Option Nat}{tm:Array Value}{k:List Item}{ds:List Deferred}{cs:List Frame}{w:World}{ops:Array Oper}{i:Nat}{rest:List Nat}{o:Oper}
theorem Dw{l b:Nat}{c:Call}{d:Deferred}{dl:List Deferred}{lp:Loop}(ho:ops[i]? =some o)(g:Region.wanted o (yielded ops tm)=true)(a:o.op=.defer c)
  (h:(resolve (Act.eval ⟨tm,ds⟩) c o.type).run P w=.ok d w) (j:w.heap[l]? =some (.loop lp)) (m:lp.defers=b) (e:w.heap[b]? =some (.deferred (some dl))):
  step P (lone (aC fi (some l) tm (.inRegion ops (i::rest)::k) ds .run) cs w)=.next (lone (aC fi (some l) (lO tm o.dst undef) (.inRegion ops rest::k) ds .run) cs
   { w with heap:=w.heap.setIfInBounds b (.deferred (some (d::dl))) }):=by
 rw[<-gY undef ho];have f:=CG (fi:=fi) (ro:=some l) (tm:=tm) (ds:=ds) (.inRegion ops (i::rest)::k) .run;simp only[aC]at f;subst m;refine cz ?_;simp[stepG,stepG.exec,stepG.oper,Frame.oper?,aC,ho,g,f,a,stepG.apply,h,Instr.deferInRound,Instr.getLoop,j,e,getObj,setObj,Sem.run]
theorem zq(ho:ops[i]? =some o)(a:Region.wanted o (yielded ops tm)=true)(b:∀c,o.op≠.defer c)(d:(execOp (Act.eval ⟨tm,ds⟩) o).run P w=.ok .recover w)
  (e:∀m,tryRecover (aC fi none tm (.inRegion ops (i::rest)::k) ds m) cs=none):
  step P (lone (aC fi none tm (.inRegion ops (i::rest)::k) ds .run) cs w)=.next (lone (aC fi none (lO tm o.dst .nilIface) (.inRegion ops rest::k) ds .run) cs w):=by
 rw[<-gY .nilIface ho];refine cz ?_;rw[yE ho a (.inr b)];have:=e .run;simp only[aC]at this;simp[stepG.apply,d,aC,this]
theorem zp(ho:ops[i]? =some o)(b:Region.wanted o (yielded ops tm)=true)(d:∀c,o.op≠.defer c)(e:(execOp (Act.eval ⟨tm,ds⟩) o).run P w=.ok .recover w)
  {v:Value} {a:List Frame} (f:∀m,tryRecover (aC fi none tm (.inRegion ops (i::rest)::k) ds m) cs=some (v,a)):
  step P (lone (aC fi none tm (.inRegion ops (i::rest)::k) ds .run) cs w)=.next (lone (aC fi none (lO tm o.dst v) (.inRegion ops rest::k) ds .run) a w):=by
 rw[<-gY v ho];refine cz ?_;rw[yE ho b (.inr d)];have:=f .run;simp only[aC]at this;simp[stepG.apply,e,aC,this]
end
theorem HQ{o:Op}{c:Call}(h:mS o=some c):o=.defer c:=by cases o<;>simp[mS]at h;subst h;rfl
theorem HR{o:Op}(h:mS o=none)(c:Call):o≠.defer c:=by grind[mS]
section
variable{C:Ctx}{base:Nat}{E:G}{s:S}{w:World}{fi:FI}{ro:Option Nat}{t tJ:Tr AV}{tm:Array Value}{k:List Item}{ds:List gO}{bz:List Deferred}
 {ctx:Option (List PE)} {cs:List Frame} {ops:Array Oper} {i:Nat} {rest:List Nat} {o:Oper}
theorem zz(f:Rel C base E s w){l:Nat}(c:fi.roundOf=some l){F:Loc}(k:E l=some F){d:AD}{g:Deferred}(i:kY E d=some g):
  (CT fi d ds s).path (λr=>r.1=ds/\∃lp dl,w.heap[F.ay]? =some (.loop lp)/\w.heap[lp.defers]? =some (.deferred (some dl))/\
    Step C base E s w E r.2 { w with heap:=w.heap.setIfInBounds lp.defers (.deferred (some (g::dl))) }):=by
 unfold CT;rw[c];refine R.bh _ (je f l) λr m=>?_
 obtain⟨st,pe,fn,nt,tmps,params,assign,body,b,rfl,n⟩:=m;obtain⟨j,o,A,I,W⟩:=f.ay l _ n;obtain rfl:F=j:=by rw[k]at A;exact ae A
 obtain⟨p,ld,D,h5,rfl⟩:=W;simp only;cases e:s.h.get b with
 |none=>trivial
 |some x=>
  cases x with
  |eC y=>
   cases y with
   |none=>trivial
   |some dl=>obtain⟨q,T,g1,g2,a,g3,rfl⟩:=f.ay b _ e;rw[h5]at g1;obtain rfl:=ae g1;refine⟨rfl,_,a,I,g2,?_⟩;exact Step.nO f e h5 g2 rfl rfl (N:=.eC (some (d::dl))) (T:=.deferred (some (g::a))) ⟨g::a,by simp only[fE,i,g3],rfl⟩ rfl rfl rfl rfl
  |_=>trivial
theorem Gz(hC:Good C){rec:Rec}(a6d:ep C base rec)(hR:Rel C base E s w)(ht:aD E fi.nt tJ tm)
  (a8j:∀s,nA o.op o.type C t s=nA o.op o.type C tJ s) (a8i:∀c,o.op=.defer c->fN c C t=fN c C tJ)
  (ho:ops[i]? =some o) (H:mX E fi.roundOf ro) (D:cN fi.tl E ds=some bz) (e:eu E fi.kind ctx cs) (Q:RG->Prop) (K:RK)
  (g:∀B U M J XB a4a a3E v c,Step C base E s w B U M->ag B v=some c->cN fi.tl B XB=some a4a->eu B fi.kind a3E J->bN fi.kind cs J->
    Steps C.P (lone (aC fi ro tm (.inRegion ops (i::rest)::k) bz .run) cs w) (lone (aC fi ro (lO tm o.dst c) (.inRegion ops rest::k) a4a .run) J M)->
    (K (put fi.nt t o.dst v) XB a3E U).path Q)
  (Sk:∀B U M ch W items,Step C base E s w B U M->fa B ch=some W->
    Steps C.P (lone (aC fi ro tm (.inRegion ops (i::rest)::k) bz .run) cs w) (lone (aC fi ro tm items bz (.panicking W)) cs M)->Q (.eH ch t ds ctx U))
  {b:Bool} (hb:Region.wanted o (yielded ops tm)=b):(v7 C rec fi fi.nt K o.dst o.op o.type t ds ctx s b).path Q:=by
 cases b with
 |false=>exact g E s w cs ds bz ctx gu undef (Step.refl hR) gI D e (bN.refl e) (.one (uf ho hb))
 |true=>
  show(yI C rec fi fi.nt K o.dst o.op o.type t ds ctx s).path Q;unfold yI;cases hdo:mS o.op with
  |some c=>
   have hop:=HQ hdo;show((fN c C t).bind λx=>BF fi fi.nt o.dst K t ds ctx x s).path Q;rw[a8i c hop];refine R.pb _ (GA (a:=⟨tm,bz⟩) hR ht c o.type) λd hd=>?_
   obtain⟨cd,hcd,Zy⟩:=hd;unfold BF;cases z:fi.roundOf with
   |none=>
    rw[z]at H;cases ro with
    |some _=>exact H.elim
    |none=>
     have hda:CT fi d ds s=.ok (.call d::ds,s):=by unfold CT;rw[z]
     rw[hda];have Y:(execOp (Act.eval ⟨tm,bz⟩) o).run C.P w=.ok (.defer cd) w:=by simp[execOp,hop,Zy]
     exact g E s w cs (.call d::ds) (cd::bz) ctx gu undef (Step.refl hR) gI (fG.2 ⟨cd,bz,hcd,D,rfl⟩) e (bN.refl e)
      (.one (Ui ho hb (.inl rfl) Y))
   |some l=>
    rw[z]at H;cases ro with
    |none=>exact H.elim
    |some bl=>
     obtain⟨F,hl,rfl⟩:=H;refine R.pb _ (zz hR z hl hcd) λr S=>?_
     obtain⟨XB,U⟩:=r;obtain⟨rfl,lp,dl,A,I,j⟩:=S;exact g E U _ cs XB bz ctx gu undef j gI D (e.grow j.grow) (bN.refl e) (.one (Dw ho hb hop Zy A rfl I))
  |none=>
   have L:=HR hdo;show((nA o.op o.type C t s).bind (a1d C rec fi.nt fi o.dst K t ds ctx)).path Q;rw[a8j s];refine R.pb _ (x2 hC hR (a:=⟨tm,bz⟩) ht o) λx Y=>?_
   cases x with
   |val v U=>obtain⟨B,c,M,S,hv,j⟩:=Y;exact g B U M cs ds bz ctx v c j hv (b7 j.grow D) (e.grow j.grow) (bN.refl e) (.one (Bj ho hb (.inr L) S))
   |skip U=>obtain⟨B,M,S,j⟩:=Y;exact g B U M cs ds bz ctx gu undef j gI (b7 j.grow D) (e.grow j.grow) (bN.refl e) (.one (Rd ho hb (.inr L) S))
   |enter f args U=>
    obtain⟨XD,l,w1,S,N,j⟩:=Y;show((KR C rec f args U).bind (E2 fi.nt o.dst K t ds ctx)).path Q;refine R.pb _ (BQ hC a6d j.rel f N (cs:=aC fi ro tm (.inRegion ops (i::rest)::k) bz .run::cs)) λout VQ=>?_
    obtain⟨⟨fn,hfn⟩,n,B,M,J,a3f,a6p,T,G⟩:=VQ;have O:J=aC fi ro tm (.inRegion ops (i::rest)::k) bz .run::cs:=T;subst O;have q:=j.trans a3f;have u:=Uh (fi:=fi) (ro:=ro) (k:=k) (cs:=cs) (rest:=rest) ho hb (.inr L) S;obtain⟨res,a2N,os⟩:=out;cases res with
    |ret v=>obtain⟨cv,X,fr',y,hf,Z,hm,ZE,fn',a3i,hrs⟩:=G;refine g B os M cs ds bz ctx v cv q X (b7 q.grow D) (e.grow q.grow) (bN.refl e) (.head u (y.trans (.one ?_)));rw[<-gY cv ho];exact step_leave_returned ⟨hm,ZE,Z,fn',by rw[hf];exact a3i,hrs⟩
    |eH ch=>obtain⟨W,hch,fr',y,hf,hm,ZE⟩:=G;refine Sk B os M ch W (.inRegion ops (i::rest)::k) q hch (.head u (y.trans (.one ?_)));exact step_leave_panicked ⟨hm,ZE,fn,by rw[hf];exact hfn⟩
   |round l args U=>
    obtain⟨rfl,F,WU,hl,N,S⟩:=Y;show((F4 C rec l args U).bind (E2 fi.nt o.dst K t ds ctx)).path Q;refine R.pb _ (Jx hC a6d hR l N hl (aC fi ro tm (.inRegion ops (i::rest)::k) bz .run::cs)) λout VQ=>?_
    obtain⟨fi',ro',f,tm',assign,body,a7S,hk',a7U,hy,hfr,⟨fn,hfn⟩,B,M,J,q,a6p,T,G⟩:=VQ;rw[hk']at T;have O:J=aC fi ro tm (.inRegion ops (i::rest)::k) bz .run::cs:=T;subst O;have u:=Ud (fi:=fi) (ro:=ro) (k:=k) (cs:=cs) (rest:=rest) ho hb (.inr L) (S.trans hy);obtain⟨res,a2N,os⟩:=out;cases res with
    |ret v=>obtain⟨cv,X,h5⟩:=G;rw[a7U]at h5;refine g B os M cs ds bz ctx v cv q X (b7 q.grow D) (e.grow q.grow) (bN.refl e) (.head u ?_);rw[<-gY cv ho];exact h5 _ _ rfl
    |eH ch=>obtain⟨W,hch,fr',y,hf,hm,ZE⟩:=G;refine Sk B os M ch W (.inRegion ops (i::rest)::k) q hch (.head u (y.trans (.one ?_)));exact step_leave_panicked ⟨hm,by rw[ZE,a7S],fn,by rw[hf];exact hfn⟩
   |defer d U=>trivial
   |recover U=>
    obtain⟨rfl,S⟩:=Y;show(uo fi fi.nt o.dst K t ds ctx U).path Q;unfold uo Jm;cases z:fi.roundOf with
    |some l=>trivial
    |none=>
     rw[z]at H;cases ro with
     |some _=>exact H.elim
     |none=>
      have V:(∀m,tryRecover (aC fi none tm (.inRegion ops (i::rest)::k) bz m) cs=none)->(K (put fi.nt t o.dst .lY) ds ctx U).path Q:=λh=>
       g E U w cs ds bz ctx .lY .nilIface (Step.refl hR) rfl D e (bN.refl e) (.one (zq ho hb L S h))
      cases Z:fi.kind with
      |normal=>exact V λm=>by simp[tryRecover,aC,Z]
      |deferred=>
       rw[Z]at e;obtain⟨c,eo,rfl,hc⟩:=e;cases ctx with
       |none=>exact V λm=>by simp[tryRecover,aC,Z,show c.mode=.returning from hc]
       |some ch=>
        obtain⟨cc,hcc,hcm⟩:=hc;cases ch with
        |nil=>simp only[fa,ar]at hcc;subst hcc;exact V λm=>by simp[tryRecover,aC,Z,hcm]
        |cons p a1l=>
         obtain⟨cp,col,hcp,a8d,rfl⟩:=fp.1 hcc;obtain⟨v,rcv⟩:=p;simp only[iA,aN]at hcp;obtain⟨cv,X,rfl⟩:=hcp;cases rcv with
         |true=>exact V λm=>by simp[tryRecover,aC,Z,hcm]
         |false=>
          refine g E U w ({ c with mode:=.panicking ({ v:=cv,recovered:=true }::col) }::eo) ds bz (some ({ v,recovered:=true }::a1l)) v cv (Step.refl hR) X D ?_ ?_ (.one (zp ho hb L S ?_))
          .rw[Z];exact⟨_,eo,rfl,_,fp.2 ⟨{ v:=cv,recovered:=true },col,by simp[iA,X],a8d,rfl⟩,rfl⟩
          .rw[Z];exact⟨c,eo,_,rfl,rfl⟩
          .intro m;simp[tryRecover,aC,Z,hcm]
      |_=>trivial
   |eH v U=>obtain⟨B,c,M,S,hv,j⟩:=Y;exact Sk B U M [⟨v,false⟩] [{ v:=c,recovered:=false }] _ j (fp.2 ⟨{ v:=c,recovered:=false },[],by simp[iA,hv],rfl,rfl⟩) (.one (Uf ho hb (.inr L) S))
theorem Jy(D:Good C){rec:Rec}(m:ep C base rec)(F:Rel C base E s w)(A:aD E fi.nt tJ tm)
  (n:∀s,fx ops o.guard t s=fx ops o.guard tJ s) (p:∀s,nA o.op o.type C t s=nA o.op o.type C tJ s) (q:∀c,o.op=.defer c->fN c C t=fN c C tJ)
  (ho:ops[i]? =some o) (y:mX E fi.roundOf ro) (z:cN fi.tl E ds=some bz) (u:eu E fi.kind ctx cs) (Q:RG->Prop) (K:RK)
  (j:∀B U M d f a b v c,Step C base E s w B U M->ag B v=some c->cN fi.tl B f=some a->eu B fi.kind b d->bN fi.kind cs d->
    Steps C.P (lone (aC fi ro tm (.inRegion ops (i::rest)::k) bz .run) cs w) (lone (aC fi ro (lO tm o.dst c) (.inRegion ops rest::k) a .run) d M)->
    (K (put fi.nt t o.dst v) f b U).path Q)
  (x:∀B U M ch g items,Step C base E s w B U M->fa B ch=some g->
    Steps C.P (lone (aC fi ro tm (.inRegion ops (i::rest)::k) bz .run) cs w) (lone (aC fi ro tm items bz (.panicking g)) cs M)->Q (.eH ch t ds ctx U)):
  (qG C rec fi ops K o t ds ctx s).path Q:=by
 have e:qG C rec fi ops K o t ds ctx s=(fx ops o.guard t s).bind λr=>v7 C rec fi fi.nt K o.dst o.op o.type t ds ctx r.2 r.1:=by cases o;rfl
 rw[e,n];refine R.pb _ (Gw F A ops o) λr G=>?_
 obtain⟨H,l⟩:=G;exact Gz D m l.rel A p q ho y z u Q K (λB U M d f a b v c h=>j B U M d f a b v c (l.trans h)) (λB U M ch g items h=>x B U M ch g items (l.trans h)) H
theorem YO{nt:Nat}{t:Tr AV}{d:Option Tmp}{v a:AV}:put nt (put nt t d v) d a=put nt t d a:=by
 cases d with
 |none=>rfl
 |some d=>
  unfold put;simp only;cases Nat.blt d nt with
  |false=>rfl
  |true=>exact Tr.set_set _ _ _ _
theorem RZ{nt:Nat}{t:Tr AV}{d:Option Tmp}{v:AV}{e:SE}(h:J9 nt d (put nt t d v)=some e):v=.bS .bool e:=by
 cases d with
 |none=>cases h
 |some d=>
  unfold J9 at h;simp only at h;cases a:Nat.blt d nt with
  |false=>rw[a]at h;cases h
  |true=>
   rw[a]at h;have b:put nt t (some d) v=t.set d v:=by unfold put;simp only;rw[a]
   rw[b,Tr.get_set_same]at h;simp only at h;split at h<;>first|(cases h;done)|skip
   split at h<;>first|(cases h;done)|skip
   obtain rfl:=ae h;rfl
theorem wy(L:Good C){rec:Rec}(p:ep C base rec)(N:Rel C base E s w)(O:aD E fi.nt tJ tm)
  (q:∀s,fx ops o.guard t s=fx ops o.guard tJ s) (u:∀s,nA o.op o.type C t s=nA o.op o.type C tJ s) (x:∀c,o.op=.defer c->fN c C t=fN c C tJ)
  (ho:ops[i]? =some o) (G:mX E fi.roundOf ro) (H:cN fi.tl E ds=some bz) (y:eu E fi.kind ctx cs) (Q:RG->Prop) (K:RK)
  (h:∀B U M g j a d v c,Step C base E s w B U M->ag B v=some c->cN fi.tl B j=some a->eu B fi.kind d g->bN fi.kind cs g->
    Steps C.P (lone (aC fi ro tm (.inRegion ops (i::rest)::k) bz .run) cs w) (lone (aC fi ro (lO tm o.dst c) (.inRegion ops rest::k) a .run) g M)->
    (K (put fi.nt t o.dst v) j d U).path Q)
  (z:∀B U M ch D items,Step C base E s w B U M->fa B ch=some D->
    Steps C.P (lone (aC fi ro tm (.inRegion ops (i::rest)::k) bz .run) cs w) (lone (aC fi ro tm items bz (.panicking D)) cs M)->Q (.eH ch t ds ctx U)):
  (h8 C rec fi ops K o t ds ctx s).path Q:=by
 unfold h8;refine Jy L p N O q u x ho G H y Q _ (λB U M g j a d v c n J m l F f=>?_) z;unfold R1;cases S:J9 fi.nt o.dst (put fi.nt t o.dst v)with
 |none=>exact h B U M g j a d v c n J m l F f
 |some e=>
  obtain rfl:=RZ S;obtain⟨V,A,⟨b,rfl⟩,rfl⟩:=c7 J;refine R.pb _ (o0 n.rel A) λr T=>?_
  obtain⟨e1,I, -⟩:=T;rw[YO];exact h B r.2 M g j a d (.bool r.1) (.bool b) (n.trans I) (by rw[e1];rfl) m l F f
end
end Go.Proofs.YtokipodjggomfaaGreatDoor.Abs
namespace Go.Proofs.YtokipodjggomfaaGreatDoor.Abs
open Go
def mY(C:Ctx)(base:Nat)(E:G)(s:S)(w:World)(fi:FI)(ro:Option Nat)(k:List Item)(cs:List Frame)(m0:Machine):RG->Prop
 | .fin Q e c U=>∃B d a b M,Step C base E s w B U M/\aD B fi.nt Q d/\cN fi.tl B e=some a/\eu B fi.kind c b/\bN fi.kind cs b/\
     Steps C.P m0 (lone (aC fi ro d k a .run) b M)
 | .eH ch Q e c U=>∃B d items a b M f,Step C base E s w B U M/\aD B fi.nt Q d/\cN fi.tl B e=some a/\eu B fi.kind c b/\bN fi.kind cs b/\
     fa B ch=some f/\Steps C.P m0 (lone (aC fi ro d items a (.panicking f)) b M)
section
variable{C:Ctx}{base:Nat}{E:G}{s:S}{w:World}{fi:FI}{ro:Option Nat}{k:List Item}{cs:List Frame}{ops:Array Oper}
theorem mY.of_steps {d:G} {m:S} {n:World} {e:List Frame} {m0 o:Machine} {r:RG} (f:Step C base E s w d m n) (p:Steps C.P m0 o) (g:bN fi.kind cs e)
  (h:mY C base d m n fi ro k e o r):mY C base E s w fi ro k cs m0 r:=by
 cases r with
 |fin Q j i U=>obtain⟨B,b,a,c,M,A,I,W,D,h5,h6⟩:=h;exact⟨B,b,a,c,M,f.trans A,I,W,D,g.trans h5,p.trans h6⟩
 |eH ch Q j i U=>obtain⟨B,b,items,a,c,M,l,A,I,W,D,h5,h6,h7⟩:=h;exact⟨B,b,items,a,c,M,l,f.trans A,I,W,D,g.trans h5,h6,p.trans h7⟩
theorem yM(z:Good C){rec:Rec}(j:ep C base rec):∀(l:List Oper)(a:List Nat),a.map (λi=>ops[i]?)=l.map some->
  ∀{E:G}{s:S}{w:World}{t:Tr AV}{tm:Array Value}{ds:List gO}{bz:List Deferred}{ctx:Option (List PE)}{cs:List Frame},
  Rel C base E s w->aD E fi.nt t tm->mX E fi.roundOf ro->cN fi.tl E ds=some bz->eu E fi.kind ctx cs->
  (LY C rec fi ops l t ds ctx s).path (mY C base E s w fi ro k cs (lone (aC fi ro tm (.inRegion ops a::k) bz .run) cs w))
 | [],a,b,E,s,w,t,tm,ds,bz,ctx,cs,q,n,h,g,d=>by
   have:a=[]:=by cases a with|nil=>rfl|cons _ _=>simp at b
   subst this;exact⟨E,tm,bz,cs,w,Step.refl q,n,g,d,bN.refl d,.one sW⟩
 |o::l,[],b,E,s,w,t,tm,ds,bz,ctx,cs,q,n,h,g,d=>by simp at b
 |o::l,i::a,b,E,s,w,t,tm,ds,bz,ctx,cs,q,n,h,g,d=>by
  simp only[mD,nb]at b;obtain⟨ho,b⟩:=b;show(h8 C rec fi ops (LY C rec fi ops l) o t ds ctx s).path _;refine wy (k:=k) (rest:=a) z j q n (λ_=>rfl) (λ_=>rfl) (λ_ _=>rfl) ho h g d _ _ ?_ ?_
  .intro B U M F H A D v c e I p m u f;refine R.aE ?_ (yM z j l a b e.rel ((n.grow e.grow).put o.dst I) (h.grow e.grow) p m);intro r J;exact J.of_steps e f u
  .intro B U M ch x items e y f;exact⟨B,tm,items,bz,cs,M,x,e,n.grow e.grow,b7 e.grow g,d.grow e.grow,bN.refl d,y,f⟩
theorem Rq(ops:Array Oper):(List.range ops.size).map (λi=>ops[i]?)=ops.toList.map some:=by
 apply zR;intro j;simp only[ik];by_cases h:j<ops.size
 .rw[List.getElem?_range h];simp[h]
 .grind
theorem ET{id:Nat}:∀{l:List bH}{r:List Item},gJ E l=some r->
  match CL id l with
  |some O=>∃f,exitTo id r=some f/\gJ E O=some f
  |none=>exitTo id r=none
 | [],r,h=>by simp only[gJ,ar]at h;subst h;rfl
 |x::l,r,h=>by
  obtain⟨a,b,c,g,rfl⟩:=cB.1 h;have e:=ET (id:=id) g;cases x with
  |inBlock u=>
   simp only[iI,ar]at c;subst c;simp only[CL];cases d:Nat.beq u id with
   |true=>have:u=id:=aL d;subst this;exact⟨b,by simp[exitTo],g⟩
   |false=>
    have:¬(u==id)=true:=by intro h;rw[beq_iff_eq]at h;subst h;rw[show Nat.beq u u=true from rK u]at d;cases d
    simp only;rw[show exitTo id (.inBlock u::b)=exitTo id b by simp only[exitTo,this];rfl];exact e
  |inRange O=>simp only[iI,aN]at c;obtain⟨_,_,rfl⟩:=c;exact e
  |endRange O=>simp only[iI,aN]at c;obtain⟨_,_,rfl⟩:=c;exact e
  |_=>simp only[iI,ar]at c;subst c;exact e
end
section
variable{P:Program}{fi:FI}{tm:Array Value}{k:List Item}{ds:List Deferred}{cs:List Frame}{w:World}
theorem vV{l:Nat}{lp:Loop}(b:w.heap[l]? =some (.loop lp))(a:Option Code):(Instr.endRound l a).run P w=
  .ok (.bool a.isNone) { w with heap:=w.heap.setIfInBounds l (.loop { lp with state:=if a.isNone then .ready else .done,pending:=a }) }:=by
 have A:(getObj l).run P w=.ok (.loop lp) w:=ly b (by simp);unfold Instr.endRound Instr.getLoop;simp only[aA,A,aP,aY,bind_assoc];rw[nP b (by simp)];rfl
def EF(w:World)(l:Nat)(lp:Loop)(a:Option Code):World:=
 { w with heap:=w.heap.setIfInBounds l (.loop { lp with state:=if a.isNone then .ready else .done,pending:=a }) }
section
variable{l:Nat}{lp:Loop}{c:Frame}
theorem FR(Z:fi.kind=.normal)(a:w.heap[l]? =some (.loop lp)):step P (lone (aC fi (some l) tm [] ds .run) (c::cs) w)=.next (lone (c.finish (.bool true)) cs (EF w l lp none)):=
 cz (by have:=vV (P:=P) a none;simp[stepG,stepG.exec,aC,this,doReturn,Z,EF])
theorem FQ(Z:fi.kind=.normal)(a:w.heap[l]? =some (.loop lp)):step P (lone (aC fi (some l) tm (.code .ret::k) ds .run) (c::cs) w)=.next (lone (c.finish (.bool false)) cs (EF w l lp (some .ret))):=
 cz (by have:=vV (P:=P) a (some .ret);simp[stepG,stepG.exec,aC,this,doReturn,Z,EF])
end
end
section
variable{C:Ctx}{base:Nat}{E:G}{s:S}{w:World}{fi:FI}{ro:Option Nat}{t:Tr AV}{tm:Array Value}{items:List Item}{ds:List gO}{bz:List Deferred}{ctx:Option (List PE)}{cs:List Frame}
theorem GB{rec:Rec}(a:ep C base rec){todo:List bH}{m0:Machine}{mode:ku}{m:FrameMode}
  (h:gN C base E fi ro t todo ds mode ctx s tm items bz m cs w) (b:step C.P m0=.next (lone (aC fi ro tm items bz m) cs w)):
  (rec fi t todo ds mode ctx s).path (cD C base E s w fi cs m0):=
 R.aE (λ_ ho=>cD.of_steps (Step.refl h.rel) (.one b) (bN.refl h.ctx) ho) (a E fi ro t todo ds mode ctx s tm items bz m cs w h)
theorem yQ{rec:Rec}(f:ep C base rec){todo:List bH}{m0:Machine}(h:gN C base E fi ro t todo ds .run ctx s tm items bz .run cs w)(a:Option Code)
  (p:ro=none->(a=none\/a=some .ret)->step C.P m0=.next (lone (aC fi none tm items bz .returning) cs w))
  (A:∀l lp c rest,ro=some l->fi.kind=.normal->w.heap[l]? =some (.loop lp)->cs=c::rest->step C.P m0=.next (lone (c.finish (.bool a.isNone)) rest (EF w l lp a))):
  (yf rec fi t ds ctx s a).path (cD C base E s w fi cs m0):=by
 unfold yf;cases d:fi.roundOf with
 |none=>
  have e:=h.ro;rw[d]at e;cases ro with
  |some _=>exact e.elim
  |none=>
   have i:gN C base E fi none t [] ds .ret ctx s tm items bz .returning cs w:=⟨h.rel,h.ro,h.tmps,(λh=>by cases h),h.defs,rfl,h.ctx,h.fn,h.rk⟩;cases a with
   |none=>exact GB f i (p rfl (.inl rfl))
   |some c=>
    cases c with
    |ret=>exact GB f i (p rfl (.inr rfl))
    |_=>trivial
 |some l=>
  have e:=h.ro;rw[d]at e;cases ro with
  |none=>exact e.elim
  |some x=>
   obtain⟨F,q,rfl⟩:=e;simp only;refine R.bh _ (je h.rel l) λr v=>?_
   obtain⟨st,pe,fn,nt,tmps,params,assign,body,b,rfl,u⟩:=v;obtain⟨k,o,g1,g2,g3⟩:=h.rel.ay l _ u;obtain rfl:F=k:=by rw[q]at g1;exact ae g1
   obtain⟨g,ld,g4,g5,rfl⟩:=g3;have Z:=h.rk l d;have fin:∀j,j=(if a.isNone then LoopState.ready else .done)->
     (R.ok ⟨.ret (.bool a.isNone),ctx,⟨s.h.set l (.loop j a fn nt tmps params assign body b),s.next,s.pc⟩⟩:R Out).path (cD C base E s w fi cs m0):=by
    rintro _ rfl;have m:Step C base E s w E ⟨s.h.set l (.loop (if a.isNone then LoopState.ready else .done) a fn nt tmps params assign body b),s.next,s.pc⟩
      (EF w F.ay { state:=st,pending:=pe,fn,tmps:=g,params:=⟨params⟩,assign,body,defers:=ld.ay } a):=
     Step.nO h.rel u q g2 rfl rfl (N:=.loop (if a.isNone then LoopState.ready else .done) a fn nt tmps params assign body b)
      (T:=.loop { state:=(if a.isNone then LoopState.ready else .done),pending:=a,fn,tmps:=g,params:=⟨params⟩,assign,body,defers:=ld.ay }) ⟨g,ld,g4,g5,rfl⟩
      rfl rfl rfl rfl
    refine⟨E,_,cs,m,h.ctx,bN.refl h.ctx,.bool a.isNone,rfl,?_⟩;rw[d];intro c rest n;exact .one (A F.ay _ c rest rfl Z g2 n)
   cases a with
   |none=>exact fin _ rfl
   |some c=>exact fin _ rfl
end
end Go.Proofs.YtokipodjggomfaaGreatDoor.Abs
namespace Go.Proofs.YtokipodjggomfaaGreatDoor.Abs
open Go
section
variable{C:Ctx}{base:Nat}{E:G}{s:S}{w:World}{fi:FI}{ro:Option Nat}{t:Tr AV}{tm:Array Value}{items:List Item}{ds:List gO}{bz:List Deferred}{ctx:Option (List PE)}{cs:List Frame}
abbrev SS(C:Ctx)(base:Nat)(E:G)(fi:FI)(ro:Option Nat)(t:Tr AV)(todo:List bH)(ds:List gO)(ctx:Option (List PE))(s:S)
 (tm:Array Value) (items:List Item) (bz:List Deferred) (cs:List Frame) (w:World):Prop:=gN C base E fi ro t todo ds .run ctx s tm items bz .run cs w
theorem gN.nK {todo nK:List bH} {a:List Item} (h:SS C base E fi ro t todo ds ctx s tm items bz cs w) (b:gJ E nK=some a):
 SS C base E fi ro t nK ds ctx s tm a bz cs w:=⟨h.rel,h.ro,h.tmps,λ_=>b,h.defs,rfl,h.ctx,h.fn,h.rk⟩
theorem eG{rec:Rec}(b:ep C base rec){todo nK:List bH}{a:List Item}{m0:Machine}(h:SS C base E fi ro t todo ds ctx s tm items bz cs w)
 (c:gJ E nK=some a) (d:step C.P m0=.next (lone (aC fi ro tm a bz .run) cs w)):
 (rec fi t nK ds .run ctx s).path (cD C base E s w fi cs m0):=GB b (h.nK c) d
theorem BM(c:Good C){rec:Rec}(b:ep C base rec){todo nK:List bH}{a:List Item}{m0:Machine}(h:SS C base E fi ro t todo ds ctx s tm items bz cs w)
  (d:gJ E nK=some a) (e:step C.P m0=.next (lone (aC fi ro tm a bz .run) cs w)):
  (UH C rec fi t nK ds ctx s).path (cD C base E s w fi cs m0):=
 R.aE (λ_ ho=>cD.of_steps (Step.refl h.rel) (.one e) (bN.refl h.ctx) ho) (Em c b (h.nK d))
theorem yL(l:Good C){rec:Rec}(c:ep C base rec){k:List bH}{i:List Item}(h:SS C base E fi ro t k ds ctx s tm i bz cs w){m0:Machine}(r:RG)
  (j:mY C base E s w fi ro i cs m0 r):(regionF C rec fi k r).path (cD C base E s w fi cs m0):=by
 have _:=l;cases r with
 |fin Q d a U=>
  obtain⟨B,e,b,f,M,A,I,W,D,h5,h6⟩:=j;refine R.aE (λ_ ho=>cD.of_steps A h6 h5 ho) (c B fi ro Q k d .run a U e i b .run f M
   ⟨A.rel,h.ro.grow A.grow,I,λ_=>kj A.grow (h.todo rfl),W,rfl,D,h.fn,h.rk⟩)
 |eH ch Q d a U=>
  obtain⟨B,e,items,b,f,M,g,A,I,W,D,h5,h6,h7⟩:=j;refine R.aE (λ_ ho=>cD.of_steps A h7 h5 ho) (c B fi ro Q [] d (.eH ch) a U e items b (.panicking g) f M
   ⟨A.rel,h.ro.grow A.grow,I,(λh=>by cases h),W,⟨g,h6,rfl⟩,D,h.fn,h.rk⟩)
def QY(C:Ctx)(base:Nat):Prop:=
 ∀{rec:Rec},ep C base rec->∀{E:G}{s:S}{w:World}{fi:FI}{ro:Option Nat}{t:Tr AV}{tm:Array Value}{k:List Item}{ds:List gO}{bz:List Deferred}{ctx:Option (List PE)}{cs:List Frame}(id:Nat)(ops:Array Oper),
  Rel C base E s w->aD E fi.nt t tm->mX E fi.roundOf ro->cN fi.tl E ds=some bz->eu E fi.kind ctx cs->
  (Qd C rec fi ops t ds ctx s).path (mY C base E s w fi ro k cs (lone (aC fi ro tm (.code (.region id ops true)::k) bz .run) cs w))
theorem RC(p:Good C)(F:QY C base){rec:Rec}(d:ep C base rec)(c:Code)
  (j:∀f params assign body{k:List bH}{g:List Item},SS C base E fi ro t k ds ctx s tm g bz cs w->
    (Gg C rec fi t k ds ctx f params assign body s).path (cD C base E s w fi cs (lone (aC fi ro tm (.code (.rangeFunc f params assign body)::g) bz .run) cs w)))
  {k:List bH} {g:List Item} (h:SS C base E fi ro t k ds ctx s tm g bz cs w):
  (codeF c k C rec fi t ds ctx s).path (cD C base E s w fi cs (lone (aC fi ro tm (.code c::g) bz .run) cs w)):=by
 have Z:=h.todo rfl;have cons:∀(x:bH)(i:Item),iI E x=some i->gJ E (x::k)=some (i::g):=λx i Y=>cB.2 ⟨i,g,Y,Z,rfl⟩
 cases c with
 |skip=>exact eG d h Z X9
 |label l=>exact eG d h Z Ug
 |seq a b=>exact eG d h (cB.2 ⟨_,_,rfl,cons (.code b) _ rfl,rfl⟩) a2p
 |block id b=>exact eG d h (cB.2 ⟨_,_,rfl,cons (.inBlock id) _ rfl,rfl⟩) Uj
 |loop b=>exact BM p d h (cB.2 ⟨_,_,rfl,cons (.inLoop b) _ rfl,rfl⟩) Ya
 |scope b=>exact eG d h (cB.2 ⟨_,_,rfl,cons (.inScope b) _ rfl,rfl⟩) Uc
 |cond c a b=>
  refine R.pb _ (bf (a:=⟨tm,bz⟩) h.rel h.tmps c) λv u=>?_
  cases v with
  |bool x=>simp only[ag,ar]at u;have z:=Om (P:=C.P) (fi:=fi) (ro:=ro) (k:=g) (cs:=cs) (w:=w) (x:=a) (y:=b) u.symm;cases x<;>exact eG d h (cons (.code _) _ rfl) z
  |bS q e=>
   cases q<;>first|exact R.aJ _ _|skip
   obtain⟨J,A,⟨x,rfl⟩,W⟩:=c7 u;have z:=Om (P:=C.P) (fi:=fi) (ro:=ro) (k:=g) (cs:=cs) (w:=w) (x:=a) (y:=b) W;refine R.pb _ (o0 h.rel A) λr m=>?_
   obtain⟨G,r2⟩:=r;obtain⟨rfl,n, -⟩:=m;have H:SS C base E fi ro t k ds ctx r2 tm g bz cs w:=⟨n.rel,h.ro,h.tmps,h.todo,h.defs,h.mode,h.ctx,h.fn,h.rk⟩;have fin:∀o,cD C base E r2 w fi cs (lone (aC fi ro tm (.code (.cond c a b)::g) bz .run) cs w) o->cD C base E s w fi cs (lone (aC fi ro tm (.code (.cond c a b)::g) bz .run) cs w) o:=λo ho=>
    cD.of_steps n (.refl _ _) (bN.refl h.ctx) ho
   cases G<;>exact R.aE fin (eG d H (cons (.code _) _ rfl) z)
  |_=>trivial
 |exit id=>
  have D:=ET (id:=id) Z;show(match CL id k with|some k=>rec fi t k ds .run ctx s|none=>.bad _).path _;cases Y:CL id k with
  |some O=>rw[Y]at D;obtain⟨K,A,I⟩:=D;exact eG d h I (Yb A)
  |none=>exact R.aJ _ _
 |goto id=>exact R.aJ _ _
 |ret=>
  show(yf rec fi t ds ctx s (some .ret)).path _;refine yQ d (h.nK (cons (.code .ret) _ rfl)) _ ?_ ?_
  .intro B _;subst B;exact a2q
  .grind[FQ]
 |refuse TT=>trivial
 |rangeFunc f params assign body=>exact j f params assign body h
 |region id ops draw=>
  cases draw with
  |false=>
   refine R.pb _ (yM (k:=g) (ro:=ro) p d ops.toList (List.range ops.size) (Rq ops) h.rel h.tmps h.ro h.defs h.ctx) λr m=>?_
   exact yL p d h r (m.of_steps (Step.refl h.rel) (.one Re) (bN.refl h.ctx))
  |true=>
   refine R.pb _ (F d (k:=g) (ro:=ro) id ops h.rel h.tmps h.ro h.defs h.ctx) λr m=>?_
   exact yL p d h r m
end
end Go.Proofs.YtokipodjggomfaaGreatDoor.Abs
namespace Go.Proofs.YtokipodjggomfaaGreatDoor.Abs
open Go
section
variable{P:Program}{fi:FI}{ro:Option Nat}{tm:Array Value}{k:List Item}{ds:List Deferred}{cs:List Frame}{w w2 w3:World}
theorem Ue{f:Operand}{params:Array Tmp}{assign body:Code}{l:Nat}{mark:List Deferred}{g:FuncId}{args:Array Value}
  (c:(Instr.enterLoop fi.fn tm params assign body ro).run P w=.ok (l,mark) w2)
  (V:(do let d <-Deferred.ofValue (Act.eval ⟨tm,ds⟩ f) #[.func (.yield l) #[] #[]];invoke d.target d.args:Sem Next).run P w2=.ok (.enter g args) w3):
  step P (lone (aC fi ro tm (.code (.rangeFunc f params assign body)::k) ds .run) cs w)=
   .next (lone (Frame.enter P g args .normal) (aC fi ro tm (.inRangeFunc l::k) (mark++ds) .run::cs) w3):=by
 have b:=CG (fi:=fi) (ro:=ro) (tm:=tm) (ds:=mark++ds) (.inRangeFunc l::k) .run;have a:Act.eval ⟨tm,mark++ds⟩=Act.eval ⟨tm,ds⟩:=by funext x;cases x<;>rfl
 simp only[aC,a]at b;refine cz ?_;simp only[stepG,stepG.exec,aC,Sem.runT_eq,c,GStep.bare_after,stepG.apply,aH,resolve,b];have K:Sem.run P (do
   let d <-Deferred.ofValue (Act.eval ⟨tm,ds⟩ f) (Array.map (Act.eval ⟨tm,ds⟩) #[Operand.const (Value.func (Fn.yield l) #[] #[])])
   invoke d.target d.args) w2=.ok (.enter g args) w3:=by
  rw[<-V];simp[Act.eval]
 simp only[K];rfl
theorem zF(l:Nat)(v:Value):(aC fi ro tm (.inRangeFunc l::k) ds .run).finish v=aC fi ro tm (.endRangeFunc l::k) ds .run:=rfl
theorem mq(w:World)(o:Obj):(w.alloc o).heap.size=w.heap.size+1:=by show(w.heap.push o).size=_;simp
theorem ui{params:Array Tmp}{assign body:Code}(fn:FuncId):(Instr.enterLoop fn tm params assign body none).run P w=
  .ok (w.heap.size+1,[{ target:=.collected w.heap.size,args:=#[] }])
    ((w.alloc (.deferred (some []))).alloc (.loop { state:=.ready,pending:=none,fn,tmps:=tm,params,assign,body,defers:=w.heap.size })):=by
 have a:∀(o:Obj)(w:World),(newObj o).run P w=.ok w.heap.size (w.alloc o):=λ_ _=>rfl
 unfold Instr.enterLoop;simp only[aA,a,aP,aY,pure_bind];rw[mq]
theorem IQ{l:Nat}{lp:Loop}(b:w.heap[l]? =some (.loop lp))(c:lp.state≠.busy):
  step P (lone (aC fi ro tm (.endRangeFunc l::k) ds .run) cs w)=
   .next (lone (aC fi ro tm ((lp.pending.map Item.code).toList++k) ds .run) cs { w with heap:=w.heap.setIfInBounds l (.loop { lp with state:=.exhausted }) }):=by
 have A:(getObj l).run P w=.ok (.loop lp) w:=ly b (by simp);have I:(setObj l (.loop { lp with state:=.exhausted })).run P w=.ok () { w with heap:=w.heap.setIfInBounds l (.loop { lp with state:=.exhausted }) }:=nP b (by simp);have d:(Instr.endLoop l).run P w=.ok lp.pending { w with heap:=w.heap.setIfInBounds l (.loop { lp with state:=.exhausted }) }:=by
  have a:(lp.state==.busy)=false:=by simpa using c
  unfold Instr.endLoop Instr.getLoop;simp only[aA,A,aP,aY,bind_assoc,a,dY,aQ,I]
 refine cz ?_;simp[stepG,stepG.exec,aC,d]
theorem Dx{l:Nat}{lp:Loop}(a:w.heap[l]? =some (.loop lp))(b:lp.state=.ready):
  step P (lone (aC fi (some l) tm (.beginRound::k) ds .run) cs w)=
   .next (lone (aC fi (some l) tm k ds .run) cs { w with heap:=w.heap.setIfInBounds l (.loop { lp with state:=.busy }) }):=by
 have A:(getObj l).run P w=.ok (.loop lp) w:=ly a (by simp);have I:(setObj l (.loop { lp with state:=.busy })).run P w=.ok () { w with heap:=w.heap.setIfInBounds l (.loop { lp with state:=.busy }) }:=nP a (by simp);have c:(Instr.beginRound l).run P w=.ok () { w with heap:=w.heap.setIfInBounds l (.loop { lp with state:=.busy }) }:=by unfold Instr.beginRound Instr.getLoop;simp only[aA,A,aP,aY,bind_assoc,I,b]
 refine cz ?_;simp[stepG,stepG.exec,aC,stepG.apply,c,Frame.finish]
end
section
variable{C:Ctx}{base:Nat}{E:G}{s:S}{w:World}{fi:FI}{ro:Option Nat}{t:Tr AV}{tm:Array Value}{items:List Item}{ds:List gO}{bz:List Deferred}{ctx:Option (List PE)}{cs:List Frame}
def a5O(pe:Option Code):List bH:=
 match pe with
 |some c=>[.code c]
 |none=>[]
theorem DF{rec:Rec}(a:ep C base rec){l:Nat}{F:Loc}(j:E l=some F){k:List bH}{f:List Item}(h:SS C base E fi ro t k ds ctx s tm f bz cs w):
  (a3c l k C rec fi t ds ctx s).path (cD C base E s w fi cs (lone (aC fi ro tm (.endRangeFunc F.ay::f) bz .run) cs w)):=by
 unfold a3c;refine R.bh _ (je h.rel l) λr n=>?_
 obtain⟨st,pe,fn,nt,tmps,params,assign,body,b,rfl,m⟩:=n;obtain⟨g,o,g1,g2,g3⟩:=h.rel.ay l _ m;obtain rfl:F=g:=by rw[j]at g1;exact ae g1
 obtain⟨d,ld,g4,g5,rfl⟩:=g3;have e:Step C base E s w E ⟨s.h.set l (.loop .exhausted pe fn nt tmps params assign body b),s.next,s.pc⟩ { w with heap:=w.heap.setIfInBounds F.ay _ }:=
  Step.nO h.rel m j g2 rfl rfl (N:=.loop .exhausted pe fn nt tmps params assign body b)
   (T:=.loop { state:=.exhausted,pending:=pe,fn,tmps:=d,params:=⟨params⟩,assign,body,defers:=ld.ay }) ⟨d,ld,g4,g5,rfl⟩ rfl rfl rfl rfl
 have fin:st≠.busy->(rec fi t (a5O pe++k) ds .run ctx ⟨s.h.set l (.loop .exhausted pe fn nt tmps params assign body b),s.next,s.pc⟩).path
   (cD C base E s w fi cs (lone (aC fi ro tm (.endRangeFunc F.ay::f) bz .run) cs w)):=λi=>by
  have p:=IQ (P:=C.P) (fi:=fi) (ro:=ro) (tm:=tm) (k:=f) (ds:=bz) (cs:=cs) g2 i;refine R.aE (λ_ ho=>cD.of_steps e (.one p) (bN.refl h.ctx) ho) (a E fi ro t _ ds .run ctx _ tm _ bz .run cs _
   ⟨e.rel,h.ro,h.tmps,λ_=>?_,h.defs,rfl,h.ctx,h.fn,h.rk⟩)
  have Z:=h.todo rfl;cases pe with
  |none=>exact Z
  |some c=>exact cB.2 ⟨_,_,rfl,Z,rfl⟩
 cases st with
 |busy=>trivial
 |ready=>exact fin (by simp)
 |done=>exact fin (by simp)
 |exhausted=>exact fin (by simp)
theorem zA{rec:Rec}(c:ep C base rec){k:List bH}{g:List Item}(h:SS C base E fi ro t k ds ctx s tm g bz cs w):
  (MU k C rec fi t ds ctx s).path (cD C base E s w fi cs (lone (aC fi ro tm (.beginRound::g) bz .run) cs w)):=by
 unfold MU;cases d:fi.roundOf with
 |none=>trivial
 |some l=>
  have a:=h.ro;rw[d]at a;cases ro with
  |none=>exact a.elim
  |some q=>
   obtain⟨F,j,rfl⟩:=a;simp only;refine R.bh _ (je h.rel l) λr n=>?_
   obtain⟨st,pe,fn,nt,tmps,params,assign,body,b,rfl,m⟩:=n;obtain⟨i,o,g1,g2,g3⟩:=h.rel.ay l _ m;obtain rfl:F=i:=by rw[j]at g1;exact ae g1
   obtain⟨e,ld,g4,g5,rfl⟩:=g3;cases st with
   |ready=>
    have f:Step C base E s w E ⟨s.h.set l (.loop .busy pe fn nt tmps params assign body b),s.next,s.pc⟩ { w with heap:=w.heap.setIfInBounds F.ay _ }:=
     Step.nO h.rel m j g2 rfl rfl (N:=.loop .busy pe fn nt tmps params assign body b)
      (T:=.loop { state:=.busy,pending:=pe,fn,tmps:=e,params:=⟨params⟩,assign,body,defers:=ld.ay }) ⟨e,ld,g4,g5,rfl⟩ rfl rfl rfl rfl
    have p:=Dx (P:=C.P) (fi:=fi) (tm:=tm) (k:=g) (ds:=bz) (cs:=cs) g2 rfl;exact R.aE (λ_ ho=>cD.of_steps f (.one p) (bN.refl h.ctx) ho) (c E fi (some F.ay) t k ds .run ctx _ tm g bz .run cs _
     ⟨f.rel,h.ro,h.tmps,h.todo,h.defs,rfl,h.ctx,h.fn,h.rk⟩)
   |_=>trivial
theorem BL(hC:Good C){rec:Rec}(i:ep C base rec){m:G}{s2:S}{w2:World}(p:Step C base E s w m s2 w2){k:List bH}{j:List Item}
  (h:SS C base E fi ro t k ds ctx s tm j bz cs w) {f:Operand} {params:Array Tmp} {assign body:Code} {Q:AV} (hf:ag E Q=some (Act.eval ⟨tm,bz⟩ f))
  {l:Nat} {F:Loc} (hl:m l=some F) {mark:List Deferred} {z:List gO} (A:cN fi.tl m z=some (mark++bz))
  (D:(Instr.enterLoop fi.fn tm params assign body ro).run C.P w=.ok (F.ay,mark) w2):
  (do match <-sE C s2 Q [.yield l]with
    | .enter f args U=>do let o <-KR C rec f args U;W7 rec fi t k z ctx l o
    |_=>.bad "rangeFunc":R Out).path (cD C base E s w fi cs (lone (aC fi ro tm (.code (.rangeFunc f params assign body)::j) bz .run) cs w)):=by
 refine R.bh _ (uy hC p.rel Q _ (e9 p.grow _ _ hf) [.yield l] [.func (.yield F.ay) ⟨[]⟩ ⟨[]⟩] (by simp[ax,ag,hl])) λx Y=>?_
 cases x with
 |enter g args U=>
  obtain⟨γ3,al,w3,hr,q,b⟩:=Y;have H:=p.trans b;have d:=Ue (P:=C.P) (fi:=fi) (ro:=ro) (k:=j) (cs:=cs) D hr;simp only;refine R.bh _ (BQ hC i b.rel g q (cs:=aC fi ro tm (.inRangeFunc F.ay::j) (mark++bz) .run::cs)) λout I=>?_
  obtain⟨⟨fn,hfn⟩,n,B,M,T,c,V,J,K⟩:=I;have L:T=aC fi ro tm (.inRangeFunc F.ay::j) (mark++bz) .run::cs:=J;subst L;have a:=H.trans c;obtain⟨W,X,r⟩:=(b.grow.trans c.grow) l F hl;have N:W.ay=F.ay:=r.1;have u:=b7 (b.grow.trans c.grow) A;obtain⟨res,a2N,os⟩:=out;unfold W7;cases res with
  |ret v=>
   obtain⟨cv,hcv,fr',e,Z,hkq,hm,ZE,fn',O,hrs⟩:=K;have y:Steps C.P (lone (aC fi ro tm (.code (.rangeFunc f params assign body)::j) bz .run) cs w) (lone (aC fi ro tm (.endRangeFunc F.ay::j) (mark++bz) .run) cs M):=by refine .head d (e.trans (.one ?_));rw[<-zF F.ay cv];exact step_leave_returned ⟨hm,ZE,hkq,fn',by rw[Z];exact O,hrs⟩
   refine R.aE (λ_ ho=>cD.of_steps a y (bN.refl h.ctx) ho) (i B fi ro t _ _ .run ctx os tm _ _ .run cs M
    ⟨a.rel,h.ro.grow a.grow,h.tmps.grow a.grow,λ_=>cB.2 ⟨.endRangeFunc F.ay,j,?_,kj a.grow (h.todo rfl),rfl⟩,u,rfl,h.ctx.grow a.grow,h.fn,h.rk⟩)
   simp[iI,X,N]
  |eH ch=>exact R.aJ _ _
 |_=>trivial
theorem Jz(p:Good C){rec:Rec}(c:ep C base rec)(f:Operand)(params:Array Tmp)(assign body:Code){k:List bH}{o:List Item}
  (h:SS C base E fi ro t k ds ctx s tm o bz cs w):
  (Gg C rec fi t k ds ctx f params assign body s).path (cD C base E s w fi cs (lone (aC fi ro tm (.code (.rangeFunc f params assign body)::o) bz .run) cs w)):=by
 unfold Gg;refine R.bh _ (bf (a:=⟨tm,bz⟩) h.rel h.tmps f) λr q=>?_
 cases d:fi.roundOf with
 |some l=>exact R.aJ _ _
 |none=>
  have e:=h.ro;rw[d]at e;cases ro with
  |some _=>exact e.elim
  |none=>
   simp only;have b:=Step.alloc h.rel (.eC (some [])) (.deferred (some [])) 0 0 (M:=w.alloc (.deferred (some []))) rfl rfl rfl rfl
    (λB j=>⟨[],rfl,rfl⟩)
   have g:=Step.alloc b.rel (.loop .ready none fi.fn fi.nt t params.toList assign body s.next)
    (.loop { state:=.ready,pending:=none,fn:=fi.fn,tmps:=tm,params,assign,body,defers:=w.heap.size }) 0 0
    (M:=(w.alloc (.deferred (some []))).alloc (.loop { state:=.ready,pending:=none,fn:=fi.fn,tmps:=tm,params,assign,body,defers:=w.heap.size })) rfl rfl rfl rfl
    (λB j=>by
      obtain⟨m,g6,g7⟩:=j s.next ⟨w.heap.size,0,0,none⟩ (by simp);exact⟨tm,m,(h.tmps.grow b.grow).grow j,g6,by rw[g7.1]⟩)
   have i:=b.trans g;refine BL p c i h q (l:=(s.new (.eC (some []))).next) (F:=⟨w.heap.size+1,0,0,none⟩) (by simp) (mark:=[{ target:=.collected w.heap.size,args:=#[] }]) ?_ ?_
   .refine fG.2 ⟨{ target:=.collected w.heap.size,args:=#[] },bz,?_,b7 i.grow h.defs,rfl⟩;have n:s.next≠(s.new (.eC (some []))).next:=eS (zQ _);simp[pF,n]
   .exact ui fi.fn
end
end Go.Proofs.YtokipodjggomfaaGreatDoor.Abs
namespace Go.Proofs.YtokipodjggomfaaGreatDoor.Abs
open Go
section
variable{C:Ctx}{base:Nat}{E:G}{s:S}{w:World}{fi:FI}{ro:Option Nat}{t:Tr AV}{tm:Array Value}{items:List Item}{ds:List gO}{bz:List Deferred}{ctx:Option (List PE)}{cs:List Frame}
def F7(tm:Array Value)(r:ResultVar):Sem Value:=
 match r with
 | .tmp t=>pure (tm.getD t undef)
 | .cell a t=>do loadVar t (<-asAddr (tm.getD a undef))
theorem wx(n:Good C)(h:Rel C base E s w)(i:aD E fi.nt t tm):∀l:List ResultVar,
  (Am C s t l).path (λvs=>∃b,ax E vs=some b/\(l.mapM (F7 tm)).run C.P w=.ok b w)
 | []=>⟨[],rfl,by simp⟩
 |r::l=>by
  unfold Am;refine R.bh (λv=>∃f,ag E v=some f/\(F7 tm r).run C.P w=.ok f w) ?_ λv j=>?_
  .cases r with
   |tmp d=>refine R.aE ?_ (bf (a:=⟨tm,[]⟩) h i (.tmp d));intro v j;exact⟨_,j,rfl⟩
   |cell a ty=>
    refine R.bh _ (bf (a:=⟨tm,[]⟩) h i (.tmp a)) λp o=>?_
    refine R.aE ?_ (yP n h ty p _ o);rintro v ⟨ad,c,e, -,I,W⟩;refine⟨c,I,?_⟩;have e:tm.getD a undef=.pointer (some ad):=e;simp only[F7,e,asAddr,pure_bind];exact W
  .obtain⟨f,k,g⟩:=j;refine R.bh _ (wx n h i l) λvs m=>?_
   obtain⟨b,A,I⟩:=m;refine⟨f::b,av.2 ⟨f,b,k,A,rfl⟩,?_⟩;simp only[List.mapM_cons,aA,g,aP,I,aY]
theorem Gy(j:Good C)(m:Rel C base E s w)(n:aD E fi.nt t tm):
  (Bz C s fi t).path (λv=>∃k fn,ag E v=some k/\C.P.funcs[fi.fn]? =some fn/\(results fn tm).run C.P w=.ok k w):=by
 unfold Bz;cases o:C.F.get fi.fn with
 |none=>trivial
 |some fn=>
  have f:=xf j o;simp only;refine R.bh _ (wx j m n fn.results.toList) λvs g=>?_
  obtain⟨c,A,I⟩:=g;have d:(results fn tm).run C.P w=.ok (if h:c.toArray.size=1 then c.toArray[0]else .tuple c.toArray) w:=by
   have e:results fn tm=(do
     let vs <-fn.results.mapM (F7 tm)
     pure (if h:vs.size=1 then vs[0]else .tuple vs)):=by
    unfold results;congr 1
   rw[e];simp only[Array.mapM_eq_mapM_toList,aA,Sem.run_map,I,aP,aY]
  refine⟨_,fn,?_,f,d⟩;cases vs with
  |nil=>simp only[ax,ar]at A;subst A;simp[wJ,ag,ax]
  |cons x l=>
   obtain⟨a,b,p,i,rfl⟩:=av.1 A;cases l with
   |nil=>simp only[ax,ar]at i;subst i;simpa[wJ]using p
   |cons y O=>
    obtain⟨a',N,_,_,rfl⟩:=av.1 i;have:¬((a::a'::N).toArray.size=1):=by simp
    rw[dif_neg this];simp only[wJ,ag,A,bX]
end
end Go.Proofs.YtokipodjggomfaaGreatDoor.Abs
namespace Go.Proofs.YtokipodjggomfaaGreatDoor.Abs
open Go
def settled(m:FrameMode):FrameMode:=
 match m with
 | .panicking ({ recovered:=true,.. }::a)=>
   match a.dropWhile (!·.goexit)with
   | []=>.returning
   |rest=>.panicking rest
 |m=>m
section
variable{P:Program}{fi:FI}{ro:Option Nat}{tm:Array Value}{k:List Item}{ds:List Deferred}{cs:List Frame}{w M:World}
theorem vO{b c:Frame}{v:Value}(d:b.mode=.returning)(f:b.defers=[])(Z:b.kind=.deferred){fn:Func}(h:P.funcs[b.fn]? =some fn)(i:(results fn b.tmps).run P w=.ok v w):
  step P (lone b (c::cs) w)=.next (lone { c with mode:=settled c.mode } cs w):=by
 refine cz ?_;have e:({ c with mode:=settled c.mode }:Frame)=(match c.mode with
   | .panicking ({ recovered:=true,.. }::a)=>
     match a.dropWhile (!·.goexit)with
     | []=>{ c with mode:=.returning }
     |rest=>{ c with mode:=.panicking rest }
   |_=>c):=by
  obtain⟨a1,a2,a3,a4,m,j,k⟩:=c;simp only[settled];cases m with
  |panicking ch=>
   cases ch with
   |nil=>rfl
   |cons p a=>
    obtain⟨v,r,g⟩:=p;cases r with
    |false=>rfl
    |true=>simp only;cases a.dropWhile (!·.goexit)<;>rfl
  |_=>rfl
 rw[e];simp[stepG,unwind,doReturn,d,f,Z,h,i];rfl
theorem FT{b:Nat}{l:List Deferred}{m:FrameMode}(d:m≠.run)(a:w.heap[b]? =some (.deferred (some l))):
  step P (lone (aC fi ro tm k ({ target:=.collected b,args:=#[] }::ds) m) cs w)=.next (lone (aC fi ro tm k (l++ds) m) cs { w with heap:=w.heap.setIfInBounds b (.deferred none) }):=by
 have A:(getObj b).run P w=.ok (.deferred (some l)) w:=ly a (by simp);have I:(setObj b (.deferred none)).run P w=.ok () { w with heap:=w.heap.setIfInBounds b (.deferred none) }:=nP a (by simp);have c:(Instr.takeDeferred b).run P w=.ok l { w with heap:=w.heap.setIfInBounds b (.deferred none) }:=by unfold Instr.takeDeferred;simp only[aA,A,I,aP,aY]
 refine cz ?_;cases m with
 |run=>exact absurd rfl d
 |returning=>simp[stepG,unwind,aC,c]
 |panicking ch=>simp[stepG,unwind,aC,c]
theorem zr{d:Deferred}{f:FuncId}{args:Array Value}{m:FrameMode}{g:Fn}{cap:Array Value}(c:m≠.run)(b:d.target=.fn g cap)
  (a:(invoke d.target d.args).run P w=.ok (.enter f args) M):
  step P (lone (aC fi ro tm k (d::ds) m) cs w)=.next (lone (Frame.enter P f args .deferred) (aC fi ro tm k ds m::cs) M):=by
 obtain⟨e,as⟩:=d;simp only at b a;subst b;refine cz ?_;cases m with
 |run=>exact absurd rfl c
 |returning=>simp[stepG,unwind,aC,callDeferred,a]
 |panicking ch=>simp[stepG,unwind,aC,callDeferred,a]
end
section
variable{C:Ctx}{base:Nat}{E:G}{s:S}{w:World}{fi:FI}{ro:Option Nat}{t:Tr AV}{tm:Array Value}{items:List Item}{ds:List gO}{bz:List Deferred}{ctx:Option (List PE)}{cs:List Frame}
theorem xq:∀{l:List PE}{r:List PanicEntry},fa E l=some r->r.dropWhile (!·.goexit)=[]
 | [],r,h=>by simp only[fa,ar]at h;subst h;rfl
 |x::l,r,h=>by
  obtain⟨a,b,c,d,rfl⟩:=fp.1 h;simp only[iA,aN]at c;obtain⟨v,_,rfl⟩:=c;simp[List.dropWhile,xq d]
theorem LP{m:ku}{c:FrameMode}(h:mZ E m c):mZ E (rY m) (settled c):=by
 cases m with
 |run=>rw[show c=.run from h];rfl
 |ret=>rw[show c=.returning from h];rfl
 |eH ch=>
  obtain⟨k,d,rfl⟩:=h;cases ch with
  |nil=>simp only[fa,ar]at d;subst d;exact⟨[],rfl,rfl⟩
  |cons p e=>
   obtain⟨a,b,f,i,rfl⟩:=fp.1 d;obtain⟨v,r⟩:=p;have g:=f;simp only[iA,aN]at f;obtain⟨l,j,rfl⟩:=f;cases r with
   |false=>exact⟨_,fp.2 ⟨_,b,g,i,rfl⟩,rfl⟩
   |true=>simp only[rY,settled,xq i];rfl
theorem tq{tl:List Deferred}:∀{l:List AD}{c:List Deferred},fE E l=some c->∀{ds:List gO}{bz:List Deferred},cN tl E ds=some bz->cN tl E (l.map .call++ds)=some (c++bz)
 | [],c,h,ds,bz,e=>by grind[fE]
 |d::l,c,h,ds,bz,e=>by
  simp only[fE]at h;cases A:kY E d with
  |none=>simp[A]at h
  |some a=>
   cases I:fE E l with
   |none=>simp[A,I]at h
   |some b=>simp only[A,I,ar]at h;subst h;exact fG.2 ⟨a,b++bz,A,tq I e,rfl⟩
theorem yT(hC:Good C){rec:Rec}(D:ep C base rec){todo:List bH}{d:gO}{mode:ku}{m:FrameMode}(L:mode≠.run)
  (h:gN C base E fi ro t todo (d::ds) mode ctx s tm items bz m cs w):
  (Nb C rec fi t mode ctx s d ds).path (cD C base E s w fi cs (lone (aC fi ro tm items bz m) cs w)):=by
 obtain⟨cd,i,hd,X,rfl⟩:=fG.1 h.defs;have hm:m≠.run:=by
  have:=h.mode;cases mode with
  |run=>exact absurd rfl L
  |ret=>rw[show m=.returning from this];simp
  |eH ch=>obtain⟨_,_,rfl⟩:=this;simp
 cases d with
 |collected r=>
  simp only[pF,aN]at hd;obtain⟨F,hl,rfl⟩:=hd;show(match s.h.get r with|some (.eC (some l))=>rec fi t [] (l.map gO.call++ds) mode ctx ⟨s.h.set r (.eC none),s.next,s.pc⟩|_=>R.bad "collected").path _;cases hb:s.h.get r with
  |none=>trivial
  |some x=>
   cases x with
   |eC y=>
    cases y with
    |none=>trivial
    |some l=>
     simp only;obtain⟨lc',o,g1,g2,cl,g3,rfl⟩:=h.rel.ay r _ hb;obtain rfl:F=lc':=by rw[hl]at g1;exact ae g1
     have z:Step C base E s w E ⟨s.h.set r (.eC none),s.next,s.pc⟩ { w with heap:=w.heap.setIfInBounds F.ay (.deferred none) }:=
      Step.nO h.rel hb hl g2 rfl rfl (N:=.eC none) (T:=.deferred none) rfl rfl rfl rfl rfl
     refine R.aE (λ_ ho=>cD.of_steps z (.one (FT hm g2)) (bN.refl h.ctx) ho) (D E fi ro t [] _ mode ctx _ tm items _ m cs _
      ⟨z.rel,h.ro,h.tmps,λZ=>absurd Z L,tq g3 X,h.mode,h.ctx,h.fn,h.rk⟩)
   |_=>trivial
 |call ad=>
  have u:kY E ad=some cd:=hd;unfold kY at u;cases ht:ag E ad.target with
  |none=>simp[ht]at u
  |some cf=>
   cases ha:ax E ad.args with
   |none=>simp[ht,ha]at u
   |some c=>
    rw[ht,ha]at u;cases cf with
    |func g a b=>
     simp only[ar]at u;subst u;refine R.bh _ (uy hC h.rel ad.target _ ht ad.args c ha) λx Y=>?_
     cases x with
     |enter f args U=>
      obtain⟨XD,al,w1,Z,O,z⟩:=Y;have hr':(invoke (.fn g b) (a++⟨c⟩)).run C.P w=.ok (.enter f ⟨al⟩) w1:=by rw[<-Z];simp[Deferred.ofValue]
      have G:=zr (P:=C.P) (fi:=fi) (ro:=ro) (tm:=tm) (k:=items) (ds:=i) (cs:=cs) (d:={ target:=.fn g b,args:=a++⟨c⟩ }) hm rfl hr';have Q:eu XD .deferred (Pg mode) (aC fi ro tm items i m::cs):=by
       have hmd:=h.mode.grow z.grow;refine⟨_,cs,rfl,?_⟩;cases mode with
       |run=>exact absurd rfl L
       |ret=>exact hmd
       |eH ch=>obtain⟨cc,A,I⟩:=hmd;exact⟨cc,A,I⟩
      simp only;refine R.bh _ (qQ hC D z.rel f O .deferred Q) λout VQ=>?_
      obtain⟨⟨fn,hfn⟩,n,B,M,cs',a3f,S,a8c,K⟩:=VQ;obtain⟨c0,nQ,m',he1,he2⟩:=a8c;injection he1 with he3 he4;subst he3;subst he4;subst he2;have j:=z.trans a3f;obtain⟨c1,BA,he5,q⟩:=S;injection he5 with he6 he7;subst he6;subst he7;have H:mZ B (pO out) m':=by
       unfold pO;cases ho:out.ctx with
       |none=>rw[ho]at q;exact q
       |some ch=>rw[ho]at q;obtain⟨cc,A,I⟩:=q;exact⟨cc,A,I⟩
      have hgo:∀(e:ku)(m2:FrameMode),mZ B e m2->e≠.run->
        Steps C.P (lone (aC fi ro tm items ({ target:=.fn g b,args:=a++⟨c⟩ }::i) m) cs w) (lone (aC fi ro tm items i m2) cs M)->
        (rec fi t [] ds e ctx out.s).path (cD C base E s w fi cs (lone (aC fi ro tm items ({ target:=.fn g b,args:=a++⟨c⟩ }::i) m) cs w)):=λe m2 A I W=>
       R.aE (λ_ ho=>cD.of_steps j W (bN.refl h.ctx) ho) (D B fi ro t [] ds e ctx out.s tm items i m2 cs M
         ⟨j.rel,h.ro.grow j.grow,h.tmps.grow j.grow,λZ=>absurd Z I,b7 j.grow X,A,h.ctx.grow j.grow,h.fn,h.rk⟩)
      cases V:out.res with
      |ret v=>
       rw[V]at K;obtain⟨cv,hcv,fr',J,hfq,hkq,hmq,ZE,fn',a3i,hrs⟩:=K;refine hgo _ _ (LP H) ?_ (.head G (J.trans (.one ?_)))
       .unfold pO;cases out.ctx with
        |none=>simp[rY]
        |some ch=>
         cases ch with
         |nil=>simp[rY]
         |cons p a1l=>obtain⟨pv,pr⟩:=p;cases pr<;>simp[rY]
       .exact vO hmq ZE hkq (by rw[hfq];exact a3i) hrs
      |eH ch=>exact R.aJ _ _
     |_=>trivial
    |_=>simp at u
theorem LL(g:Good C)(A:QY C base){rec:Rec}(a:ep C base rec):ep C base (a1J C rec):=by
 intro E fi ro t todo ds mode ctx s tm items bz m cs w h;cases mode with
 |run=>
  obtain rfl:m=.run:=h.mode;have Z:=h.todo rfl;cases todo with
  |nil=>
   simp only[gJ,ar]at Z;subst Z;show(yf rec fi t ds ctx s none).path _;refine yQ a h _ ?_ ?_
   .intro q _;subst q;exact a2r
   .grind[FR]
  |cons x k=>
   obtain⟨i,B,V,e,rfl⟩:=cB.1 Z;have j:SS C base E fi ro t k ds ctx s tm B bz cs w:=gN.nK h e;show(a1s x k C rec fi t ds ctx s).path _;cases x with
   |code c=>simp only[iI,ar]at V;subst V;exact RC g A a c (λf params assign body _ _ h=>Jz g a f params assign body h) j
   |inBlock id=>simp only[iI,ar]at V;subst V;exact eG a j e LJ
   |inLoop b=>simp only[iI,ar]at V;subst V;exact BM g a j (cB.2 ⟨_,_,rfl,cB.2 ⟨_,_,rfl,e,rfl⟩,rfl⟩) Rf
   |inScope b=>simp only[iI,ar]at V;subst V;exact eG a j e LI
   |inRange l=>trivial
   |endRange l=>simp only[iI,aN]at V;obtain⟨F,D,rfl⟩:=V;exact DF a D j
   |beginRound=>simp only[iI,ar]at V;subst V;exact zA a j
 |ret=>
  obtain rfl:m=.returning:=h.mode;show(a4z C rec fi t ds ctx s).path _;unfold a4z;cases n:fi.roundOf with
  |some l=>trivial
  |none=>
   cases ds with
   |cons d ds=>exact yT g a (by simp) h
   |nil=>
    have o:=h.defs;simp only[cN,ar]at o;subst o;refine R.pb _ (Gy g h.rel h.tmps) λv G=>?_
    obtain⟨H,fn,r,u,y⟩:=G;refine⟨E,w,cs,Step.refl h.rel,h.ctx,bN.refl h.ctx,H,r,?_⟩;rw[n];exact⟨aC fi ro tm items _ .returning,oF _ _,rfl,rfl,rfl,rfl,fn,u,y⟩
 |eH ch=>
  show(a4A C rec fi t ds ctx s ch).path _;unfold a4A;cases ds with
  |cons d ds=>exact yT g a (by simp) h
  |nil=>have o:=h.defs;simp only[cN,ar]at o;subst o;obtain⟨p,z,rfl⟩:=h.mode;exact⟨E,w,cs,Step.refl h.rel,h.ctx,bN.refl h.ctx,p,z,aC fi ro tm items _ (.panicking p),oF _ _,rfl,rfl,rfl⟩
theorem xT(a:Good C)(b:QY C base):∀n,ep C base (zu C n)
 |0=>λ_ _ _ _ _ _ _ _ _ _ _ _ _ _ _ _=>trivial
 |n+1=>LL a b (xT a b n)
end
end Go.Proofs.YtokipodjggomfaaGreatDoor.Abs
namespace Go.Proofs.YtokipodjggomfaaGreatDoor.Abs
open Go
def tG(l:List Operand)(t Q:Tr AV):Prop:=∀d,Operand.tmp d∈l->t.get d=Q.get d
theorem tG.mono {l m:List Operand} {t Q:Tr AV} (h:tG l t Q) (a:∀x,x∈m->x∈l):tG m t Q:=λd b=>h d (a _ b)
section
variable{C:Ctx}{t Q:Tr AV}
theorem b6(x:Operand)(h:tG [x] t Q):kW C t x=kW C Q x:=by
 cases x with
 |tmp d=>have:=h d (by simp);show@Option.rec AV (λ_=>R AV) (.ok (.jy [])) (λv=>qV v) (t.get d)=@Option.rec AV (λ_=>R AV) (.ok (.jy [])) (λv=>qV v) (Q.get d);rw[this]
 |_=>rfl
theorem CM:∀(l:List Operand),tG l t Q->Wg C t l=Wg C Q l
 | [],_=>rfl
 |x::l,h=>by
  unfold Wg;rw[b6 x (h.mono (by simp)),CM l (h.mono (by intro y a;simp[a]))]
theorem M4:∀(x:Option Operand),tG x.toList t Q->evO C t x=evO C Q x
 |none,_=>rfl
 |some x,h=>by
  show(do let v <-kW C t x;R.ok (some v))=(do let v <-kW C Q x;R.ok (some v));rw[b6 x (h.mono (by simp))]
theorem AH:∀(l:List (Nat×Operand)),tG (l.map (·.2)) t Q->HN C t l=HN C Q l
 | [],_=>rfl
 |(i,x)::l,h=>by
  unfold HN;rw[b6 x (h.mono (by simp)),AH l (h.mono (by intro y a;simp only[mD,bQ];exact .inr a))]
theorem HO(o:Op)(ty:TypeId)(s:S)(h:tG o.operands.toList t Q):nA o ty C t s=nA o ty C Q s:=by
 cases o with
 |move x=>show nq x ty C t s=nq x ty C Q s;unfold nq;rw[b6 x (h.mono (by simp[Op.operands]))]
 |assign x=>show nq x ty C t s=nq x ty C Q s;unfold nq;rw[b6 x (h.mono (by simp[Op.operands]))]
 |pick c a b=>show x4 c a b ty C t s=x4 c a b ty C Q s;unfold x4;rw[b6 c (h.mono (by simp[Op.operands])),b6 a (h.mono (by simp[Op.operands])),b6 b (h.mono (by simp[Op.operands]))]
 |alloc e=>rfl
 |box e x=>show JR e x ty C t s=JR e x ty C Q s;unfold JR;rw[b6 x (h.mono (by simp[Op.operands]))]
 |build e ps=>show su e ps ty C t s=su e ps ty C Q s;unfold su;rw[AH _ (h.mono (by intro x Y;simpa[Op.operands]using Y))]
 |buildSlice e n ps=>show jh e n ps ty C t s=jh e n ps ty C Q s;unfold jh;rw[AH _ (h.mono (by intro x Y;simpa[Op.operands]using Y))]
 |insert a b c d=>show eB a b c d ty C t s=eB a b c d ty C Q s;unfold eB;rw[b6 b (h.mono (by simp[Op.operands])),b6 c (h.mono (by simp[Op.operands])),b6 d (h.mono (by simp[Op.operands]))]
 |load e x=>show x5 e x ty C t s=x5 e x ty C Q s;unfold x5;rw[b6 x (h.mono (by simp[Op.operands]))]
 |store e x y=>show o6 e x y ty C t s=o6 e x y ty C Q s;unfold o6;rw[b6 x (h.mono (by simp[Op.operands])),b6 y (h.mono (by simp[Op.operands]))]
 |nilCheck x=>show jP x ty C t s=jP x ty C Q s;unfold jP;rw[b6 x (h.mono (by simp[Op.operands]))]
 |binOp op e x y m=>show Ev op e x y ty C t s=Ev op e x y ty C Q s;unfold Ev;rw[b6 x (h.mono (by simp[Op.operands])),b6 y (h.mono (by simp[Op.operands]))]
 |unOp op e x=>show RI op x ty C t s=RI op x ty C Q s;unfold RI;rw[b6 x (h.mono (by simp[Op.operands]))]
 |convert a b x=>show x7 a b x ty C t s=x7 a b x ty C Q s;unfold x7;rw[b6 x (h.mono (by simp[Op.operands]))]
 |makeInterface e x=>show sr e x ty C t s=sr e x ty C Q s;unfold sr;rw[b6 x (h.mono (by simp[Op.operands]))]
 |makeFunc f a b=>
  show x6 f a b ty C t s=x6 f a b ty C Q s;unfold x6;rw[CM a.toList (h.mono (by intro x Y;simp only[Op.operands,zU,iR];exact .inl Y)),
   CM b.toList (h.mono (by intro x Y;simp only[Op.operands,zU,iR];exact .inr Y))]
 |makeMap e r=>
  show JP e r ty C t s=JP e r ty C Q s;unfold JP;cases r with
  |none=>rfl
  |some x=>simp only;rw[b6 x (h.mono (by simp[Op.operands]))]
 |slice e x lo V j=>
  show sk e x lo V j ty C t s=sk e x lo V j ty C Q s;unfold sk;rw[b6 x (h.mono (by simp[Op.operands])),M4 lo (h.mono (by intro y g;simp only[Option.mem_toList]at g;simp[Op.operands,g])),
   M4 V (h.mono (by intro y g;simp only[Option.mem_toList]at g;simp[Op.operands,g])),M4 j (h.mono (by intro y g;simp only[Option.mem_toList]at g;simp[Op.operands,g]))]
 |fieldAddr e x f=>show iF e x f ty C t s=iF e x f ty C Q s;unfold iF;rw[b6 x (h.mono (by simp[Op.operands]))]
 |indexAddr e x y=>show iE e x y ty C t s=iE e x y ty C Q s;unfold iE;rw[b6 x (h.mono (by simp[Op.operands])),b6 y (h.mono (by simp[Op.operands]))]
 |index e x y=>show sq e x y ty C t s=sq e x y ty C Q s;unfold sq;rw[b6 x (h.mono (by simp[Op.operands])),b6 y (h.mono (by simp[Op.operands]))]
 |lookup e x k ok=>show n0 e x k ok ty C t s=n0 e x k ok ty C Q s;unfold n0;rw[b6 x (h.mono (by simp[Op.operands])),b6 k (h.mono (by simp[Op.operands]))]
 |mapUpdate a b c d=>show eB a b c d ty C t s=eB a b c d ty C Q s;unfold eB;rw[b6 b (h.mono (by simp[Op.operands])),b6 c (h.mono (by simp[Op.operands])),b6 d (h.mono (by simp[Op.operands]))]
 |typeAssert x a b c=>show RJ x b c ty C t s=RJ x b c ty C Q s;unfold RJ;rw[b6 x (h.mono (by simp[Op.operands]))]
 |extract x i=>show lz x i ty C t s=lz x i ty C Q s;unfold lz;rw[b6 x (h.mono (by simp[Op.operands]))]
 |call c=>
  show ux c ty C t s=ux c ty C Q s;unfold ux;rw[CM c.args.toList (h.mono (by intro x Y;simp only[Op.operands,Call.operands,zU,iR];exact .inr Y))];cases l:c.callee with
  |builtin b=>rfl
  |value f=>simp only;rw[b6 f (h.mono (by simp[Op.operands,Call.operands,l]))]
  |invoke r n=>rfl
 |panic x=>show wI x ty C t s=wI x ty C Q s;unfold wI;rw[b6 x (h.mono (by simp[Op.operands]))]
 |_=>rfl
theorem JQ(c:Call)(h:tG (Op.defer c).operands.toList t Q):fN c C t=fN c C Q:=by
 unfold fN;rw[CM c.args.toList (h.mono (by intro x Y;simp only[Op.operands,Call.operands,zU,iR];exact .inr Y))];cases a:c.callee with
 |builtin b=>rfl
 |value f=>simp only;rw[b6 f (h.mono (by simp[Op.operands,Call.operands,a]))]
 |invoke r n=>rfl
theorem Xn(o:Op)(h:tG o.operands.toList t Q):aF o C t=aF o C Q:=by
 cases o with
 |box e x=>show K3 e x C t=K3 e x C Q;unfold K3;rw[b6 x (h.mono (by simp[Op.operands]))]
 |buildSlice e n ps=>show jt e n ps C t=jt e n ps C Q;unfold jt;rw[AH _ (h.mono (by intro x Y;simpa[Op.operands]using Y))]
 |_=>rfl
def me(ops:Array Oper)(o:Oper):Option Tmp:=
 match o.guard with
 |some (g,_)=>(ops[g]?).bind (·.dst)
 |none=>none
theorem iq(ops:Array Oper)(o:Oper)(h:∀d,me ops o=some d->t.get d=Q.get d):c8 ops o.guard t=c8 ops o.guard Q:=by
 unfold me at h;unfold c8;cases a:o.guard with
 |none=>rfl
 |some p=>
  obtain⟨g,b⟩:=p;rw[a]at h;simp only at h ⊢;have e:oh ops g=(ops[g]?).bind (·.dst):=by unfold oh;cases ops[g]? <;>rfl
  rw[e];cases c:(ops[g]?).bind (·.dst)with
  |none=>rfl
  |some d=>simp only;rw[h d c]
theorem U6(ops:Array Oper)(o:Oper)(h:∀d,me ops o=some d->t.get d=Q.get d):qS ops o.guard t=qS ops o.guard Q:=by
 unfold me at h;unfold qS;cases a:o.guard with
 |none=>rfl
 |some p=>
  obtain⟨g,b⟩:=p;rw[a]at h;simp only at h ⊢;have e:oh ops g=(ops[g]?).bind (·.dst):=by unfold oh;cases ops[g]? <;>rfl
  rw[e];cases c:(ops[g]?).bind (·.dst)with
  |none=>rfl
  |some d=>simp only;rw[h d c]
theorem Lt(ops:Array Oper)(o:Oper)(h:∀d,me ops o=some d->t.get d=Q.get d)(s:S):fx ops o.guard t s=fx ops o.guard Q s:=by grind[fx,U6,iq]
end
end Go.Proofs.YtokipodjggomfaaGreatDoor.Abs
namespace Go.Proofs.YtokipodjggomfaaGreatDoor.Abs
open Go
def R.all {α:Type} (r:R α) (P:α->Prop):Prop:=
 match r with
 | .ok a=>P a
 |_=>True
theorem R.aS {α j:Type} {P:j->Prop} {f:α->R j} (h:∀a,(f a).all P):∀(r:R α),(r>>=f).all P
 | .ok a=>h a
 | .bad _=>trivial
 | .ask _ _=>trivial
 | .must _ _=>trivial
def Dj(s:S)(x:Nx):Prop:=∀v U,x=.val v U->U.next=s.next->U=s
theorem bg(s:S)(v:AV):(R.ok (Nx.val v s)).all (Dj s):=by intro a U h _;injection h with _ h;exact h.symm
theorem Rb(s:S)(v:AV)(b:eD):(R.ok (Nx.val v (s.new b))).all (Dj s):=by intro c U h a;injection h with _ h;subst h;simp only[S.new]at a;have:s.next+1=s.next:=a;omega
theorem LG(s:S)(v:AV)(h:Tr eD)(pc:List Fact):(R.ok (Nx.val v ⟨h,Nat.add (Nat.add s.next 1) 1,pc⟩)).all (Dj s):=by intro b U e a;injection e with _ e;subst e;have:s.next+1+1=s.next:=a;omega
theorem LH(s:S)(v:AV)(pc:List Fact):(R.must pc (R.ok (Nx.val v s))).all (Dj s):=trivial
theorem Rc(o:Op)(ty:TypeId)(C:Ctx)(t:Tr AV)(s:S)(h:mR o=true):(nA o ty C t s).all (Dj s):=by
 cases o with
 |move x=>show(nq x ty C t s).all _;exact R.aS (λ_=>bg _ _) _
 |pick c a b=>
  show(x4 c a b ty C t s).all _;refine R.aS (λc=>?_) _;split
  .exact R.aS (λ_=>bg _ _) _
  .exact R.aS (λ_=>bg _ _) _
  .trivial
 |build e ps=>
  show(su e ps ty C t s).all _;refine R.aS (λ_=>R.aS (λ_=>R.aS (λd=>?_) _) _) _;split
  .grind[R.aS,bg]
  .grind[R.aS,bg]
  .trivial
 |load e x=>show(x5 e x ty C t s).all _;exact R.aS (λ_=>R.aS (λ_=>bg _ _) _) _
 |nilCheck x=>show(jP x ty C t s).all _;refine R.aS (λv=>?_) _;split<;>first|exact bg _ _|trivial|(split<;>first|exact bg _ _|trivial)
 |binOp op e x y w=>show(Ev op e x y ty C t s).all _;exact R.aS (λ_=>R.aS (λ_=>R.aS (λ_=>bg _ _) _) _) _
 |unOp op e x=>show(RI op x ty C t s).all _;exact R.aS (λ_=>R.aS (λ_=>bg _ _) _) _
 |convert a b x=>
  show(x7 a b x ty C t s).all _;refine R.aS (λv=>?_) _;unfold Wi;refine R.aS (λd1=>R.aS (λd2=>?_) _) _;split
  .split<;>first|exact bg _ _|trivial|(split<;>first|exact bg _ _|trivial)
  .split
   .trivial
   .trivial
   .trivial
   .split
    .unfold HW;refine R.aS (λi=>?_) _;split
     .split
      .grind[R.aS,LH]
      .trivial
     .trivial
    .trivial
   .split
    .unfold sH;refine R.aS (λi=>?_) _;split
     .grind[R.aS,bg]
     .trivial
    .trivial
  .split
   .unfold HY;refine R.aS (λi=>?_) _;split
    .grind[R.aS,Rb]
    .trivial
   .split
    .unfold HX;refine R.aS (λi=>?_) _;split
     .grind[R.aS,LG]
     .trivial
    .trivial
   .trivial
  .split
   .unfold xp;split
    .exact bg _ _
    .grind[R.aS,bg]
    .trivial
   .trivial
  .split
   .unfold xp;split
    .exact bg _ _
    .grind[R.aS,bg]
    .trivial
   .trivial
  .trivial
 |makeInterface e x=>show(sr e x ty C t s).all _;exact R.aS (λ_=>R.aS (λ_=>R.aS (λ_=>bg _ _) _) _) _
 |makeFunc f a b=>show(x6 f a b ty C t s).all _;exact R.aS (λ_=>R.aS (λ_=>R.aS (λ_=>bg _ _) _) _) _
 |slice e x lo V q=>show(sk e x lo V q ty C t s).all _;exact R.aS (λ_=>R.aS (λ_=>R.aS (λ_=>R.aS (λ_=>R.aS (λ_=>bg _ _) _) _) _) _) _
 |fieldAddr e x f=>
  show(iF e x f ty C t s).all _;refine R.aS (λd=>?_) _;split
  .refine R.aS (λ_=>R.aS (λ_=>R.aS (λ_=>R.aS (λv=>?_) _) _) _) _;split
   .exact bg _ _
   .trivial
  .trivial
 |indexAddr e x y=>
  show(iE e x y ty C t s).all _;refine R.aS (λ_=>R.aS (λv=>R.aS (λd=>?_) _) _) _;split
  .split
   .exact R.aS (λ_=>bg _ _) _
   .trivial
  .exact R.aS (λ_=>bg _ _) _
  .trivial
  refine R.aS (λ_=>?_) _;split<;>first|trivial|(split<;>first|trivial|(split<;>first|trivial|exact R.aS (λ_=>bg _ _) _|exact R.aS (λ_=>R.aS (λ_=>bg _ _) _) _))
 |index e x y=>
  show(sq e x y ty C t s).all _;refine R.aS (λ_=>R.aS (λv=>?_) _) _;split
  .exact R.aS (λ_=>R.aS (λ_=>bg _ _) _) _
  refine R.aS (λ_=>?_) _;split
  .refine R.aS (λd=>?_) _;split
   .split
    .exact bg _ _
    .trivial
   .trivial
  .trivial
 |lookup e x k ok=>
  show(n0 e x k ok ty C t s).all _;refine R.aS (λd=>?_) _;split
  .refine R.aS (λ_=>R.aS (λ_=>R.aS (λm=>R.aS (λ_=>?_) _) _) _) _;split
   .rename_i se _;have key:∀(l:List ME)(f:Option ME×S->R Nx)(s0:S),s0=s->(∀o,(f (o,s)).all (Dj s))->(pA s0 se l>>=f).all (Dj s):=by
     intro l f;induction l with
     |nil=>intro s0 g j;subst g;exact j none
     |cons x l u=>
      intro s0 g j;subst g;show(((yo s0 (.a2 (.bin .eql) se (cT x.k)))>>=λr=>match r.1 with|true=>R.ok (some x,r.2)|false=>pA r.2 se l)>>=f).all _;unfold yo;cases mO (.a2 (.bin .eql) se (cT x.k)) s0.pc with
      |none=>trivial
      |some b=>
       cases b with
       |true=>exact j (some x)
       |false=>exact u s0 rfl j
    refine key _ _ s rfl λo=>?_
    cases o with
    |some e=>exact bg _ _
    |none=>exact R.aS (λ_=>bg _ _) _
   .grind[R.aS,bg]
  .trivial
 |typeAssert x a b c=>show(RJ x b c ty C t s).all _;exact R.aS (λ_=>R.aS (λ_=>bg _ _) _) _
 |extract x i=>
  show(lz x i ty C t s).all _;refine R.aS (λv=>?_) _;split
  .exact R.aS (λ_=>bg _ _) _
  .trivial
 |call c=>
  show(ux c ty C t s).all _;unfold ux;refine R.aS (λargs=>?_) _;simp only[mR]at h;cases p:c.callee with
  |builtin b=>
   rw[p]at h;cases b with
   |len=>
    show(KV C s _ _).all _;unfold KV;split
    .grind[R.aS,bg]
    .trivial
   |_=>simp[a6v]at h
  |value f=>rw[p]at h;cases h
  |invoke r n=>rw[p]at h;cases h
 |_=>simp[mR]at h
theorem a3u{o:Oper}{C:Ctx}{t:Tr AV}{s:S}{v:AV}(h:mR o.op=true)(b:evQ o C t s=.ok v):nA o.op o.type C t s=.ok (.val v s):=by
 have d:=Rc o.op o.type C t s h;unfold evQ at b;cases c:nA o.op o.type C t s with
 |bad w=>rw[c]at b;cases b
 |ask n k=>rw[c]at b;cases b
 |must pc k=>rw[c]at b;cases b
 |ok x=>
  rw[c]at b d;cases x with
  |val e U=>
   have a:Vl s (.val e U)=.ok v:=b;simp only[Vl]at a;split at a
   .next f=>
    injection a with a;subst a;have:=d e U rfl (aL f);rw[this]
   .cases a
  |_=>cases b
def a0G(C:Ctx)(E:G)(w:World)(x:Result Next)(r:AK×eD):Prop:=
 ∃obj dl cp a,x=.ok (.value a) (w.alloc obj)/\(∀B,Grow E B->cw C B ⟨w.heap.size,dl,cp,none⟩ r.2 obj)/\∀(B:G)id,B id=some ⟨w.heap.size,dl,cp,none⟩->ag B (Vt r.1 id)=some a
section
variable{C:Ctx}{base:Nat}{E:G}{s:S}{w:World}{nt:Nat}{t:Tr AV}{a:Act}
theorem Xk(f:Good C)(E:G)(w:World)(e:TypeId):(QT e C).path (a0G C E w ((VS (Instr.alloc e true (.tuple #[]))).run C.P w)):=by
 refine R.bh _ (bY f e) λi V=>?_
 refine R.bh _ (R.fD _ _) λz g=>?_
 refine R.bh _ (R.aI _ _) λ_ h=>?_
 obtain⟨v,A,I⟩:=V.2.zero z g;have d:z.length=i.size:=aL h;have a:=I E;refine⟨.cells v.cells e (0,0),0,1,.pointer (some ⟨w.heap.size,0,none⟩),?_,
  dZ V.1 a (by omega) (by have:=ba a;simp at this;omega) (λj c k=>by simpa using k) _ 0 false 0 0 (by omega),λB id b=>by simp[Vt,ag,b]⟩
 simp[VS,Instr.alloc,A,newVar,fA]
theorem a4F(g:Good C)(h:Rel C base E s w)(k:aD E nt t a.tmps)(e:TypeId)(x:Operand):
  (K3 e x C t).path (a0G C E w ((VS (Instr.box e (a.eval x))).run C.P w)):=by
 refine R.bh _ (bf h k x) λv l=>?_
 refine R.bh _ (lQ v _ l) λz d=>?_
 refine R.bh _ (bY g e) λi V=>?_
 refine R.bh _ (R.aI _ _) λ_ m=>?_
 have f:z.length=i.size:=aL m;refine⟨.cells (a.eval x).cells e (0,0),0,1,.pointer (some ⟨w.heap.size,0,none⟩),?_,
  dZ V.1 d (by omega) (by have:=ba d;simp at this;omega) (λj c n=>by simpa using n) _ 0 false 0 0 (by omega),λB id b=>by simp[Vt,ag,b]⟩
 simp[VS,Instr.box,newVar,fA]
theorem DS(u:Good C)(Q:Rel C base E s w)(S:aD E nt t a.tmps)(ty:TypeId)(len:Nat)(b:Array (Nat×Operand)):
  (jt ty len b C t).path (a0G C E w ((VS (Instr.buildSlice ty len (b.map λ(i,x)=>(i,a.eval x)))).run C.P w)):=by
 refine R.bh _ (bw u ty) λd T=>?_
 cases d with
 |slice e=>
  refine R.bh _ (bY u e) λi V=>?_
  refine R.bh _ (R.aI _ _) λ_ U=>?_
  have W:len*i.size<=16777216:=bn U;refine R.bh (λz=>∃r,ax E z=some r/\(len*i.size≠0->r.length=i.size/\∃v:Value,(zeroValue e).run C.P w=.ok v w/\r=v.cells.toList)/\(len*i.size=0->z=[])) ?_ λz y=>?_
  .unfold zL;cases D:Nat.beq (Nat.mul len i.size) 0
   .have F:len*i.size≠0:=λh=>by rw[show Nat.mul len i.size=0 from h]at D;cases D
    refine R.bh _ (sd u e) λz y=>?_
    obtain⟨_,v,_,_,A,I⟩:=y;refine R.bh _ (R.aI _ _) λ_ G=>?_
    refine⟨_,I E,λ_=>⟨?_,v,A w,rfl⟩,λh=>absurd h F⟩;have:=ba (I E);rw[this];exact aL G
   .have X:len*i.size=0:=aL D;exact⟨[],rfl,λh=>absurd X h,λ_=>rfl⟩
  .obtain⟨r,Y,H,Z⟩:=y;refine R.bh _ (sh Q S b.toList) λps l=>?_
   obtain⟨q,m,hq2,hq3⟩:=pE Y len;refine R.bh _ (nW (E:=E) (pa:=λk=>some (Nat.mul k i.size,i.size)) (pc:=λk=>some (k*i.size,i.size)) (λ_ x h=>h) ps _ _ _ l.1 l.2 m) λcs J=>?_
   obtain⟨K,g1,g2,g3⟩:=J;have g:(b.map λ(i,x)=>(i,a.eval x)).toList=b.toList.map λ(i,x)=>(i,a.eval x):=by simp
   have L:q.length=len*i.size:=by grind[ax]
   have hcl:cs.length=len*i.size:=by rw[g2,<-ba m,L]
   have n:∀B,Grow E B->cw C B ⟨w.heap.size,0,len,none⟩ (fQ e cs) (.cells ⟨K⟩ e (0,0)):=
    dZ V.1 g1 (by omega) (by have:=ba g1;simp;omega) (λj c O=>by simpa using O) _ 0 false 0 0 (by omega)
   refine⟨.cells ⟨K⟩ e (0,0),0,len,.slice (some ⟨w.heap.size,0,none⟩) len len,?_,n,λB id M=>by simp[Vt,ag,M]⟩;have o:¬(len*i.size>2^24):=by omega
   unfold VS Instr.buildSlice;simp only[aA,eQ T w,aP,V.2.size w,ai o,pure_bind,g,bind_assoc];have f:∀zv:Array Value,(len*i.size≠0->zv.toList=r)->Instr.fill (λk=>some (k*i.size,i.size)) (Array.map (λx=>zv[x%zv.size]!) (Array.range (len*i.size))) (b.toList.map λ(i,x)=>(i,a.eval x))=some ⟨K⟩:=by
    intro zv hzv;rw[<-g3];congr 1;apply mC;apply zR;intro j;simp only[Array.toList_map,Array.toList_range,ik];by_cases O:j<len*i.size
    .grind
    .grind
   by_cases p:len*i.size=0
   .simp only[p,aH,aY];have:=f #[] (λh=>absurd p h);rw[p]at this;simp only[aA,aY,aP,this,fA]
   .obtain⟨_,v,hv,N⟩:=H p;have:=f v.cells (λ_=>N.symm);simp only[ai p,aA,hv,aP,aY,this,fA]
 |_=>trivial
theorem YU(b:Good C)(d:Rel C base E s w)(f:aD E nt t a.tmps)(o:Oper):(aF o.op C t).path (a0G C E w ((execOp a.eval o).run C.P w)):=by
 cases h:o.op with
 |alloc e=>simp only[execOp,h];exact Xk b E w e
 |box e x=>simp only[execOp,h];exact a4F b d f e x
 |buildSlice e n ps=>simp only[execOp,h];exact DS b d f e n ps
 |makeMap e r=>
  cases r with
  |some x=>trivial
  |none=>refine⟨.map #[] 0,0,0,.map (some w.heap.size),?_,λB i=>⟨#[],rfl,dB,.bool,λe g=>by cases g⟩,λB id c=>by simp[Vt,ag,c]⟩;simp only[execOp,h];rfl
 |_=>trivial
end
end Go.Proofs.YtokipodjggomfaaGreatDoor.Abs
namespace Go.Proofs.YtokipodjggomfaaGreatDoor.Abs
open Go
theorem gF(m i:Nat):has m i=m.testBit i:=by show Nat.beq (Nat.land (Nat.shiftRight m i) 1) 1=(1 &&& (m >>> i) != 0);have e:Nat.land (Nat.shiftRight m i) 1=1 &&& (m >>> i):=Nat.and_comm (m >>> i) 1;rw[e];have h:=Nat.one_and_eq_mod_two (m >>> i);rw[h];rcases Nat.mod_two_eq_zero_or_one (m >>> i)with h|h<;>rw[h]<;>rfl
theorem oc(i:Nat):has 0 i=false:=by rw[gF];simp
theorem eR(a b i:Nat):has (Nat.lor a b) i=(has a i||has b i):=by rw[gF,gF,gF];exact Nat.testBit_or a b i
theorem Nr(k:Nat):bit k=2^k:=by show 1 <<< k=2^k;simp[Nat.shiftLeft_eq]
theorem ia(k i:Nat):has (bit k) i=decide (k=i):=by grind[gF,Nr]
theorem au(m k i:Nat):has (Nat.lor m (bit k)) i=true↔has m i=true\/i=k:=by grind[eR,ia]
theorem yj(a b i:Nat):has (minus a b) i=(has a i && !has b i):=by unfold minus;rw[gF,gF,gF];show((a |||b) ^^^ b).testBit i=_;rw[Nat.testBit_xor,Nat.testBit_or];cases a.testBit i<;>cases b.testBit i<;>rfl
theorem Ol{a b:Nat}(h:sub a b=true)(i:Nat)(V:has a i=true):has b i=true:=by have e:Nat.lor a b=b:=aL h;rw[<-e,eR,V];rfl
theorem ov{a b:Nat}(h:gf a b=true)(i:Nat)(c:has a i=true)(d:has b i=true):False:=by
 have e:Nat.land a b=0:=aL h;have I:(a &&& b).testBit i=true:=by rw[Nat.testBit_and,<-gF,<-gF,c,d];rfl
 have f:a &&& b=0:=e;rw[f]at I;simp at I
theorem rB{a:Nat}(h:Nat.beq a 0=true):a=0:=aL h
theorem PJ(n i:Nat):has (Nat.sub (bit n) 1) i=decide (i<n):=by grind[gF,Nr]
theorem OV{d:Nat}:∀{l:List Operand},Operand.tmp d∈l->has (opM l) d=true
 | [],h=>by cases h
 |x::l,h=>by
  cases h with
  |head=>show has (Nat.lor (bit d) (opM l)) d=true;rw[eR,ia];simp
  |tail _ h=>
   have a:=OV h;cases x with
   |tmp t=>show has (Nat.lor (bit t) (opM l)) d=true;rw[eR,a];simp
   |_=>exact a
theorem mj{o:Oper}{d:Nat}(h:o.dst=some d):has (CR o) d=true:=by grind[CR,ia]
theorem l6{ops:List Oper}{o:Oper}{d:Nat}(h:Operand.tmp d∈o.op.operands.toList):has (jA ops o) d=true:=by grind[jA,eR,OV]
theorem gC{ops:Array Oper}{o:Oper}{d:Nat}(h:me ops o=some d):has (jA ops.toList o) d=true:=by
 have:has (MZ ops.toList o) d=true:=by
  unfold me at h;unfold MZ;cases a:o.guard with
  |none=>rw[a]at h;cases h
  |some p=>
   obtain⟨g,b⟩:=p;rw[a]at h;simp only at h ⊢;have e:nth ops.toList g=ops[g]? :=by rw[qU];simp
   rw[e];cases ho:ops[g]? with
   |none=>rw[ho]at h;cases h
   |some q=>rw[ho]at h;exact mj h
 unfold jA;rw[eR,this];simp
def jw(ops:Array Oper)(all:List PO):Prop:=
 ∀i x,cE all i=some x->∃o,ops[i]? =some o/\x.i=i/\x.look=jA ops.toList o/\x.dst=CR o/\x.kind=jc o.op
theorem wN:∀(l:List Nat)(i:Nat),B7 l i=l.getD i 0
 | [],i=>by simp[B7]
 |x::l,0=>by simp[B7]
 |x::l,i+1=>by simp[B7,wN l i]
theorem El(ops:List Oper)(M:List Nat):∀(l:List Oper)(k i:Nat),cE (posOf ops M l k) i=(l[i]?).map λo=>⟨k+i,B7 M (k+i),jA ops o,CR o,jc o.op⟩
 | [],k,i=>by simp[posOf,cE]
 |o::l,k,0=>by simp[posOf,cE]
 |o::l,k,i+1=>by
  show cE (posOf ops M l (k+1)) i=_;rw[El ops M l (k+1) i];simp only[kA];rw[show k+1+i=k+(i+1) by omega]
theorem oX(ops:List Oper)(i:Nat):cE (ei ops) i=(ops[i]?).map λo=>⟨i,B7 (ec ops []) i,jA ops o,CR o,jc o.op⟩:=by grind[ei,El]
theorem jN(ops:Array Oper):jw ops (ei ops.toList):=by intro i x h;rw[oX]at h;simp only[aN]at h;obtain⟨o,ho,rfl⟩:=h;exact⟨o,by simpa using ho,rfl,rfl,rfl,rfl⟩
theorem te:∀(l:List Oper)(acc:List Nat),∃r,ec l acc=acc++r/\r.length=l.length
 | [],acc=>⟨[],by simp[ec],rfl⟩
 |o::l,acc=>by
  obtain⟨r,A,I⟩:=te l (acc++[jj acc o.after.toList]);exact⟨jj acc o.after.toList::r,by show ec l _=_;rw[A];simp,by simp[I]⟩
theorem yd:∀(l:List Oper)(acc:List Nat)(i:Nat)(o:Oper),l[i]? =some o->(ec l acc)[acc.length+i]? =some (jj ((ec l acc).take (acc.length+i)) o.after.toList)
 | [],_,i,_,h=>by simp at h
 |o::l,acc,0,T,h=>by
  simp only[cr,ar]at h;subst h;obtain⟨r,A,_⟩:=te l (acc++[jj acc o.after.toList]);show(ec l (acc++[jj acc o.after.toList]))[acc.length+0]? =some (jj ((ec l (acc++[jj acc o.after.toList])).take (acc.length+0)) o.after.toList);rw[A];simp
 |o::l,acc,i+1,T,h=>by
  have:=yd l (acc++[jj acc o.after.toList]) i T (by simpa using h);simp only[bL,bZ,dv]at this;show(ec l (acc++[jj acc o.after.toList]))[acc.length+(i+1)]? =some (jj ((ec l (acc++[jj acc o.after.toList])).take (acc.length+(i+1))) T.after.toList);rw[show acc.length+(i+1)=acc.length+(0+1)+i by omega];exact this
theorem nC(e:Edge):sK e=Region.binds .any e:=by unfold sK Region.binds;cases e.ground<;>rfl
theorem yc(M:List Nat){k:Nat}:∀{l:List Edge},has (jj M l) k=true->∃e∈l,Region.binds .any e=true/\(k=e.on\/has (B7 M e.on) k=true)
 | [],h=>by grind[jj,oc]
 |e::l,h=>by
  unfold jj at h;cases b:sK e with
  |false=>rw[b]at h;obtain⟨a,A,I⟩:=yc M h;exact⟨a,by simp[A],I⟩
  |true=>
   rw[b]at h;simp only[eR,fW]at h;rcases h with(h|h)|h
   .grind[ia,nC]
   .grind[nC]
   .obtain⟨a,A,I⟩:=yc M h;exact⟨a,by simp[A],I⟩
theorem Cd(M:List Nat){e:Edge}:∀{l:List Edge},e∈l->Region.binds .any e=true->has (jj M l) e.on=true
 | [],h,_=>by cases h
 |x::l,h,a=>by
  unfold jj;cases h with
  |head=>
   have:sK e=true:=by rw[nC];exact a
   rw[this];simp only[eR,ia];simp
  |tail _ h=>
   have b:=Cd M h a;cases c:sK x with
   |false=>exact b
   |true=>simp only[eR,b];simp
def Xt(ops:Array Oper)(Ld:List Nat):Prop:=∀i x,i∈Ld->cE (ei ops.toList) i=some x->∀k,has x.before k=true->k∈Ld
theorem Ia{ops:Array Oper}{Ld:List Nat}(l:Xt ops Ld){i:Nat}{o:Oper}(ho:ops[i]? =some o)(m:∀e∈o.after.toList,Region.binds .any e=true->e.on∈Ld)
  {x:PO} (Y:cE (ei ops.toList) i=some x):∀k,has x.before k=true->k∈Ld:=by
 intro k Z;rw[oX]at Y;have b:ops.toList[i]? =some o:=by simpa using ho
 rw[b]at Y;simp only[bX,ar]at Y;subst Y;simp only at Z;have j:=yd ops.toList [] i o b;simp only[dv,du]at j;rw[wN,Fi,j,fu]at Z;obtain⟨e,d,f,a⟩:=yc _ Z;have c:=m e d f;rcases a with rfl|a
 .exact c
 .rw[wN,Fi,qk]at a;split at a
  .have g:e.on<ops.toList.length:=by
     have V:i<ops.toList.length:=by grind
     omega
   obtain⟨T,h⟩:∃T,ops.toList[e.on]? =some T:=⟨_,dw g⟩;refine l e.on _ c (by rw[oX,h];rfl) k ?_;simp only;rw[wN,Fi];exact a
  .grind[oc]
def K8(n:Nat)(all:List PO):List Nat->List Nat->Prop
 |Ld,[]=>∀k,k<n->k∈Ld
 |Ld,i::L=>i ∉ Ld/\i<n/\(∀x,cE all i=some x->∀k,has x.before k=true->k∈Ld)/\K8 n all (i::Ld) L
theorem EY:∀{l:List PO}{i:Nat}{x:PO},below l=true->cE l i=some x->x.before<bit x.i
 | [],i,x,_,h=>by simp[cE]at h
 |y::l,i,x,b,h=>by
  unfold below at b;cases a:Nat.blt y.before (bit y.i)with
  |false=>rw[a]at b;cases b
  |true=>
   rw[a]at b;cases i with
   |zero=>simp only[cE,ar]at h;subst h;exact bn a
   |succ i=>exact EY (l:=l) (i:=i) b h
theorem a3l{m k i:Nat}(h:m<bit i)(Z:has m k=true):k<i:=by
 rw[gF]at Z;rw[Nr]at h;rcases cV k i with a|a
 .exact a
 .have:=Nat.testBit_lt_two_pow (iT h (Fp (by omega) a));rw[this]at Z;cases Z
theorem zb{ops:Array Oper}(d:below (ei ops.toList)=true){i:Nat}{o:Oper}(ho:ops[i]? =some o){e:Edge}(f:e∈o.after.toList)(b:Region.binds .any e=true):e.on<i:=by
 have a:ops.toList[i]? =some o:=by simpa using ho
 have Y:cE (ei ops.toList) i=some ⟨i,B7 (ec ops.toList []) i,jA ops.toList o,CR o,jc o.op⟩:=by rw[oX,a];rfl
 have A:=EY d Y;refine a3l A ?_;simp only;have c:=yd ops.toList [] i o a;simp only[dv,du]at c;rw[wN,Fi,c,fu];exact Cd _ f b
theorem Rp{ops:Array Oper}(d:below (ei ops.toList)=true){listed:Array Bool}(i:listed.size=ops.size)(f:Region.ready .any ops listed=[]):
  ∀k,k<ops.size->listed.getD k true=true:=by
 intro k;induction k using Nat.strongRecOn with
 |_ k g=>
  intro Z;cases h:listed.getD k true with
  |true=>rfl
  |false=>
   exfalso;have:k∈Region.ready .any ops listed:=by
    unfold Region.ready;rw[vj];refine⟨by simpa using Z,?_⟩;have ho:ops[k]? =some ops[k]:=dR Z;rw[h,ho];simp only[bX,fu,vh,Bool.true_and,Array.all_eq_true];intro j l;cases a:Region.binds .any ops[k].after[j]with
    |false=>rfl
    |true=>
     have b:=zb d ho (e:=ops[k].after[j]) (by simp) a;have:=g _ b (by omega);have c:(ops[k].after[j]).on<listed.size:=by omega
     simp only[vg,Bool.false_or];simp only[kD,dR c,fu]at this ⊢;exact this
   rw[f]at this;cases this
theorem qz{ops:Array Oper}(A:below (ei ops.toList)=true):∀(c t:Nat)(listed:Array Bool)(Ld:List Nat),listed.size=ops.size->
  (∀k,k<ops.size->(listed.getD k true=true↔k∈Ld))->Xt ops Ld->listed.toList.countP (λb=> !b)<=c->
  K8 ops.size (ei ops.toList) Ld (Region.linearise.go .any ops c t listed [])
 |0,t,listed,Ld,B,q,C,J=>by
  have I:listed.toList.countP (λb=> !b)=0:=by omega
  rw[List.countP_eq_zero]at I;intro k Z;rw[<-q k Z];have o:k<listed.size:=by omega
  have:=I listed[k] (by simp);simp only[kD,dR o,fu];simpa using this
 |c+1,t,listed,Ld,B,q,C,J=>by
  simp only[Region.linearise.go];change K8 ops.size (ei ops.toList) Ld (match(Region.ready .any ops listed)[t%(Region.ready .any ops listed).length]? with
   |some i=>Region.linearise.go .any ops c (t/(Region.ready .any ops listed).length) (listed.setIfInBounds i true) [i]
   |none=>[].reverse)
  cases V:(Region.ready .any ops listed)[t%(Region.ready .any ops listed).length]? with
  |none=>
   have r:Region.ready .any ops listed=[]:=by
    cases K:Region.ready .any ops listed with
    |nil=>rfl
    |cons x xs=>rw[K]at V;have s:t%(x::xs).length<(x::xs).length:=Nat.mod_lt _ (by simp);simp at V;simp at s;omega
   intro k Z;exact(q k Z).1 (Rp A B r k Z)
  |some i=>
   simp only[];rw[linearise_go_acc,List.reverse_singleton,List.singleton_append];have d:=vy V;unfold Region.ready at d;rw[vj]at d;obtain⟨D,f⟩:=d;have g:i<ops.size:=by simpa using D
   simp only[aw,fY]at f;obtain⟨m,l⟩:=f;have ho:ops[i]? =some ops[i]:=dR g;rw[ho]at l;simp only[bX,fu,Array.all_eq_true]at l;have u:i ∉ Ld:=λh=>by rw[(q i g).2 h]at m;cases m
   have n:∀e∈ops[i].after.toList,Region.binds .any e=true->e.on∈Ld:=by
    intro e L v;have E:e∈ops[i].after:=by simpa using L
    obtain⟨j,w,rfl⟩:=Array.mem_iff_getElem.1 E;have:=l j w;rw[v]at this;simp only[vg,Bool.false_or]at this;have s:=zb A ho (e:=ops[i].after[j]) (by simp) v;have F:(ops[i].after[j]).on<listed.size:=by omega
    refine(q _ (by omega)).1 ?_;simp only[kD,dR F,fu]at this ⊢;exact this
   have y:∀x,cE (ei ops.toList) i=some x->∀k,has x.before k=true->k∈Ld:=λx Y=>Ia C ho n Y
   refine⟨u,g,y,qz A c _ _ (i::Ld) (by simpa using B) ?_ ?_ ?_⟩
   .intro k Z;have o:k<listed.size:=by omega
    by_cases z:i=k
    .subst z;simp[o]
    .rw[bQ];have:(listed.setIfInBounds i true).getD k true=listed.getD k true:=by
      simp only[kD,Array.getElem?_setIfInBounds_ne z]
     rw[this,q k Z];constructor
     .exact .inr
     .grind
   .intro j x w Y k Z;rcases bQ.1 w with rfl|w
    .grind
    .exact bQ.2 (.inr (C j x w Y k Z))
   .have G:i<listed.toList.length:=by simp;omega
    have M:listed.toList[i]=false:=by
     have H:i<listed.size:=by omega
     simp only[kD,dR H,fu]at m;simpa using m
    have:=List.countP_set (p:=λb=> !b) (a:=true) G;rw[Array.toList_setIfInBounds,this,M];simp only[vh,aH,vg,dY,aQ,hx];omega
theorem DA{ops:Array Oper}(a:below (ei ops.toList)=true)(t:Nat):K8 ops.size (ei ops.toList) [] (Region.schedule true ops t):=by
 simp only[Region.schedule,Bool.true_or,aH,Region.linearise];refine qz a ops.size t _ [] (by simp) ?_ (λi x h=>by cases h) ?_
 .intro k Z;simp[kD,Z]
 .have:=List.countP_le_length (p:=λb=> !b) (l:=(Array.replicate ops.size false).toList);simpa using this
end Go.Proofs.YtokipodjggomfaaGreatDoor.Abs
namespace Go.Proofs.YtokipodjggomfaaGreatDoor.Abs
open Go
structure DC where
 C:Ctx
 base:Nat
 fi:FI
 ops:Array Oper
 all:List PO
 lp:List PS
 ro:Option Nat
 k:List Item
 Lb:G
 s0:S
 w0:World
 cs0:List Frame
 m0:Machine
def DJ(X:DC)(H:Dl)(Ld:List Nat)(d:Nat):Prop:=∃k o,(has H.uM k=true\/has H.als k=true)/\k ∉ Ld/\X.ops[k]? =some o/\o.dst=some d
def kr(E:G)(nt:Nat)(t:Tr AV)(tm:Array Value)(J:Nat->Prop):Prop:=
 tm.size=nt/\(∀d v,t.get d=some v->d<nt/\∃c,tm[d]? =some c/\(J d\/VR E v c))/\∀d,t.get d=none->J d\/tm.getD d undef=undef
def a7j(X:DC)(t:Tr AV)(s:S)(k:Nat):Prop:=
 ∃o v,X.ops[k]? =some o/\mR o.op=true/\P9 X.ops o X.C t s=.ok v/\∀d,o.dst=some d->d<X.fi.nt->t.get d=some v
def oB(X:DC)(H:Dl)(Ld:List Nat)(t:Tr AV)(s:S):Prop:=∀k,has H.uM k=true->k ∉ Ld->has H.fj k=false->a7j X t s k
def Iq(X:DC)(pe:pP)(t:Tr AV)(s:S)(E:G)(k:Nat):Prop:=
 ∃o,X.ops[k]? =some o/\zm o.op=true/\
  ((c8 X.ops o.guard t=.ok false/\cK k pe=none/\∀d,o.dst=some d->d<X.fi.nt->t.get d=some gu)\/
   (c8 X.ops o.guard t=.ok true/\∃a ay id,aF o.op X.C t=.ok (a,ay)/\cK k pe=some (id,ay)/\(∀d,o.dst=some d->d<X.fi.nt->t.get d=some (Vt a id))/\
     E id=none/\id<s.next/\s.h.get id=none/\X.s0.next<=id))
def A0(X:DC)(E:G)(s:S)(w:World)(id:Nat)(ay:eD):Prop:=
 ∃l o,E id=some l/\w.heap[l.ay]? =some o/\cw X.C E l ay o/\(∀u N O,s.h.get u=some N->E u=some O->O.ay≠l.ay)/\s.h.get id=none/\id<s.next/\X.s0.next<=id/\X.w0.heap.size<=l.ay/\
  cy X.C E s w λk=>k=l.ay
def Ir(X:DC)(pe:pP)(E:G)(s:S)(w:World)(k:Nat):Prop:=∀id ay,cK k pe=some (id,ay)->A0 X E s w id ay
structure ff(X:DC)(H:Dl)(Ld:List Nat)(pe:pP)(t:Tr AV)(ds:List gO)(ctx:Option (List PE))(s:S)(E:G)(w:World)(tm:Array Value)(bz:List Deferred)(cs:List Frame):Prop where
 step:Step X.C X.base X.Lb X.s0 X.w0 E s w
 ro:mX E X.fi.roundOf X.ro
 ds:cN X.fi.tl E ds=some bz
 ctx:eu E X.fi.kind ctx cs
 cs:bN X.fi.kind X.cs0 cs
 Na:∀k,k∈Ld->has H.done k=true
 nE:∀k,has H.acts k=true->k∈Ld
 kinds:∀k,has H.done k=true->has H.acts k=true\/has H.uM k=true\/has H.als k=true
 xk:∀k,has H.uM k=true->has H.done k=true
 sQ:∀k,has H.als k=true->has H.done k=true
 two:∀k,has H.uM k=true->has H.als k=true->False
 fl:∀k,has H.uM k=true\/has H.als k=true->∃x,x∈H.fl/\cE X.all k=some x
 We:∀k,has H.uM k=true->∃o,X.ops[k]? =some o/\mR o.op=true
 pw:∀x y,x∈H.fl->y∈H.fl->has x.before y.i=true\/∀d,has x.look d=true->has y.dst d=true->False
 nw:∀k,has H.last k=true->k∈Ld
 tm:kr E X.fi.nt t tm (DJ X H Ld)
 L5:∀k,has H.uM k=true\/has H.als k=true->∃o,X.ops[k]? =some o/\(PS.ev k o∈X.lp\/PS.al k o∈X.lp)
 j9:∀k id b,cK k pe=some (id,b)->has H.als k=true/\id<s.next
 ids:∀k k' id b N,cK k pe=some (id,b)->cK k' pe=some (id,N)->k=k'
 Bp:∀k k' id u b N l O,cK k pe=some (id,b)->cK k' pe=some (u,N)->k≠k'->E id=some l->E u=some O->l.ay≠O.ay
 SX:∀k id b l,cK k pe=some (id,b)->E id=some l->l.ay<w.heap.size
 al1:∀k,has H.als k=true->k ∉ Ld->Iq X pe t s E k
 al2:∀k,has H.als k=true->k∈Ld->has H.JT k=false->Ir X pe E s w k
def Ki(nt:Nat)(t:Tr AV):List Nat->Tr AV
 | []=>t
 |d::l=>put nt (Ki nt t l) (some d) .junk
theorem sD(nt:Nat)(t:Tr AV)(d:Nat):∀l:List Nat,(Ki nt t l).get d=if d∈l/\d<nt then some .junk else t.get d
 | []=>by simp[Ki]
 |e::l=>by
  unfold Ki;rw[lN];have a:=sD nt t d l;by_cases b:e<nt
  .grind[Tr.bm]
  .grind
open Classical in
theorem yp{E:G}{nt:Nat}{t:Tr AV}{tm:Array Value}{J:Nat->Prop}(h:kr E nt t tm J)(jl:List Nat)(e:∀d,J d->d∈jl):
  ∃tJ,aD E nt tJ tm/\∀d,¬J d->tJ.get d=t.get d:=by
 refine⟨Ki nt t (jl.filter λd=>decide (J d)),?_,?_⟩
 .obtain⟨A,I,W⟩:=h;refine⟨A,?_,?_⟩
  .intro d v a;rw[sD]at a;split at a
   .next c=>
    obtain rfl:=ae a;have b:d<tm.size:=by rw[A];exact c.2
    exact⟨c.2,tm[d],dR b,.inl rfl⟩
   .grind
  .grind[sD]
 .grind[sD]
theorem kr.mono {E:G} {nt:Nat} {t:Tr AV} {tm:Array Value} {J b:Nat->Prop} (h:kr E nt t tm J) (e:∀d,J d->b d):kr E nt t tm b:=
 ⟨h.1,λd v a=>by obtain⟨g1,c,g2,g3⟩:=h.2.1 d v a;exact⟨g1,c,g2,g3.imp (e d) id⟩,λd a=>(h.2.2 d a).imp (e d) id⟩
theorem kr.grow {E B:G} (a:Grow E B) {nt:Nat} {t:Tr AV} {tm:Array Value} {J:Nat->Prop} (h:kr E nt t tm J):kr B nt t tm J:=
 ⟨h.1,λd v b=>by obtain⟨g1,c,g2,g3⟩:=h.2.1 d v b;exact⟨g1,c,g2,g3.imp id (VR.grow a)⟩,h.2.2⟩
theorem kr.a7G {E:G} {nt:Nat} {t:Tr AV} {tm:Array Value} {J:Nat->Prop} (h:kr E nt t tm J) (dst:Option Tmp) {v:AV} {c:Value} (g:ag E v=some c):kr E nt (put nt t dst v) (lO tm dst c) J:=by
 obtain⟨A,I,W⟩:=h;cases dst with
 |none=>exact⟨A,I,W⟩
 |some e=>
  rw[lN];simp only[lO];by_cases f:e<nt
  .rw[az f];refine⟨by simp[A],?_,?_⟩
   .intro d u b;rw[Tr.bm]at b;by_cases a:e=d
    .subst a;rw[az rfl]at b;obtain rfl:=ae b;exact⟨f,c,by simp[A,f],.inr (.inr g)⟩
    .grind
   .intro d b;rw[Tr.bm]at b;by_cases a:e=d
    .rw[az a]at b;cases b
    .rw[ai a]at b;have:=W d b;simp only[kD]at this ⊢;simp only[qm,a,aQ];exact this
  .rw[ai f];have:tm.setIfInBounds e c=tm:=by grind
   rw[this];exact⟨A,I,W⟩
theorem kr.a2D {E:G} {nt:Nat} {t:Tr AV} {tm:Array Value} {J f:Nat->Prop} (h:kr E nt t tm J) (dst:Option Tmp) {v:AV} {c:Value} (j:ag E v=some c)
  (k:∀d,dst=some d->d<nt->t.get d=some v) (i:∀d,J d->f d\/dst=some d):kr E nt t (lO tm dst c) f:=by
 obtain⟨A,I,W⟩:=h;cases dst with
 |none=>exact⟨A,λd u a=>by obtain⟨g1,c',g2,g3⟩:=I d u a;exact⟨g1,c',g2,g3.imp (λg=>(i d g).resolve_right (by simp)) id⟩,λd a=>(W d a).imp (λg=>(i d g).resolve_right (by simp)) id⟩
 |some e=>
  simp only[lO];refine⟨by simp[A],?_,?_⟩
  .intro d u a;obtain⟨g1,c',g2,g3⟩:=I d u a;by_cases b:e=d
   .subst b;rw[k e rfl g1]at a;obtain rfl:=ae a;exact⟨g1,c,by simp[A,g1],.inr (.inr j)⟩
   .grind
  .intro d a;by_cases b:e=d
   .grind
   .rcases W d a with g|g
    .grind
    .right;simp only[kD]at g ⊢;simp only[qm,b,aQ];exact g
theorem kr.a2E {E:G} {nt:Nat} {t:Tr AV} {tm:Array Value} {J c:Nat->Prop} (h:kr E nt t tm J) (dst:Option Tmp) (v:AV) (j:∀d,J d->c d) (f:∀d,dst=some d->c d):
  kr E nt (put nt t dst v) tm c:=by
 obtain⟨A,I,W⟩:=h.mono j;cases dst with
 |none=>exact⟨A,I,W⟩
 |some e=>
  rw[lN];by_cases b:e<nt
  .rw[az b];refine⟨A,?_,?_⟩
   .intro d u g;rw[Tr.bm]at g;by_cases a:e=d
    .subst a;have i:e<tm.size:=by rw[A];exact b
     exact⟨b,tm[e],dR i,.inl (f e rfl)⟩
    .rw[ai a]at g;exact I d u g
   .grind[Tr.bm]
  .rw[ai b];exact⟨A,I,W⟩
section
variable{X:DC}{E B:G}{s U:S}{w M:World}{pe:pP}{t Q:Tr AV}{k:Nat}
theorem Step.back {C:Ctx} {base:Nat} (a:Step C base E s w B U M) {id:Nat} {O:Loc} (h:B id=some O) (d:id<s.next):∃l,E id=some l/\O.ay=l.ay:=by
 rcases a.MT id O h with⟨l,b⟩|⟨f,_⟩
 .obtain⟨g,c,e⟩:=a.grow id l b;rw[h]at c;obtain rfl:=ae c;exact⟨l,b,e.1⟩
 .omega
theorem A0.step {id:Nat} {ay:eD} (h:A0 X E s w id ay) (a:Step X.C X.base E s w B U M):A0 X B U M id ay:=by
 obtain⟨l,o,A,I,W,D,h5,h6,h7,t,v⟩:=h;obtain⟨O,g1,g2⟩:=a.grow id l A;have i:l.ay<w.heap.size:=by grind
 refine⟨O,o,g1,?_,W.mono a.grow g2,?_,?_,iT h6 a.next,h7,by rw[g2.1];exact t,by rw[g2.1];exact a.Xw _ (λk Z=>⟨by rw[Z];exact i,λ⟨c,j,e,d,_,m,n⟩=>D c j e d m (n.trans Z)⟩) v⟩
 .rw[g2.1];refine a.keep.stays _ _ I ?_;rintro⟨c,j,e,d,G,m,n⟩;exact D c j e d m n
 .intro u N e x d;rw[g2.1];rcases a.MT u e d with⟨p,g⟩|⟨g,H⟩
  .obtain⟨J,r,y⟩:=a.grow u p g;rw[d]at r;obtain rfl:=ae r;rw[y.1];obtain⟨z,q⟩:=a.lV u N x (a.SW u p g);exact D u z p q g
  .grind
 .cases F:U.h.get id with
  |none=>rfl
  |some b=>obtain⟨N,f⟩:=a.lV id b F h6;rw[h5]at f;cases f
theorem Ir.step (h:Ir X pe E s w k) (a:Step X.C X.base E s w B U M):Ir X pe B U M k:=λid ay b=>(h id ay b).step a
theorem Iq.step (h:Iq X pe t s E k) (a:Step X.C X.base E s w B U M)
  (g:∀o,X.ops[k]? =some o->(∀d,has (jA X.ops.toList o) d=true->t.get d=Q.get d)/\∀d,o.dst=some d->t.get d=Q.get d):Iq X pe Q U B k:=by
 obtain⟨o,ho,p,h⟩:=h;obtain⟨e,i⟩:=g o ho;have e1:c8 X.ops o.guard t=c8 X.ops o.guard Q:=iq X.ops o λd c=>e d (gC c)
 have e2:aF o.op X.C t=aF o.op X.C Q:=Xn o.op λd c=>e d (l6 c)
 refine⟨o,ho,p,?_⟩;rcases h with⟨g1,g2,g3⟩|⟨g1,q,ay,id,g2,g3,g4,g5,g6,g7,g8⟩
 .grind
 .refine .inr ⟨e1▸g1,q,ay,id,e2▸g2,g3,λd c j=>by rw[<-i d c];exact g4 d c j,?_,iT g6 a.next,?_,g8⟩
  .cases m:B id with
   |none=>rfl
   |some O=>
    rcases a.MT id O m with⟨l,n⟩|⟨r,_⟩
    .rw[g5]at n;cases n
    .omega
  .cases m:U.h.get id with
   |none=>rfl
   |some b=>obtain⟨N,f⟩:=a.lV id b m g6;rw[g7]at f;cases f
end
end Go.Proofs.YtokipodjggomfaaGreatDoor.Abs
namespace Go.Proofs.YtokipodjggomfaaGreatDoor.Abs
open Go
section
variable{C:Ctx}{base:Nat}{E:G}{s:S}{w:World}
def ghost(E:G)(id:Nat)(l:Loc):G:=λj=>if j=id then some l else E j
theorem CD{id:Nat}{l:Loc}(h:E id=none):Grow E (ghost E id l):=λj b a=>by
 have:j≠id:=λe=>by rw[e,h]at a;cases a
 exact⟨b,by simp[ghost,this,a],rfl,rfl,rfl⟩
theorem oz{w:World}{o:Obj}{k:Nat}{x:Obj}(h:w.heap[k]? =some x):(w.alloc o).heap[k]? =some x:=by
 have a:k<w.heap.size:=by grind
 show(w.heap.push o)[k]? =some x;rw[Array.getElem?_push,ai (eS a)];exact h
theorem SR(w:World)(o:Obj):(w.alloc o).heap[w.heap.size]? =some o:=by show(w.heap.push o)[w.heap.size]? =some o;simp
theorem Rel.ghost (c:Rel C base E s w) {id:Nat} (A:E id=none) (I:s.h.get id=none) (W:id<s.next) (l:Loc) (o:Obj) (L:l.v=none):Rel C base (ghost E id l) s (w.alloc o):=by
 have D:=CD (l:=l) A;have a:∀u b,s.h.get u=some b->u≠id:=λu b f e=>by rw[e,I]at f;cases f
 refine⟨?_,?_,?_,?_,?_,?_,c.Gv D,?_⟩
 .intro u b f;obtain⟨O,T,g1,g2,g3⟩:=c.ay u b f;exact⟨O,T,by simp[Abs.ghost,a u b f,g1],oz g2,g3.mono D ⟨rfl,rfl,rfl⟩⟩
 .intro i j x y li H Y F V n r t;simp only[Abs.ghost,a i x Y,a j y F,aQ]at V n;exact c.sep i j x y li H Y F V n r t
 .intro j n;have:j≠id:=by omega
  simp[Abs.ghost,this,c.new j n]
 .intro g z;obtain⟨J,m,p,q⟩:=c.eM g z;have:g≠id:=λe=>by rw[e,A]at m;cases m
  exact⟨J,by simp[Abs.ghost,this,m],p,q⟩
 .intro u b O f G B;simp only[Abs.ghost,a u b f,aQ]at G;exact c.low u b O f G B
 .have:=c.bs;show base<=(w.heap.push o).size;simp;omega
 .refine c.YG (by show _<=(w.heap.push o).size;simp) (λk Z _=>by rw[dR Z];exact oz (dR Z)) (λk _=>?_) (λj O d m p=>?_)
  .rintro⟨i,b,li,m,p,q,K⟩;simp only[Abs.ghost,a i b m,aQ]at q;exact⟨i,b,li,m,p,q,K⟩
  .grind[Abs.ghost,Option.some.injEq]
theorem Rel.Xl (b:Rel C base E s w) {id:Nat} {ay:eD} {l:Loc} {o:Obj} (A:E id=some l) (I:w.heap[l.ay]? =some o) (W:cw C E l ay o) (D:∀u N O,s.h.get u=some N->E u=some O->u≠id->O.ay≠l.ay)
  (h5:base<=l.ay) (h6:cy C E s w λk=>k=l.ay):Rel C base E ⟨s.h.set id ay,s.next,s.pc⟩ w:=by
 have a:∀i x,(s.h.set id ay).get i=some x->(i=id/\x=ay)\/(i≠id/\s.h.get i=some x):=by grind[Tr.bm]
 refine⟨?_,?_,b.new,b.eM,?_,b.bs,b.pc,?_⟩
 .intro i x Y;rcases a i x Y with⟨rfl,rfl⟩|⟨_,Y⟩
  .exact⟨l,o,A,I,W⟩
  .exact b.ay i x Y
 .intro i j x y li c Y e V q f g;rcases a i x Y with⟨rfl,rfl⟩|⟨r,hx2⟩
  .grind
  .rcases a j y e with⟨rfl,rfl⟩|⟨_,e⟩
   .grind
   .exact b.sep i j x y li c hx2 e V q f g
 .intro i x li Y V m;rcases a i x Y with⟨rfl,rfl⟩|⟨_,Y⟩
  .grind
  .exact b.low i x li Y V m
 .refineλi li d t v=>Dt.c6.stays (λk p=>⟨⟨p.1,λhh=>?_,λh=>h.elim⟩,rfl⟩) d (h6 i li d t v)
  obtain⟨j,x,c,n,z2,z3,z4⟩:=hh;rcases a j x n with⟨rfl,rfl⟩|⟨_,n⟩
  .grind
  .exact p.2.1 ⟨j,x,c,n,z2,z3,z4⟩
theorem Rel.more (a:Rel C base E s w):Rel C base E ⟨s.h,s.next+1,s.pc⟩ w:=
 ⟨a.ay,a.sep,λj(b:s.next+1<=j)=>a.new j (by omega),a.eM,a.low,a.bs,a.pc,a.rd⟩
end
section
variable{X:DC}{H:Dl}{Ld:List Nat}{pe:pP}{t:Tr AV}{ds:List gO}{ctx:Option (List PE)}{s:S}{E:G}{w:World}{tm:Array Value}{bz:List Deferred}{cs:List Frame}{i:Nat}
theorem xW(a:jw X.ops X.all){k:Nat}{x:PO}{o:Oper}(Y:cE X.all k=some x)(ho:X.ops[k]? =some o):x.i=k/\x.look=jA X.ops.toList o/\x.dst=CR o/\x.kind=jc o.op:=by obtain⟨T,A,I,W,D,h5⟩:=a k x Y;rw[ho]at A;obtain rfl:=ae A;exact⟨I,W,D,h5⟩
theorem ff.jl (d:Nat) (b:DJ X H Ld d):d∈X.ops.toList.filterMap (·.dst):=by obtain⟨k,o,_,_,ho,a⟩:=b;refine List.mem_filterMap.2 ⟨o,?_,a⟩;have:o∈X.ops:=Array.mem_of_getElem? ho;simpa using this
theorem ff.a5W (a:jw X.ops X.all) (h:ff X H Ld pe t ds ctx s E w tm bz cs) (V:has H.uM i=true\/has H.als i=true) {x:PO} (Y:cE X.all i=some x)
  (l:∀k,has x.before k=true->k∈Ld) {d:Nat} (n:has x.look d=true):¬DJ X H Ld d:=by
 rintro⟨k,o,Z,b,ho,j⟩;obtain⟨p,c,hx2⟩:=h.fl i V;rw[Y]at hx2;obtain rfl:=ae hx2;obtain⟨y,e,f⟩:=h.fl k Z;obtain⟨m,r2,q,r⟩:=xW a f ho;rcases h.pw x y c e with g|g
 .rw[m]at g;exact b (l k g)
 .grind[mj]
theorem Kx{o:Op}(h:mR o=true)(c:Call):o≠.defer c:=by rintro rfl;simp[mR]at h
theorem K2{o:Op}(h:zm o=true)(c:Call):o≠.defer c:=by rintro rfl;simp[zm]at h
theorem ff.exec (h:ff X H Ld pe t ds ctx s E w tm bz cs) (V:has H.uM i=true) {o:Oper} (ho:X.ops[i]? =some o) {B:G} {M:World} (a:Step X.C X.base E s w B s M)
  {v:AV} {c:Value} (F:ag B v=some c) (J:∀d,o.dst=some d->d<X.fi.nt->t.get d=some v):ff X H (i::Ld) pe t ds ctx s B M (lO tm o.dst c) bz cs:=by
 refine⟨h.step.trans a,h.ro.grow a.grow,b7 a.grow h.ds,h.ctx.grow a.grow,h.cs,?_,λk Z=>bk _ (h.nE k Z),h.kinds,h.xk,h.sQ,h.two,h.fl,h.We,h.pw,
  λk Z=>bk _ (h.nw k Z),?_,h.L5,λk id b e=>⟨(h.j9 k id b e).1,iT (h.j9 k id b e).2 a.next⟩,h.ids,?_,?_,?_,?_⟩
 .intro k Z;rcases bQ.1 Z with rfl|Z
  .exact h.xk k V
  .exact h.Na k Z
 .refine(h.tm.grow a.grow).a2D o.dst F J ?_;rintro d ⟨k,T,A,I,W,D⟩;by_cases j:k=i
  .grind
  .exact .inl ⟨k,T,A,by simp[j,I],W,D⟩
 .intro k k' id u b N l O e g m n p;obtain⟨q,r,x⟩:=a.back n (h.j9 k id b e).2;obtain⟨K,L,P⟩:=a.back p (h.j9 k' u N g).2;rw[x,P];exact h.Bp k k' id u b N q K e g m r L
 .intro k id b l e n;obtain⟨q,r,x⟩:=a.back n (h.j9 k id b e).2;rw[x];exact iT (h.SX k id b q e r) a.keep.size
 .intro k Z y;exact(h.al1 k Z (λQ=>y (bk _ Q))).step a λ_ _=>⟨λ_ _=>rfl,λ_ _=>rfl⟩
 .intro k Z f z;rcases bQ.1 f with rfl|f
  .exact(h.two k V Z).elim
  .exact(h.al2 k Z f z).step a
theorem ZM(J:Good X.C)(j:jw X.ops X.all)(h:ff X H Ld pe t ds ctx s E w tm bz cs)(V:has H.uM i=true)(K:a7j X t s i){x:PO}(Y:cE X.all i=some x)
  (N:∀k,has x.before k=true->k∈Ld) (L:List Nat):
  ∃B M r,ff X H (i::Ld) pe t ds ctx s B M r bz cs/\
   Steps X.C.P (lone (aC X.fi X.ro tm (.inRegion X.ops (i::L)::X.k) bz .run) cs w) (lone (aC X.fi X.ro r (.inRegion X.ops L::X.k) bz .run) cs M):=by
 obtain⟨o,v,ho,l,e,p⟩:=K;obtain⟨tJ,u,A⟩:=yp h.tm _ (λd q=>ff.jl d q);obtain⟨S,r2,T,U⟩:=xW j Y ho;have f:∀d,has (jA X.ops.toList o) d=true->tJ.get d=t.get d:=λd q=>A d (h.a5W j (.inl V) Y N (by rw[r2];exact q))
 have e1:c8 X.ops o.guard tJ=c8 X.ops o.guard t:=iq X.ops o λd q=>f d (gC q)
 have e2:nA o.op o.type X.C tJ s=nA o.op o.type X.C t s:=HO o.op o.type s λd q=>f d (l6 q)
 have D:=qL u X.ops o;rw[e1]at D;unfold P9 at e;cases g:c8 X.ops o.guard t with
 |bad m=>rw[g]at e;cases e
 |ask n k=>rw[g]at e;cases e
 |must pc k=>rw[g]at e;cases e
 |ok b=>
  rw[g]at e D;have y:Region.wanted o (yielded X.ops tm)=b:=D;cases b with
  |false=>have z:(R.ok gu:R AV)=.ok v:=e;injection z with z;subst z;exact⟨E,w,_,h.exec V ho (Step.refl h.step.rel) gI p,.one (uf ho y)⟩
  |true=>have O:evQ o X.C t s=.ok v:=e;have F:=a3u l O;have I:=x2 J h.step.rel (a:=⟨tm,bz⟩) u o;rw[e2,F]at I;obtain⟨B,c,M,Q,z,G⟩:=I;exact⟨B,M,_,h.exec V ho G z p,.one (Bj ho y (.inr (Kx l)) Q)⟩
theorem ZN(hC:Good X.C)(DM:jw X.ops X.all)(h:ff X H Ld pe t ds ctx s E w tm bz cs)(V:has H.als i=true)(hn:i ∉ Ld){x:PO}(Y:cE X.all i=some x)
  (hb:∀k,has x.before k=true->k∈Ld) (L:List Nat):
  ∃B M tm',ff X H (i::Ld) pe t ds ctx s B M tm' bz cs/\
   Steps X.C.P (lone (aC X.fi X.ro tm (.inRegion X.ops (i::L)::X.k) bz .run) cs w) (lone (aC X.fi X.ro tm' (.inRegion X.ops L::X.k) bz .run) cs M):=by
 obtain⟨o,ho,a8e,hal⟩:=h.al1 i V hn;obtain⟨tJ,htJ,hag⟩:=yp h.tm _ (λd hd=>ff.jl d hd);obtain⟨r1,r2,r3,r4⟩:=xW DM Y ho;have Q:∀d,has (jA X.ops.toList o) d=true->tJ.get d=t.get d:=λd hd=>hag d (h.a5W DM (.inr V) Y hb (by rw[r2];exact hd))
 have e1:c8 X.ops o.guard tJ=c8 X.ops o.guard t:=iq X.ops o λd hd=>Q d (gC hd)
 have e2:aF o.op X.C tJ=aF o.op X.C t:=Xn o.op λd hd=>Q d (l6 hd)
 have hw:=qL htJ X.ops o;rw[e1]at hw;have G:∀d,DJ X H Ld d->DJ X H (i::Ld) d\/o.dst=some d:=by
  rintro d ⟨k,T,A,I,W,D⟩;by_cases hki:k=i
  .grind
  .exact .inl ⟨k,T,A,by simp[hki,I],W,D⟩
 have a6n:∀k,k∈i::Ld->has H.done k=true:=by
  intro k Z;rcases bQ.1 Z with rfl|Z
  .exact h.sQ k V
  .exact h.Na k Z
 rcases hal with⟨g1,g2,g3⟩|⟨g1,ak,ay,id,g2,g3,g4,g5,g6,g7,g8⟩
 .rw[g1]at hw;have hw':Region.wanted o (yielded X.ops tm)=false:=hw;refine⟨E,w,_,⟨h.step,h.ro,h.ds,h.ctx,h.cs,a6n,λk Z=>bk _ (h.nE k Z),h.kinds,h.xk,h.sQ,h.two,h.fl,h.We,h.pw,λk Z=>bk _ (h.nw k Z),
   h.tm.a2D o.dst gI g3 G,h.L5,h.j9,h.ids,h.Bp,h.SX,λk Z U=>h.al1 k Z (λhm=>U (bk _ hm)),?_⟩,.one (uf ho hw')⟩
  intro k Z y hon;rcases bQ.1 y with rfl|y
  .intro id ay J;rw[g2]at J;cases J
  .exact h.al2 k Z y hon
 .rw[g1]at hw;have hw':Region.wanted o (yielded X.ops tm)=true:=hw;have J:=YU hC h.step.rel (a:=⟨tm,bz⟩) htJ o;rw[e2,g2]at J;obtain⟨obj,dl,cp,cv,hr,a8g,a6r⟩:=J;have c:Grow E (ghost E id ⟨w.heap.size,dl,cp,none⟩):=CD g5;have g:ghost E id ⟨w.heap.size,dl,cp,none⟩ id=some ⟨w.heap.size,dl,cp,none⟩:=by simp[ghost]
  have VP:=h.step.rel.ghost g5 g7 g6 ⟨w.heap.size,dl,cp,none⟩ obj rfl;have hlv:∀k,Live (ghost E id ⟨w.heap.size,dl,cp,none⟩) s k->Live E s k:=by
   rintro k ⟨m,b2,l2,v,S,q3,q4⟩;have:m≠id:=λe=>by rw[e,g7]at v;cases v
   simp only[ghost,this,aQ]at q3;exact⟨m,b2,l2,v,S,q3,q4⟩
  have z:∀b:Nat->Prop,cy X.C E s w b->cy X.C (ghost E id ⟨w.heap.size,dl,cp,none⟩) s (w.alloc obj) b:=λb hZ=>
   M0 (by rw[mq];omega) (λk Z _=>by rw[dR Z];exact oz (dR Z)) (λk _=>hlv k) (λj O d v S=>by
    by_cases e:j=id
    .simp only[ghost,e,aH,ar]at v;subst v;cases S
    .simp only[ghost,e,aQ]at v;exact⟨j,O,v,S⟩) hZ
  have a6b:Step X.C X.base X.Lb X.s0 X.w0 (ghost E id ⟨w.heap.size,dl,cp,none⟩) s (w.alloc obj):=by
   refine⟨h.step.grow.trans c,VP,⟨?_,h.step.keep.tape,h.step.keep.os,h.step.keep.output,λk T Z hnl=>oz (h.step.keep.stays k T Z hnl)⟩,?_,h.step.next,h.step.SW,?_,h.step.lV,λb hZ hg=>z b (h.step.Xw b hZ hg)⟩
   .have:=h.step.keep.size;rw[mq];omega
   .rintro k ⟨m,b2,l2,v,S,q3,q4⟩ Z;have:m≠id:=λe=>by rw[e,g7]at v;cases v
    simp only[ghost,this,aQ]at q3;exact h.step.live k ⟨m,b2,l2,v,S,q3,q4⟩ Z
   .intro j O hj;by_cases hjd:j=id
    .subst hjd;rw[g]at hj;obtain rfl:=ae hj;exact .inr ⟨g8,.inl h.step.keep.size⟩
    .simp only[ghost,hjd,aQ]at hj;exact h.step.MT j O hj
  refine⟨ghost E id ⟨w.heap.size,dl,cp,none⟩,w.alloc obj,lO tm o.dst cv,⟨a6b,h.ro.grow c,b7 c h.ds,h.ctx.grow c,h.cs,a6n,λk Z=>bk _ (h.nE k Z),h.kinds,
   h.xk,h.sQ,h.two,h.fl,h.We,h.pw,λk Z=>bk _ (h.nw k Z),(h.tm.grow c).a2D o.dst (a6r _ id g) g4 G,h.L5,h.j9,h.ids,?_,?_,?_,?_⟩,
   .one (Bj ho hw' (.inr (K2 a8e)) hr)⟩
  .
   intro k1 k2 n m b1 b2 l1 l2 f F Hv q K;have R:∀k3 id3 b3,cK k3 pe=some (id3,b3)->(id3=id↔k3=i):=λk3 id3 b3 J=>by
    constructor
    .intro e;exact h.ids k3 i id b3 ay (by rw[<-e];exact J) g3
    .intro e;subst e;rw[g3]at J;injection J with J;injection J with J _;exact J.symm
   by_cases c1:k1=i
   .by_cases c2:k2=i
    .exact absurd (c1.trans c2.symm) Hv
    .have e1:=(R k1 n b1 f).2 c1;have e2:m≠id:=λe=>c2 ((R k2 m b2 F).1 e)
     subst e1;rw[g]at q;obtain rfl:=ae q;simp only[ghost,e2,aQ]at K;have:=h.SX k2 m b2 l2 F K;simp only;omega
   .have e1:n≠id:=λe=>c1 ((R k1 n b1 f).1 e)
    simp only[ghost,e1,aQ]at q;by_cases c2:k2=i
    .have e2:=(R k2 m b2 F).2 c2;subst e2;rw[g]at K;obtain rfl:=ae K;have:=h.SX k1 n b1 l1 f q;simp only;omega
    .have e2:m≠id:=λe=>c2 ((R k2 m b2 F).1 e)
     simp only[ghost,e2,aQ]at K;exact h.Bp k1 k2 n m b1 b2 l1 l2 f F Hv q K
  .intro k1 n b1 l1 f q;by_cases e:n=id
   .subst e;rw[g]at q;obtain rfl:=ae q;rw[mq];simp only;omega
   .simp only[ghost,e,aQ]at q;have:=h.SX k1 n b1 l1 f q;rw[mq];omega
  .intro k Z U;have hki:k≠i:=λe=>U (by simp[e])
   obtain⟨T,v,S,q3⟩:=h.al1 k Z (λhm=>U (bk _ hm));refine⟨T,v,S,?_⟩;rcases q3 with q3|⟨p1,ak',a4y,u,p2,p3,p4,p5,p6⟩
   .exact .inl q3
   .refine .inr ⟨p1,ak',a4y,u,p2,p3,p4,?_,p6⟩;have:u≠id:=λe=>hki (h.ids k i u a4y ay p3 (by rw[e];exact g3))
    simp[ghost,this,p5]
  .intro k Z y hon;rcases bQ.1 y with rfl|y
   .intro n a66 f;rw[g3]at f;injection f with f;injection f with f F;subst f;subst F;refine⟨⟨w.heap.size,dl,cp,none⟩,obj,g,SR w obj,a8g _ c,?_,g7,g6,g8,h.step.keep.size,z _ λj O d v S=>Dt.c6.stays (λk hf=>⟨⟨hf.1,hf.2.1,eS hf.1⟩,rfl⟩) d (h.step.rel.rd j O d v S)⟩;intro u N O p r;have Hv:u≠id:=λe=>by rw[e,g7]at p;cases p
    simp only[ghost,Hv,aQ]at r;obtain⟨l3,o3,z1,z2,_⟩:=h.step.rel.ay u N p;rw[r]at z1;obtain rfl:=ae z1;have Kr:O.ay<w.heap.size:=by
     rcases cV O.ay w.heap.size with h'|h'
     .exact h'
     .rw[Fv h']at z2;cases z2
    simp only;omega
   .intro n a66 f;obtain⟨l,o1,f1,f2,f3,f4,f5,f6,f7,f8,f9⟩:=h.al2 k Z y hon n a66 f;have a7Y:n≠id:=λe=>by rw[e,g5]at f1;cases f1
    refine⟨l,o1,by simp[ghost,a7Y,f1],oz f2,f3.mono c ⟨rfl,rfl,rfl⟩,?_,f5,f6,f7,f8,z _ f9⟩;intro u N O p r;have e:u≠id:=λe=>by rw[e,g7]at p;cases p
    simp only[ghost,e,aQ]at r;exact f4 u N O p r
end
end Go.Proofs.YtokipodjggomfaaGreatDoor.Abs
