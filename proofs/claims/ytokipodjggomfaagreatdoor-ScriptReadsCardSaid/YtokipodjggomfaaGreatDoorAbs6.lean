/- Part 6 of an abstract machine that evaluates programs of the model in the kernel. Conditions: those of each theorem. -/
import Derived.Test.YtokipodjggomfaaGreatDoorAbs5
import Derived.Orders
noncomputable section
set_option linter.unusedVariables false
set_option linter.unusedSimpArgs false
namespace Go.Proofs.YtokipodjggomfaaGreatDoor.Abs
section
variable{C:Ctx}{base:Nat}{E:G}{s:S}{w:World}{fi:FI}{ro:Option Nat}{t:Tr AV}{todo:List cw}{tm:Array Value}{items:List Item}{ds:List jh}{ck:List Deferred}{cs:List Frame}
theorem UF{f:Fact}{D:Nat->SE}:∀{l:List Fact},f∈l->f.sub D∈Fact.oQ D l
 | [],h=>by cases h
 |g::l,h=>by
  cases h with
  |head=>exact bB
  |tail _ h=>exact bQ _ (UF h)
theorem PL{E:G}{D:Nat->SE}{pc:List Fact}(b:∀f∈pc,f.holds E):∀{l:List Fact},yS D pc l=true->(∀f∈l,(f.sub D).holds E)->False
 | [],h,_=>by cases h
 |f::l,h,d=>by
  have rest:=λ(h':yS D pc l=true)=>PL b h' (λf g=>d f (bQ _ g))
  have a:=d f bB;cases f with
  |tr e=>
   simp only[yS]at h;cases c:DF false (SE.sub D e) pc with
   |false=>rw[c]at h;exact rest h
   |true=>have I:=uo b c;have a:ax E (SE.sub D e)=some (.val (.bool true)):=a;rw[I]at a;cases a
  |fl e=>
   simp only[yS]at h;cases c:DF true (SE.sub D e) pc with
   |false=>rw[c]at h;exact rest h
   |true=>have I:=uo b c;have a:ax E (SE.sub D e)=some (.val (.bool false)):=a;rw[I]at a;cases a
  |inr _ _=>exact rest h
  |rel _ _ _ _=>exact rest h
theorem JN(hC:Good C){c:bX}{m0:Machine}(z:c.fn=fi.fn){no:R Out}{Q:Out->Prop}(hno:no.path Q)(h:jg C base E fi ro t todo ds .run none s tm items ck .run cs w)
  (abk:fi.kind=.normal->∀A,jg (iD C.P (λ_=>false) []) base A (c.fi ck) ro c.tr c.todo [] .run none c.S tm items ck .run cs w->Nd C.P c base A m0 ck cs w)
  (hQ:∀o,dK C base E s w fi cs m0 o->Q o):(a1j C c no fi t todo ds s).path Q:=by
 obtain⟨hT,hG⟩:=Px hC;have hP:C.P=(iD C.P (λ_=>false) []).P:=rfl;have hR:=h.rel;unfold a1j;obtain⟨_,rl,sl⟩:=JX s.h c.pre (Wr c.t t (.nil,[],[]));simp only;cases hk:a1f C c fi t todo s rl (eb C.nG c.n s.next rl) (fe C.nG c.n sl)with
 |false=>exact hno
 |true=>
  refine R.aZ hQ ?_;simp only[a1f,aM]at hk;obtain⟨⟨hnt,L,p⟩,htm,D,T,hnd,htg,abe,hnG⟩:=hk;have hnt:=dv _ _ hnt;have N:fi.kind=.normal:=by cases hq:fi.kind<;>rw[hq]at L<;>first|rfl|cases L
  have D:=wo Pn D;have rr:=YU hR (n:=c.n) (rl:=rl) (sl:=sl);refine R.pb _ (lA (E:=E) (λf hf=>(hR.pc f hf).2) c.facts) λ_ hf=>?_
  have a0v:=a2U hR T hnd htg hnG hf;have hro:rz (Ii E c.n (eb C.nG c.n s.next rl) (fe C.nG c.n sl)) c.round ro/\(c.round=none↔fi.roundOf=none):=by
   have h0:=h.ro;cases K:c.round with
   |none=>
    cases q:fi.roundOf with
    |none=>
     rw[q]at h0;cases ro with
     |none=>exact⟨eI,by simp⟩
     |some _=>exact h0.elim
    |some j=>rw[K,q]at p;cases p
   |some i=>
    cases q:fi.roundOf with
    |none=>rw[K,q]at p;cases p
    |some j=>
     rw[K,q]at p;have e:=dv _ _ p;rw[q]at h0;cases ro with
     |none=>exact h0.elim
     |some b=>obtain⟨B,I,Y⟩:=h0;obtain⟨O,U,W, -⟩:=rr.aO i B rfl (by rw[e];exact I);exact⟨⟨O,U,by rw[W];exact Y⟩,by simp⟩
  have ac5:jg C base (Ii E c.n (eb C.nG c.n s.next rl) (fe C.nG c.n sl)) (c.fi ck) ro c.tr c.todo [] .run none c.S tm items ck .run cs w:=by
   refine⟨a0v,hro.1,?_,λ_=>?_,rfl,rfl,rfl,by show∃fn,C.P.funcs[c.fn]? =some fn;rw[z];exact h.fn,λ_ _=>rfl⟩
   .have ht:aW E c.nt t tm:=by rw[<-hnt];exact h.tmps
    exact rr.tmps (zf _) (AX htm ht)
   .have V:=h.todo rfl;rw[D]at V;exact J8 (λi l hl=>by obtain⟨O,U,W, -⟩:=rr.aO i l rfl hl;exact⟨O,U,W⟩) V
  obtain⟨o,ho,γ1,s1,M,θ,ν,cv,hst,hθ,acS,abd,a3U,hν,ac6,hcv,g⟩:=abk N _ (ac5.over hP hT hG);have hst:=hst.ctx hP.symm hT.symm hG.symm;obtain⟨i,V⟩:=List.getElem?_of_mem ho;have Pv:i<c.outs.length:=by grind
  refine⟨i,Pv,?_⟩;unfold a1h;rw[wg,V];simp only;have hok:=GL abe o ho;obtain⟨A,k,rr2⟩:=Yt hR T htg hok hst hθ acS
   (λx Z=>by
     obtain⟨b1,l1,g1,g2,g3,g4⟩:=abd x Z;exact⟨b1,l1,g1,g2,g3,λob hob=>(g4 ob (hob.ctx hP hT)).ctx hP.symm hT.symm⟩) a3U hν ac6
  have abm:yS (A4 c.n s.next o.m (fe C.nG c.n sl)) s.pc o.facts=false:=by
   cases hdd:yS (A4 c.n s.next o.m (fe C.nG c.n sl)) s.pc o.facts with
   |false=>rfl
   |true=>exact(PL (E:=A) (λf hf=>(k.rel.pc f (List.mem_append_right _ hf)).2) hdd (λf hf=>(k.rel.pc _ (wZ _ (UF hf))).2)).elim
  rw[abm];simp only;have H:ai A (o.res.sub (A8 c.n s.next (eb C.nG c.n s.next rl)) (A4 c.n s.next o.m (fe C.nG c.n sl)))=some cv:=by simp only[OM,aM]at hok;exact rr2.ai _ _ hok.1 hcv
  have J:ga A fi.kind none cs:=by rw[N];rfl
  have y:cF fi.kind cs cs:=cF.refl (E:=E) h.ctx;have G:dY fi.tl A ds=some ck:=df k.grow h.defs;cases X:o.gv with
  |true=>
   rw[X]at g;obtain⟨r,U,W,k3,k4⟩:=g;cases ds with
   |cons d ds=>trivial
   |nil=>obtain rfl:fi.tl=ck:=ae (show some fi.tl=some ck from G);refine⟨A,M,cs,k,J,y,[{ v:=cv,recovered:=false }],?_,r,U,by rw[show r.fn=c.fn from W,z],k3,k4⟩;show(match kq A _,gM A []with|some a,some b=>some (a::b)|_,_=>none)=_;unfold kq;simp only[H,cM];rfl
  |false=>
  rw[X]at g;have g:Qm C (c.fi ck) cs m0 M cv:=g;simp only;cases u:Ug C fi ds with
  |false=>trivial
  |true=>
   simp only;cases q:fi.roundOf with
   |some l=>
    cases ds with
    |cons d ds=>unfold Ug at u;rw[q]at u;cases u
    |nil=>
     refine⟨A,M,cs,k,J,y,cv,H,?_⟩;rw[q];unfold Qm at g;cases K:c.round with
     |none=>rw[hro.2.1 K]at q;cases q
     |some i'=>rw[show(c.fi ck).roundOf=some i' from K]at g;exact g
   |none=>
    unfold Qm at g;rw[show(c.fi ck).roundOf=none from hro.2.2 q]at g;obtain⟨r,U,W,k3,k4,k5,fn,k6,k7⟩:=g;have k6':C.P.funcs[c.fn]? =some fn:=k6;cases ds with
    |nil=>obtain rfl:fi.tl=ck:=ae (show some fi.tl=some ck from G);refine⟨A,M,cs,k,J,y,cv,H,?_⟩;rw[q];exact⟨r,U,by rw[show r.fn=c.fn from W,z],by rw[show r.kind=.normal from k3,N],k4,k5,fn,by rw[<-z];exact k6',k7⟩
    |cons d ds=>
     refine R.pb _ (JL (cs:=cs) k.rel G r k4 k5) λF hs'=>?_
     obtain⟨w2,g1,g2⟩:=hs';refine⟨A,w2,cs,k.trans g1,J,y,cv,H,?_⟩;rw[q];refine⟨{ r with defers:=fi.tl },U.trans g2,by rw[show r.fn=c.fn from W,z],by rw[show r.kind=.normal from k3,N],k4,rfl,fn,by rw[<-z];exact k6',?_⟩;unfold Ug at u;rw[q]at u;simp only at u;cases hF:C.F.get fi.fn with
     |none=>rw[hF]at u;cases u
     |some fn2=>rw[hF]at u;have I:=B1 hC hF;rw[<-z,k6']at I;obtain rfl:=ae I;exact results_none (bj u) k7
theorem V3(g:Good C){c:bX}(i:c∈C.K)(a:c.fn=fi.fn){no:R Out}{Q:Out->Prop}(b:no.path Q)(h:jg C base E fi ro t todo ds .run none s tm items ck .run cs w)
  (j:∀o,dK C base E s w fi cs (lone (aV fi ro tm items ck .run) cs w) o->Q o):(a1j C c no fi t todo ds s).path Q:=
 JN g a b h (λd A e=>by
  have:=g.con c i base A ro ck tm items cs w e;have f:aV (c.fi ck) ro tm items ck .run=aV fi ro tm items ck .run:=by unfold aV bX.fi;rw[a,d]
  rw[f]at this;exact this) j
theorem Rq(j:Good C){c:bX}(k:c∈C.K)(e:c.fn=fi.fn){no:R Out}{Q:Out->Prop}(f:no.path Q)(h:jg C base E fi ro t todo ds .run none s tm items ck .run cs w)
  (l:∀o,dK C base E s w fi cs (lone (aV fi ro tm items ck .run) cs w) o->Q o):(a1k C c no fi t todo ds s).path Q:=by
 unfold a1k;obtain⟨m,I,b⟩:=Cj (C:=C) c.t h.rel h.tmps;revert I b;obtain⟨t1,s1⟩:=coT C c.t t s;intro I b;simp only at I b ⊢;generalize abB s1.h c t1=rl;obtain⟨d,Y⟩:=Kl rl c.pre I.rel;have a:=I.trans Y;have g:rz d fi.roundOf ro:=h.ro.grow a.grow;have i:jg C base d fi ro t1 todo ds .run none (a4y C rl c.pre s1) tm items ck .run cs w:=by refine⟨a.rel,g,b.grow Y.grow,λ_=>?_,df a.grow h.defs,rfl,h.ctx.grow a.grow,h.fn,h.rk⟩;exact nW a.grow (h.todo rfl)
 exact V3 j k e f i λo ho=>l o (dK.of_steps a (Steps.refl _ _) (cF.refl (E:=E) h.ctx) ho)
theorem V4(g:Good C){c:bX}(i:c∈C.K)(a:c.fn=fi.fn){no:R Out}(b:no.path (dK C base E s w fi cs (lone (aV fi ro tm items ck .run) cs w)))(h:jg C base E fi ro t todo ds .run none s tm items ck .run cs w):
  (a8y C c no fi t todo ds s).path (dK C base E s w fi cs (lone (aV fi ro tm items ck .run) cs w)):=by
 unfold a8y;refine R.pb _ (xq (C:=C) c.t h.rel h.tmps) λr⟨d,I,e⟩=>?_
 have f:jg C base d fi ro r.1 todo ds .run none r.2 tm items ck .run cs w:=
  ⟨I.rel,h.ro.grow I.grow,e,λ_=>nW I.grow (h.todo rfl),df I.grow h.defs,rfl,h.ctx.grow I.grow,h.fn,h.rk⟩
 exact Rq g i a b f λo ho=>dK.of_steps I (Steps.refl _ _) (cF.refl (E:=E) h.ctx) ho
theorem DT(e:Good C){rec:Rec}(a:fY C base rec)(h:jg C base E fi ro t todo ds .run none s tm items ck .run cs w):∀{l:List bX},(∀c∈l,c∈C.K)->
  (HP C rec fi t todo ds s l).path (dK C base E s w fi cs (lone (aV fi ro tm items ck .run) cs w))
 | [],_=>a E fi ro t todo ds .run none s tm items ck .run cs w h
 |c::l,f=>by
  have g:=DT e a h (l:=l) λx Z=>f x (bQ _ Z)
  unfold HP;cases b:Sb s.h c fi.fn t todo with
  |false=>exact g
  |true=>
   have d:c.fn=fi.fn:=by
    unfold Sb at b;cases i:Nat.beq c.fn fi.fn with
    |true=>exact bj i
    |false=>rw[i]at b;cases b
   exact V4 e (f c bB) d g h
theorem JK(b:Good C){rec:Rec}(a:fY C base rec){ctx:Option (List PE)}(h:jg C base E fi ro t todo ds .run ctx s tm items ck .run cs w):
  (Y9 C rec fi t todo ds ctx s).path (dK C base E s w fi cs (lone (aV fi ro tm items ck .run) cs w)):=by
 unfold Y9;cases c:C.K with
 |nil=>exact a E fi ro t todo ds .run ctx s tm items ck .run cs w h
 |cons c0 l=>
  simp only;rw[<-c];cases ctx with
  |none=>exact DT b a h λ_ h=>h
  |some _=>exact a E fi ro t todo ds .run (some _) s tm items ck .run cs w h
end
section
variable{C:Ctx}{base:Nat}{E:G}{s:S}{w:World}
theorem HE{args:List AV}{a:List Value}(h:aN E args=some a){n:Nat}(j:args.length<=n):
  aW E n (Tr.ofList args) ((⟨a⟩:Array Value)++Array.replicate (n-a.length) undef):=by
 have k:=bJ h;refine⟨by simp;omega,?_,?_⟩
 .intro d v b;rw[Tr.eP]at b;obtain⟨c,f,g⟩:=mK d v h b;have e:d<a.length:=by grind
  refine⟨by omega,c,?_,.inr f⟩;rw[CC (by simpa using e)];simpa using g
 .intro d b;rw[Tr.eP]at b;have i:args.length<=d:=by grind
  rw[oh,Array.getElem?_append_right (by simp;omega)];rw[Array.getElem?_replicate];split<;>rfl
theorem vZ(m:Good C){rec:Rec}(e:fY C base rec)(p:Rel C base E s w)(f:FuncId){args:List AV}{a:List Value}(b:aN E args=some a)
  (kind:CallKind) {ctx:Option (List PE)} {cs:List Frame} (g:ga E kind ctx cs):
  (uU C rec f args kind ctx s).path (λo=>(∃fn,C.P.funcs[f]? =some fn)/\∃n,dK C base E s w ⟨f,n,kind,none,[]⟩ cs (lone (Frame.enter C.P f ⟨a⟩ kind) cs w) o):=by
 unfold uU;cases q:C.F.get f with
 |none=>trivial
 |some fn=>
  have d:=B1 m q;cases j:fn.body with
  |none=>simp only[j];trivial
  |some c=>
   simp only[j];cases k:Nat.ble args.length fn.ntmps with
   |false=>trivial
   |true=>
    have i:args.length<=fn.ntmps:=bZ k;have r:=HE b i;have l:Frame.enter C.P f ⟨a⟩ kind=aV ⟨f,fn.ntmps,kind,none,[]⟩ none ((⟨a⟩:Array Value)++Array.replicate (fn.ntmps-a.length) undef) [.code c] [] .run:=by simp[Frame.enter,aV,d,j]
    rw[l];refine R.aZ ?_ (JK m e (fi:=⟨f,fn.ntmps,kind,none,[]⟩) (ro:=none) (t:=Tr.ofList args) (todo:=[.code c]) (ds:=[]) (items:=[.code c]) (ck:=[]) (cs:=cs)
     ⟨p,eI,r,λ_=>rfl,rfl,rfl,g,⟨fn,d⟩,λ_ h=>by cases h⟩)
    intro o ho;exact⟨⟨fn,d⟩,_,ho⟩
theorem T8:∀(a b:List UInt8),preB a b=a.isPrefixOf b
 | [],b=>by cases b<;>rfl
 |a::l,[]=>rfl
 |a::l,b::m=>by
  show(match Nat.beq a.toNat b.toNat with|true=>preB l m|false=>false)=_;have e:Nat.beq a.toNat b.toNat=(a==b):=by rw[Bool.eq_iff_iff];simp[hD]
  rw[e];show _=(a==b&&l.isPrefixOf m);cases a==b
  .rfl
  .simp[T8 l m]
theorem J9(sub:List UInt8):∀(l:List UInt8)(k:Nat),Mo sub l k=if Go.Lib.index l sub== -1 then -1 else(k:Int)+Go.Lib.index l sub
 | [],k=>by
   cases sub with
   |nil=>show Int.ofNat k=_;simp[Go.Lib.index]
   |cons a m=>show(-1:Int)=_;simp[Go.Lib.index]
 |b::l,k=>by
  show(match preB sub (b::l)with|true=>Int.ofNat k|false=>Mo sub l (k+1))=_;rw[T8];unfold Go.Lib.index;cases d:sub.isPrefixOf (b::l)with
  |true=>simp
  |false=>
   simp only[fa,br];rw[J9 sub l (k+1)];have c:=Go.Lib.index_ge l sub;by_cases h:Go.Lib.index l sub= -1
   .simp[h]
   .grind
theorem Ox(T:Good C)(G:Rel C base E s w)(f:FuncId)(g:Nat)(U:wC f C.X=some (.index g)){args:List AV}{j:List Value}(t:aN E args=some j){cs:List Frame}:
  (Sd C s g args).path (λo=>(∃fn,C.P.funcs[f]? =some fn)/\∃n,dK C base E s w ⟨f,n,.normal,none,[]⟩ cs (lone (Frame.enter C.P f ⟨j⟩ .normal) cs w) o):=by
 unfold Sd;split
 case h_2=>trivial
 rename_i x y;obtain⟨W,cl,H,I,rfl⟩:=aL.1 t;obtain⟨Z,cl2,J,Y,rfl⟩:=aL.1 I;simp only[aN,aD]at Y;subst Y;refine R.bR _ (uC x W H) λa ha=>?_
 refine R.bR _ (uC y Z J) λb hb=>?_
 subst ha;subst hb;cases hg:s.h.get g with
 |none=>trivial
 |some aO=>
  cases aO with
  |cells elem cc n fz gU st sg=>
   simp only;cases hv:cc.get 0 with
   |none=>trivial
   |some v=>
    cases v with
    |cE k i=>
     refine R.bR _ (R.bf _ _) λ_ z=>?_
     simp only[aM,Nat.ble_eq,Nat.blt_eq]at z;obtain⟨⟨⟨K,L⟩,hn⟩,A⟩:=z;obtain rfl:=kA K;obtain⟨l,o,hl,ho,B⟩:=G.aO g _ hg;obtain⟨O,D,hb0,hd0⟩:=G.gm g L;rw[hl]at D;obtain rfl:=ae D;obtain⟨vs,lo,V,rfl, -,p, -⟩:=B;obtain⟨c,hc,N⟩:=p 0 _ hn hv;have d:∃m,w.cell? ⟨g,0,none⟩=some (.int .i64 m):=by
      rcases N with h|h
      .cases h
      .obtain⟨dd, -,⟨m,rfl⟩,rfl⟩:=ek h;have d:w.cell? ⟨g,0,none⟩=some (Dt.val (.int .i64 m)).v:=by grind[World.cell?]
       exact⟨m,d⟩
     obtain⟨m,hm⟩:=d;obtain⟨⟨fn,Q⟩,q⟩:=T.ext f (.index g) U;obtain⟨e,M,fr,⟨rfl,rfl⟩,u,F,r⟩:=q ⟨⟨a⟩⟩ ⟨⟨b⟩⟩ m w A hm cs;obtain⟨q1,q2,q3,S,q4,q5⟩:=r;refine⟨⟨fn,Q⟩,0,E,M,cs,Step.refl G,rfl,cF.refl (E:=E) (ctx:=none) rfl,_,?_,fr,u,F,q3,q1,q2,S,by rw[<-F];exact q4,q5⟩;simp only[ai,aD,kV,fp];rw[J9];split
     .next h=>exact(eq_of_beq h).symm
     .simp
    |_=>trivial
  |_=>trivial
theorem Step.kept (a:Rel C base E s w) {M:World} (h:Kept w M):Step C base E s w E s M:=by
 have hk:∀k,k<w.heap.size->¬Live E s k->M.heap[k]? =w.heap[k]? :=λk hk _=>by rw[fb hk];exact h.stays k _ (fb hk)
 refine Step.of ⟨Grow.refl E,⟨λid b c=>?_,a.sep,a.new,a.gm,a.low,iG a.bs h.size,a.pc,a.rd' h.size hk (λ_ _ h=>h) λid l d I Y=>⟨id,l,I,Y⟩⟩,⟨h.size,h.tape,h.os,h.output,λk o hk _=>h.stays k o hk⟩,λ_ h _=>h,bD _,λ_ _ h=>a.lt h,λ_ l h=>.inl ⟨l,h⟩,λ_ b h _=>⟨b,h⟩⟩;obtain⟨l,o,I,Y,W⟩:=a.aO id b c;exact⟨l,o,I,h.stays _ _ Y,W⟩
theorem zD{f:FuncId}{c:bX}:∀{l:List bX},Pd f l=some c->c∈l/\c.fn=f
 | [],h=>by cases h
 |x::l,h=>by
  unfold Pd at h;cases a:Nat.beq x.fn f with
  |true=>rw[a]at h;obtain rfl:=ae h;exact⟨bB,bj a⟩
  |false=>rw[a]at h;exact⟨bQ _ (zD h).1,(zD h).2⟩
theorem V1(t:Good C)(x:Rel C base E s w){c:bX}(y:c∈C.L){args:List AV}{a:List Value}(b:aN E args=some a){cs:List Frame}:
  (a7r C c args s).path (λo=>(∃fn,C.P.funcs[c.fn]? =some fn)/\∃n,dK C base E s w ⟨c.fn,n,.normal,none,[]⟩ cs (lone (Frame.enter C.P c.fn ⟨a⟩ .normal) cs w) o):=by
 obtain⟨k,d,l,f⟩:=t.lib c y;unfold a7r;cases p:kM args.length c.nt with
 |false=>trivial
 |true=>
  have p:=dv _ _ p;have h:a.length=c.nt:=by rw[bJ b];exact p
  refine JN (fi:=⟨c.fn,c.nt,.normal,none,[]⟩) (ro:=none) (tm:=⟨a⟩) (items:=[]) (ck:=[]) (m0:=lone (Frame.enter C.P c.fn ⟨a⟩ .normal) cs w) t rfl trivial ⟨x,eI,?_,λ_=>rfl,rfl,rfl,rfl,k,λ_ _=>rfl⟩ (λ_ A m=>?_) (λo ho=>⟨k,c.nt,ho⟩)
  .have u:=HE (n:=c.nt) b (by omega);rw[h,Nat.sub_self]at u;simpa using u
  .obtain⟨e,M,v,⟨o,ho,q,s1,z,B,D,I,Y,W,U,h5,h6,h7,F,rfl⟩,j,i,g⟩:=f base A a w m.rel m.tmps h cs;obtain⟨G,H,J,r,K,N⟩:=g;refine⟨o,ho,q,s1,M,z,B,D,I,Y,W,U,h5,h6,h7,F,?_⟩;rw[l o ho];show Qm _ _ _ _ _ _;unfold Qm;rw[show(c.fi []).roundOf=none from d];exact⟨v,j,i,J,G,H,r,by rw[show(c.fi []).fn=v.fn from i.symm];exact K,N⟩
theorem GA(d:Good C){rec:Rec}(c:fY C base rec)(h:Rel C base E s w)(f:FuncId){args:List AV}{a:List Value}(b:aN E args=some a){cs:List Frame}:
  (U7 C rec f args s).path (λo=>(∃fn,C.P.funcs[f]? =some fn)/\∃n,dK C base E s w ⟨f,n,.normal,none,[]⟩ cs (lone (Frame.enter C.P f ⟨a⟩ .normal) cs w) o):=by
 have gen:=vZ d c h f b .normal (ctx:=none) (cs:=cs) rfl;unfold U7;cases i:wC f C.X with
 |none=>exact gen
 |some e=>
  cases e with
  |index g=>exact Ox d h f g i b
  |_=>exact gen
theorem Rr(e:Good C){rec:Rec}(d:fY C base rec)(g:Rel C base E s w)(f:FuncId){args:List AV}{b:List Value}(a:aN E args=some b){cs:List Frame}:
  (a1n C rec f args s).path (λo=>(∃fn,C.P.funcs[f]? =some fn)/\∃n,dK C base E s w ⟨f,n,.normal,none,[]⟩ cs (lone (Frame.enter C.P f ⟨b⟩ .normal) cs w) o):=by
 unfold a1n;cases h:Pd f C.L with
 |some c=>
  simp only;cases AV.CQ args with
  |true=>exact GA e d g f a
  |false=>obtain⟨I,Y⟩:=zD h;have:=V1 e g I a (cs:=cs);rw[Y]at this;exact this
 |none=>exact GA e d g f a
theorem GB(d:Good C){rec:Rec}(c:fY C base rec)(e:Rel C base E s w)(f:FuncId){args:List AV}{a:List Value}(b:aN E args=some a){cs:List Frame}:
  (P4 C rec f args s).path (λo=>(∃fn,C.P.funcs[f]? =some fn)/\∃n,dK C base E s w ⟨f,n,.normal,none,[]⟩ cs (lone (Frame.enter C.P f ⟨a⟩ .normal) cs w) o):=by
 exact Rr d c e f b
theorem lz(i:Rel C base E s w)(l:Nat):
  (getLoop s l).path (λr=>∃st pe fn nt tmps params assign body d,r=(st,pe,fn,nt,tmps,params,assign,body,d)/\s.h.get l=some (.loop st pe fn nt tmps params assign body d)):=by
 unfold getLoop;cases h:s.h.get l with
 |none=>trivial
 |some b=>
  cases b with
  |loop a b c n d e f g k=>exact⟨_,_,_,_,_,_,_,_,_,rfl,rfl⟩
  |_=>trivial
theorem Bn:∀(ps:List Tmp)(nt:Nat)(args:List AV)(c:List Value)(t:Tr AV)(tm:Array Value),aN E args=some c->aW E nt t tm->
  (setArgs nt ps args t).path (λQ=>ps.length=c.length/\aW E nt Q ((ps.zip c).foldl (λtmps(x:Tmp×Value)=>tmps.setIfInBounds x.1 x.2) tm))
 | [],nt,args,c,t,tm,d,e=>by
   cases args with
   |nil=>simp only[aN,aD]at d;subst d;exact⟨rfl,e⟩
   |cons _ _=>trivial
 |p::ps,nt,args,c,t,tm,d,e=>by
  cases args with
  |nil=>trivial
  |cons x xs=>obtain⟨a,b,I,Y,rfl⟩:=aL.1 d;refine R.aZ ?_ (Bn ps nt xs b (put nt t (some p) x) (pU tm (some p) a) Y (e.put (some p) I));rintro Q ⟨W,U⟩;exact⟨by simp[W],U⟩
theorem Vs(ps:List Tmp)(cs:List Value)(tm:Array Value):((⟨ps⟩:Array Tmp).zip ⟨cs⟩).foldl (λtmps(x:Tmp×Value)=>match x with|(t,a)=>tmps.setIfInBounds t a) tm=
  (ps.zip cs).foldl (λtmps(x:Tmp×Value)=>tmps.setIfInBounds x.1 x.2) tm:=by
 simp
theorem Ou(p:Good C){rec:Rec}(e:fY C base rec)(h:Rel C base E s w)(l:Nat){args:List AV}{a:List Value}(c:aN E args=some a){B:Loc}(n:E l=some B)(cs:List Frame):
  (Lg C rec l args s).path (λo=>∃fi ro f tm assign body,fi.tl=[]/\fi.kind=.normal/\fi.roundOf=some l/\
    (Instr.yield B.aO ⟨a⟩).run C.P w=.ok (.round B.aO f tm assign body) w/\Frame.round B.aO f tm assign body .normal=aV fi ro tm [.code assign,.beginRound,.code body] [] .run/\
    (∃fn,C.P.funcs[fi.fn]? =some fn)/\
    dK C base E s w fi cs (lone (Frame.round B.aO f tm assign body .normal) cs w) o):=by
 unfold Lg;refine R.bR _ (lz h l) λr q=>?_
 obtain⟨st,pe,fn,nt,tmps,params,assign,body,d,rfl,t⟩:=q;obtain⟨i,o,I,Y,W⟩:=h.aO l _ t;obtain rfl:B=i:=by rw[n]at I;exact ae I
 obtain⟨tm,ld,U,h5,rfl⟩:=W;simp only;refine R.bR _ (Bn params nt args a tmps tm c U) λQ j=>?_
 obtain⟨h6,h7⟩:=j;have u:(Instr.yield B.aO ⟨a⟩).run C.P w=.ok (.round B.aO fn ((params.zip a).foldl (λtmps(x:Tmp×Value)=>tmps.setIfInBounds x.1 x.2) tm) assign body) w:=by
  have v:(getObj B.aO).run C.P w=.ok (.loop { state:=st,pending:=pe,fn,tmps:=tm,params:=⟨params⟩,assign,body,defers:=ld.aO }) w:=o7 Y (by simp);have k:¬((⟨a⟩:Array Value).size≠(⟨params⟩:Array Tmp).size):=by simp[h6]
  unfold Instr.yield Instr.getLoop;simp only[aS,v,bw,bE,av k,bind_assoc,Vs]
 refine R.bR _ (R.hN _ _) λg m=>?_
 have b:=B1 p m;refine R.aZ ?_ (e E ⟨fn,nt,.normal,some l,[]⟩ (some B.aO) Q [.code assign,.beginRound,.code body] [] .run none s _ [.code assign,.beginRound,.code body] [] .run cs w
  ⟨h,⟨B,n,rfl⟩,h7,λ_=>rfl,rfl,rfl,rfl,⟨g,b⟩,λ_ _=>rfl⟩)
 intro o ho;exact⟨⟨fn,nt,.normal,some l,[]⟩,some B.aO,fn,_,assign,body,rfl,rfl,rfl,u,rfl,⟨g,b⟩,ho⟩
end
section
variable{C:Ctx}{base:Nat}{E:G}{s:S}{w:World}{nt:Nat}{t:Tr AV}{a:Act}
theorem LH(j:Rel C base E s w)(k:aW E nt t a.tmps)(c:Call)(rt:TypeId):
  (ia c C t).path (λd=>∃l,oM E d=some l/\(resolve a.eval c rt).run C.P w=.ok l w):=by
 refine R.bR _ (vX j k c.args.toList) λargs b=>?_
 have m:c.args.map a.eval=⟨c.args.toList.map a.eval⟩:=by apply Array.ext';simp
 cases n:c.callee with
 |value f=>
  simp only;refine R.bR _ (bO j k f) λo e=>?_
  cases o with
  |fn g x y=>
   simp only[ai]at e;cases h:lD g with
   |false=>simp[h]at e
   |true=>
    cases Z:aN E x with
    |none=>simp[h,Z]at e
    |some p=>
     cases i:aN E y with
     |none=>simp[h,Z,i]at e
     |some q=>
      simp only[h,Z,i,aD]at e;refine⟨{ target:=.fn g ⟨q⟩,args:=(⟨p⟩:Array Value)++⟨c.args.toList.map a.eval⟩ },?_,?_⟩
      .simp only[oM,ai,h,Z,i,b]
      .simp only[resolve,n];rw[<-e,m];simp[Deferred.ofValue]
  |_=>trivial
 |_=>simp only;trivial
end
section
variable{P:Program}{fi:FI}{ro:Option Nat}{tm:Array Value}{k:List Item}{ds:List Deferred}{cs:List Frame}{w:World}{ops:Array Oper}{i:Nat}{rest:List Nat}{o:Oper}
theorem Iw{l b:Nat}{c:Call}{d:Deferred}{dl:List Deferred}{lp:Loop}(ho:ops[i]? =some o)(g:Region.wanted o (yielded ops tm)=true)(a:o.op=.defer c)
  (h:(resolve (Act.eval ⟨tm,ds⟩) c o.type).run P w=.ok d w) (j:w.heap[l]? =some (.loop lp)) (m:lp.defers=b) (e:w.heap[b]? =some (.deferred (some dl))):
  step P (lone (aV fi (some l) tm (.inRegion ops (i::rest)::k) ds .run) cs w)=.next (lone (aV fi (some l) (pU tm o.dst undef) (.inRegion ops rest::k) ds .run) cs
   { w with heap:=w.heap.setIfInBounds b (.deferred (some (d::dl))) }):=by
 rw[<-jx undef ho];have f:=Hw (fi:=fi) (ro:=some l) (tm:=tm) (ds:=ds) (.inRegion ops (i::rest)::k) .run;simp only[aV]at f;subst m;refine dE ?_;simp[stepG,stepG.exec,stepG.oper,Frame.oper?,aV,ho,g,f,a,stepG.apply,h,Instr.deferInRound,Instr.getLoop,j,e,getObj,setObj,Sem.run]
theorem Ep(ho:ops[i]? =some o)(a:Region.wanted o (yielded ops tm)=true)(b:∀c,o.op≠.defer c)(d:(execOp (Act.eval ⟨tm,ds⟩) o).run P w=.ok .recover w)
  (e:∀m,tryRecover (aV fi none tm (.inRegion ops (i::rest)::k) ds m) cs=none):
  step P (lone (aV fi none tm (.inRegion ops (i::rest)::k) ds .run) cs w)=.next (lone (aV fi none (pU tm o.dst .nilIface) (.inRegion ops rest::k) ds .run) cs w):=by
 rw[<-jx .nilIface ho];refine dE ?_;rw[DA ho a (.inr b)];have:=e .run;simp only[aV]at this;simp[stepG.apply,d,aV,this]
theorem Eo(ho:ops[i]? =some o)(b:Region.wanted o (yielded ops tm)=true)(d:∀c,o.op≠.defer c)(e:(execOp (Act.eval ⟨tm,ds⟩) o).run P w=.ok .recover w)
  {v:Value} {a:List Frame} (f:∀m,tryRecover (aV fi none tm (.inRegion ops (i::rest)::k) ds m) cs=some (v,a)):
  step P (lone (aV fi none tm (.inRegion ops (i::rest)::k) ds .run) cs w)=.next (lone (aV fi none (pU tm o.dst v) (.inRegion ops rest::k) ds .run) a w):=by
 rw[<-jx v ho];refine dE ?_;rw[DA ho b (.inr d)];have:=f .run;simp only[aV]at this;simp[stepG.apply,e,aV,this]
end
theorem MC{o:Op}{c:Call}(h:rp o=some c):o=.defer c:=by cases o<;>simp[rp]at h;subst h;rfl
theorem MD{o:Op}(h:rp o=none)(c:Call):o≠.defer c:=by grind[rp]
section
variable{C:Ctx}{base:Nat}{E:G}{s:S}{w:World}{fi:FI}{ro:Option Nat}{t tJ:Tr AV}{tm:Array Value}{k:List Item}{ds:List jh}{ck:List Deferred}
 {ctx:Option (List PE)} {cs:List Frame} {ops:Array Oper} {i:Nat} {rest:List Nat} {o:Oper}
theorem Ev(f:Rel C base E s w){l:Nat}(c:fi.roundOf=some l){B:Loc}(k:E l=some B){d:AD}{g:Deferred}(i:oM E d=some g):
  (HI fi d ds s).path (λr=>r.1=ds/\∃lp dl,w.heap[B.aO]? =some (.loop lp)/\w.heap[lp.defers]? =some (.deferred (some dl))/\
    Step C base E s w E r.2 { w with heap:=w.heap.setIfInBounds lp.defers (.deferred (some (g::dl))) }):=by
 unfold HI;rw[c];refine R.bR _ (lz f l) λr m=>?_
 obtain⟨st,pe,fn,nt,tmps,params,assign,body,b,rfl,n⟩:=m;obtain⟨j,o,I,Y,W⟩:=f.aO l _ n;obtain rfl:B=j:=by rw[k]at I;exact ae I
 obtain⟨p,ld,U,h5,rfl⟩:=W;simp only;cases e:s.h.get b with
 |none=>trivial
 |some x=>
  cases x with
  |fV y=>
   cases y with
   |none=>trivial
   |some dl=>obtain⟨q,T,g1,g2,a,g3,rfl⟩:=f.aO b _ e;rw[h5]at g1;obtain rfl:=ae g1;refine⟨rfl,_,a,Y,g2,?_⟩;exact Step.sX f e h5 g2 rfl rfl (N:=.fV (some (d::dl))) (T:=.deferred (some (g::a))) ⟨g::a,by simp only[hU,i,g3],rfl⟩ rfl rfl rfl rfl
  |_=>trivial
theorem LG(hC:Good C){rec:Rec}(abb:fY C base rec)(hR:Rel C base E s w)(ht:aW E fi.nt tJ tm)
  (adk:∀s,sF o.op o.type C t s=sF o.op o.type C tJ s) (adj:∀c,o.op=.defer c->ia c C t=ia c C tJ)
  (ho:ops[i]? =some o) (H:rz E fi.roundOf ro) (D:dY fi.tl E ds=some ck) (e:ga E fi.kind ctx cs) (Q:RG->Prop) (K:RK)
  (g:∀A F M J ds' a8B a73 v c,Step C base E s w A F M->ai A v=some c->dY fi.tl A ds'=some a8B->ga A fi.kind a73 J->cF fi.kind cs J->
    Steps C.P (lone (aV fi ro tm (.inRegion ops (i::rest)::k) ck .run) cs w) (lone (aV fi ro (pU tm o.dst c) (.inRegion ops rest::k) a8B .run) J M)->
    (K (put fi.nt t o.dst v) ds' a73 F).path Q)
  (X:∀A F M ch V items,Step C base E s w A F M->gM A ch=some V->
    Steps C.P (lone (aV fi ro tm (.inRegion ops (i::rest)::k) ck .run) cs w) (lone (aV fi ro tm items ck (.panicking V)) cs M)->Q (.gv ch t ds ctx F))
  {b:Bool} (hb:Region.wanted o (yielded ops tm)=b):(Be C rec fi fi.nt K o.dst o.op o.type t ds ctx s b).path Q:=by
 cases b with
 |false=>exact g E s w cs ds ck ctx iK undef (Step.refl hR) jb D e (cF.refl e) (.one (zi ho hb))
 |true=>
  show(DG C rec fi fi.nt K o.dst o.op o.type t ds ctx s).path Q;unfold DG;cases hdo:rp o.op with
  |some c=>
   have hop:=MC hdo;show((ia c C t).bind λx=>Gt fi fi.nt o.dst K t ds ctx x s).path Q;rw[adj c hop];refine R.pb _ (LH (a:=⟨tm,ck⟩) hR ht c o.type) λd hd=>?_
   obtain⟨cd,hcd,a3T⟩:=hd;unfold Gt;cases z:fi.roundOf with
   |none=>
    rw[z]at H;cases ro with
    |some _=>exact H.elim
    |none=>
     have hda:HI fi d ds s=.ok (.call d::ds,s):=by unfold HI;rw[z]
     rw[hda];have Z:(execOp (Act.eval ⟨tm,ck⟩) o).run C.P w=.ok (.defer cd) w:=by simp[execOp,hop,a3T]
     exact g E s w cs (.call d::ds) (cd::ck) ctx iK undef (Step.refl hR) jb (hV.2 ⟨cd,ck,hcd,D,rfl⟩) e (cF.refl e)
      (.one (YA ho hb (.inl rfl) Z))
   |some l=>
    rw[z]at H;cases ro with
    |none=>exact H.elim
    |some bl=>
     obtain⟨B,hl,rfl⟩:=H;refine R.pb _ (Ev hR z hl hcd) λr S=>?_
     obtain⟨ds',F⟩:=r;obtain⟨rfl,lp,dl,I,Y,j⟩:=S;exact g E F _ cs ds' ck ctx iK undef j jb D (e.grow j.grow) (cF.refl e) (.one (Iw ho hb hop a3T I rfl Y))
  |none=>
   have L:=MD hdo;show((sF o.op o.type C t s).bind (a5B C rec fi.nt fi o.dst K t ds ctx)).path Q;rw[adk s];refine R.pb _ (CT hC hR (a:=⟨tm,ck⟩) ht o) λx Z=>?_
   cases x with
   |val v F=>obtain⟨A,c,M,S,hv,j⟩:=Z;exact g A F M cs ds ck ctx v c j hv (df j.grow D) (e.grow j.grow) (cF.refl e) (.one (F6 ho hb (.inr L) S))
   |skip F=>obtain⟨A,M,S,j⟩:=Z;exact g A F M cs ds ck ctx iK undef j jb (df j.grow D) (e.grow j.grow) (cF.refl e) (.one (VE ho hb (.inr L) S))
   |enter f args F=>
    obtain⟨γ1,l,w1,S,N,j⟩:=Z;show((P4 C rec f args F).bind (Kq fi.nt o.dst K t ds ctx)).path Q;refine R.pb _ (GB hC abb j.rel f N (cs:=aV fi ro tm (.inRegion ops (i::rest)::k) ck .run::cs)) λout a0w=>?_
    obtain⟨⟨fn,hfn⟩,n,A,M,J,a7D,abn,T,G⟩:=a0w;have O:J=aV fi ro tm (.inRegion ops (i::rest)::k) ck .run::cs:=T;subst O;have q:=j.trans a7D;have u:=Yz (fi:=fi) (ro:=ro) (k:=k) (cs:=cs) (rest:=rest) ho hb (.inr L) S;obtain⟨res,a7f,os⟩:=out;cases res with
    |ret v=>obtain⟨cv,W,fr',y,hf,hk,hm,hdf,fn',a7F,hrs⟩:=G;refine g A os M cs ds ck ctx v cv q W (df q.grow D) (e.grow q.grow) (cF.refl e) (.head u (y.trans (.one ?_)));rw[<-jx cv ho];exact step_leave_returned ⟨hm,hdf,hk,fn',by rw[hf];exact a7F,hrs⟩
    |gv ch=>obtain⟨V,hch,fr',y,hf,hm,hdf⟩:=G;refine X A os M ch V (.inRegion ops (i::rest)::k) q hch (.head u (y.trans (.one ?_)));exact step_leave_panicked ⟨hm,hdf,fn,by rw[hf];exact hfn⟩
   |round l args F=>
    obtain⟨rfl,B,adB,hl,N,S⟩:=Z;show((Lg C rec l args F).bind (Kq fi.nt o.dst K t ds ctx)).path Q;refine R.pb _ (Ou hC abb hR l N hl (aV fi ro tm (.inRegion ops (i::rest)::k) ck .run::cs)) λout a0w=>?_
    obtain⟨fi',ro',f,tm',assign,body,acW,hk',acY,hy,hfr,⟨fn,hfn⟩,A,M,J,q,abn,T,G⟩:=a0w;rw[hk']at T;have O:J=aV fi ro tm (.inRegion ops (i::rest)::k) ck .run::cs:=T;subst O;have u:=Yv (fi:=fi) (ro:=ro) (k:=k) (cs:=cs) (rest:=rest) ho hb (.inr L) (S.trans hy);obtain⟨res,a7f,os⟩:=out;cases res with
    |ret v=>obtain⟨cv,W,h5⟩:=G;rw[acY]at h5;refine g A os M cs ds ck ctx v cv q W (df q.grow D) (e.grow q.grow) (cF.refl e) (.head u ?_);rw[<-jx cv ho];exact h5 _ _ rfl
    |gv ch=>obtain⟨V,hch,fr',y,hf,hm,hdf⟩:=G;refine X A os M ch V (.inRegion ops (i::rest)::k) q hch (.head u (y.trans (.one ?_)));exact step_leave_panicked ⟨hm,by rw[hdf,acW],fn,by rw[hf];exact hfn⟩
   |defer d F=>trivial
   |recover F=>
    obtain⟨rfl,S⟩:=Z;show(zq fi fi.nt o.dst K t ds ctx F).path Q;unfold zq Oe;cases z:fi.roundOf with
    |some l=>trivial
    |none=>
     rw[z]at H;cases ro with
     |some _=>exact H.elim
     |none=>
      have U:(∀m,tryRecover (aV fi none tm (.inRegion ops (i::rest)::k) ck m) cs=none)->(K (put fi.nt t o.dst .qc) ds ctx F).path Q:=λh=>
       g E F w cs ds ck ctx .qc .nilIface (Step.refl hR) rfl D e (cF.refl e) (.one (Ep ho hb L S h))
      cases hk:fi.kind with
      |normal=>exact U λm=>by simp[tryRecover,aV,hk]
      |deferred=>
       rw[hk]at e;obtain⟨c,fX,rfl,hc⟩:=e;cases ctx with
       |none=>exact U λm=>by simp[tryRecover,aV,hk,show c.mode=.returning from hc]
       |some ch=>
        obtain⟨cc,hcc,hcm⟩:=hc;cases ch with
        |nil=>simp only[gM,aD]at hcc;subst hcc;exact U λm=>by simp[tryRecover,aV,hk,hcm]
        |cons p a5G=>
         obtain⟨cp,col,hcp,ade,rfl⟩:=gZ.1 hcc;obtain⟨v,rcv⟩:=p;simp only[kq,bk]at hcp;obtain⟨cv,W,rfl⟩:=hcp;cases rcv with
         |true=>exact U λm=>by simp[tryRecover,aV,hk,hcm]
         |false=>
          refine g E F w ({ c with mode:=.panicking ({ v:=cv,recovered:=true }::col) }::fX) ds ck (some ({ v,recovered:=true }::a5G)) v cv (Step.refl hR) W D ?_ ?_ (.one (Eo ho hb L S ?_))
          .rw[hk];exact⟨_,fX,rfl,_,gZ.2 ⟨{ v:=cv,recovered:=true },col,by simp[kq,W],ade,rfl⟩,rfl⟩
          .rw[hk];exact⟨c,fX,_,rfl,rfl⟩
          .intro m;simp[tryRecover,aV,hk,hcm]
      |_=>trivial
   |gv v F=>obtain⟨A,c,M,S,hv,j⟩:=Z;exact X A F M [⟨v,false⟩] [{ v:=c,recovered:=false }] _ j (gZ.2 ⟨{ v:=c,recovered:=false },[],by simp[kq,hv],rfl,rfl⟩) (.one (Yx ho hb (.inr L) S))
theorem Ov(D:Good C){rec:Rec}(m:fY C base rec)(G:Rel C base E s w)(B:aW E fi.nt tJ tm)
  (n:∀s,hH ops o.guard t s=hH ops o.guard tJ s) (p:∀s,sF o.op o.type C t s=sF o.op o.type C tJ s) (q:∀c,o.op=.defer c->ia c C t=ia c C tJ)
  (ho:ops[i]? =some o) (y:rz E fi.roundOf ro) (z:dY fi.tl E ds=some ck) (u:ga E fi.kind ctx cs) (Q:RG->Prop) (K:RK)
  (j:∀A F M d f a b v c,Step C base E s w A F M->ai A v=some c->dY fi.tl A f=some a->ga A fi.kind b d->cF fi.kind cs d->
    Steps C.P (lone (aV fi ro tm (.inRegion ops (i::rest)::k) ck .run) cs w) (lone (aV fi ro (pU tm o.dst c) (.inRegion ops rest::k) a .run) d M)->
    (K (put fi.nt t o.dst v) f b F).path Q)
  (x:∀A F M ch g items,Step C base E s w A F M->gM A ch=some g->
    Steps C.P (lone (aV fi ro tm (.inRegion ops (i::rest)::k) ck .run) cs w) (lone (aV fi ro tm items ck (.panicking g)) cs M)->Q (.gv ch t ds ctx F)):
  (vP C rec fi ops K o t ds ctx s).path Q:=by
 have e:vP C rec fi ops K o t ds ctx s=(hH ops o.guard t s).bind λr=>Be C rec fi fi.nt K o.dst o.op o.type t ds ctx r.2 r.1:=by cases o;rfl
 rw[e,n];refine R.pb _ (LC G B ops o) λr H=>?_
 obtain⟨I,l⟩:=H;exact LG D m l.rel B p q ho y z u Q K (λA F M d f a b v c h=>j A F M d f a b v c (l.trans h)) (λA F M ch g items h=>x A F M ch g items (l.trans h)) I
theorem a3a{nt:Nat}{t:Tr AV}{d:Option Tmp}{v a:AV}:put nt (put nt t d v) d a=put nt t d a:=by
 cases d with
 |none=>rfl
 |some d=>
  unfold put;simp only;cases Nat.blt d nt with
  |false=>rfl
  |true=>exact Tr.set_set _ _ _ _
theorem Ws{nt:Nat}{t:Tr AV}{d:Option Tmp}{v:AV}{e:SE}(h:Pb nt d (put nt t d v)=some e):v=.cE .bool e:=by
 cases d with
 |none=>cases h
 |some d=>
  unfold Pb at h;simp only at h;cases a:Nat.blt d nt with
  |false=>rw[a]at h;cases h
  |true=>
   rw[a]at h;have b:put nt t (some d) v=t.set d v:=by unfold put;simp only;rw[a]
   rw[b,Tr.get_set_same]at h;simp only at h;split at h<;>first|(cases h;done)|skip
   split at h<;>first|(cases h;done)|skip
   obtain rfl:=ae h;rfl
theorem Bp(L:Good C){rec:Rec}(p:fY C base rec)(N:Rel C base E s w)(O:aW E fi.nt tJ tm)
  (q:∀s,hH ops o.guard t s=hH ops o.guard tJ s) (u:∀s,sF o.op o.type C t s=sF o.op o.type C tJ s) (x:∀c,o.op=.defer c->ia c C t=ia c C tJ)
  (ho:ops[i]? =some o) (G:rz E fi.roundOf ro) (H:dY fi.tl E ds=some ck) (y:ga E fi.kind ctx cs) (Q:RG->Prop) (K:RK)
  (h:∀A F M g j a d v c,Step C base E s w A F M->ai A v=some c->dY fi.tl A j=some a->ga A fi.kind d g->cF fi.kind cs g->
    Steps C.P (lone (aV fi ro tm (.inRegion ops (i::rest)::k) ck .run) cs w) (lone (aV fi ro (pU tm o.dst c) (.inRegion ops rest::k) a .run) g M)->
    (K (put fi.nt t o.dst v) j d F).path Q)
  (z:∀A F M ch B items,Step C base E s w A F M->gM A ch=some B->
    Steps C.P (lone (aV fi ro tm (.inRegion ops (i::rest)::k) ck .run) cs w) (lone (aV fi ro tm items ck (.panicking B)) cs M)->Q (.gv ch t ds ctx F)):
  (j7 C rec fi ops K o t ds ctx s).path Q:=by
 unfold j7;refine Ov L p N O q u x ho G H y Q _ (λA F M g j a d v c n J m l D f=>?_) z;unfold Wu;cases S:Pb fi.nt o.dst (put fi.nt t o.dst v)with
 |none=>exact h A F M g j a d v c n J m l D f
 |some e=>
  obtain rfl:=Ws S;obtain⟨U,I,⟨b,rfl⟩,rfl⟩:=ek J;refine R.pb _ (uB n.rel I) λr T=>?_
  obtain⟨e1,Y, -⟩:=T;rw[a3a];exact h A r.2 M g j a d (.bool r.1) (.bool b) (n.trans Y) (by rw[e1];rfl) m l D f
end
def rA(C:Ctx)(base:Nat)(E:G)(s:S)(w:World)(fi:FI)(ro:Option Nat)(k:List Item)(cs:List Frame)(m0:Machine):RG->Prop
 | .fin Q e c F=>∃A d a b M,Step C base E s w A F M/\aW A fi.nt Q d/\dY fi.tl A e=some a/\ga A fi.kind c b/\cF fi.kind cs b/\
     Steps C.P m0 (lone (aV fi ro d k a .run) b M)
 | .gv ch Q e c F=>∃A d items a b M f,Step C base E s w A F M/\aW A fi.nt Q d/\dY fi.tl A e=some a/\ga A fi.kind c b/\cF fi.kind cs b/\
     gM A ch=some f/\Steps C.P m0 (lone (aV fi ro d items a (.panicking f)) b M)
section
variable{C:Ctx}{base:Nat}{E:G}{s:S}{w:World}{fi:FI}{ro:Option Nat}{k:List Item}{cs:List Frame}{ops:Array Oper}
theorem rA.of_steps {d:G} {m:S} {n:World} {e:List Frame} {m0 o:Machine} {r:RG} (f:Step C base E s w d m n) (p:Steps C.P m0 o) (g:cF fi.kind cs e)
  (h:rA C base d m n fi ro k e o r):rA C base E s w fi ro k cs m0 r:=by
 cases r with
 |fin Q j i F=>obtain⟨A,b,a,c,M,I,Y,W,U,h5,h6⟩:=h;exact⟨A,b,a,c,M,f.trans I,Y,W,U,g.trans h5,p.trans h6⟩
 |gv ch Q j i F=>obtain⟨A,b,items,a,c,M,l,I,Y,W,U,h5,h6,h7⟩:=h;exact⟨A,b,items,a,c,M,l,f.trans I,Y,W,U,g.trans h5,h6,p.trans h7⟩
theorem DL(z:Good C){rec:Rec}(j:fY C base rec):∀(l:List Oper)(a:List Nat),a.map (λi=>ops[i]?)=l.map some->
  ∀{E:G}{s:S}{w:World}{t:Tr AV}{tm:Array Value}{ds:List jh}{ck:List Deferred}{ctx:Option (List PE)}{cs:List Frame},
  Rel C base E s w->aW E fi.nt t tm->rz E fi.roundOf ro->dY fi.tl E ds=some ck->ga E fi.kind ctx cs->
  (Rd C rec fi ops l t ds ctx s).path (rA C base E s w fi ro k cs (lone (aV fi ro tm (.inRegion ops a::k) ck .run) cs w))
 | [],a,b,E,s,w,t,tm,ds,ck,ctx,cs,q,n,h,g,d=>by
   have:a=[]:=by cases a with|nil=>rfl|cons _ _=>simp at b
   subst this;exact⟨E,tm,ck,cs,w,Step.refl q,n,g,d,cF.refl d,.one yh⟩
 |o::l,[],b,E,s,w,t,tm,ds,ck,ctx,cs,q,n,h,g,d=>by simp at b
 |o::l,i::a,b,E,s,w,t,tm,ds,ck,ctx,cs,q,n,h,g,d=>by
  simp only[kP,pj]at b;obtain⟨ho,b⟩:=b;show(j7 C rec fi ops (Rd C rec fi ops l) o t ds ctx s).path _;refine Bp (k:=k) (rest:=a) z j q n (λ_=>rfl) (λ_=>rfl) (λ_ _=>rfl) ho h g d _ _ ?_ ?_
  .intro A F M H I B D v c e J p m u f;refine R.aZ ?_ (DL z j l a b e.rel ((n.grow e.grow).put o.dst J) (h.grow e.grow) p m);intro r K;exact K.of_steps e f u
  .intro A F M ch x items e y f;exact⟨A,tm,items,ck,cs,M,x,e,n.grow e.grow,df e.grow g,d.grow e.grow,cF.refl d,y,f⟩
theorem VT(ops:Array Oper):(List.range ops.size).map (λi=>ops[i]?)=ops.toList.map some:=by
 apply List.ext_getElem?;intro j;simp only[kh];by_cases h:j<ops.size
 .rw[List.getElem?_range h];simp[h]
 .grind
theorem Ki{id:Nat}:∀{l:List cw}{r:List Item},jc E l=some r->
  match HA id l with
  |some O=>∃r',exitTo id r=some r'/\jc E O=some r'
  |none=>exitTo id r=none
 | [],r,h=>by simp only[jc,aD]at h;subst h;rfl
 |x::l,r,h=>by
  obtain⟨a,b,c,f,rfl⟩:=dI.1 h;have e:=Ki (id:=id) f;cases x with
  |inBlock u=>
   simp only[kF,aD]at c;subst c;simp only[HA];cases d:Nat.beq u id with
   |true=>have:u=id:=bj d;subst this;exact⟨b,by simp[exitTo],f⟩
   |false=>
    have:¬(u==id)=true:=by intro h;rw[beq_iff_eq]at h;subst h;rw[show Nat.beq u u=true from Nat.beq_refl u]at d;cases d
    simp only;rw[show exitTo id (.inBlock u::b)=exitTo id b by simp only[exitTo,this];rfl];exact e
  |rf O=>simp only[kF,bk]at c;obtain⟨_,_,rfl⟩:=c;exact e
  |lI O=>simp only[kF,bk]at c;obtain⟨_,_,rfl⟩:=c;exact e
  |_=>simp only[kF,aD]at c;subst c;exact e
end
section
variable{P:Program}{fi:FI}{tm:Array Value}{k:List Item}{ds:List Deferred}{cs:List Frame}{w:World}
theorem A6{l:Nat}{lp:Loop}(b:w.heap[l]? =some (.loop lp))(a:Option Code):(Instr.endRound l a).run P w=
  .ok (.bool a.isNone) { w with heap:=w.heap.setIfInBounds l (.loop { lp with state:=if a.isNone then .ready else .done,pending:=a }) }:=by
 have I:(getObj l).run P w=.ok (.loop lp) w:=o7 b (by simp);unfold Instr.endRound Instr.getLoop;simp only[aS,I,bw,bE,bind_assoc];rw[sY b (by simp)];rfl
def J2(w:World)(l:Nat)(lp:Loop)(a:Option Code):World:=
 { w with heap:=w.heap.setIfInBounds l (.loop { lp with state:=if a.isNone then .ready else .done,pending:=a }) }
section
variable{l:Nat}{lp:Loop}{c:Frame}
theorem K4(hk:fi.kind=.normal)(a:w.heap[l]? =some (.loop lp)):step P (lone (aV fi (some l) tm [] ds .run) (c::cs) w)=.next (lone (c.finish (.bool true)) cs (J2 w l lp none)):=
 dE (by have:=A6 (P:=P) a none;simp[stepG,stepG.exec,aV,this,doReturn,hk,J2])
theorem K3(hk:fi.kind=.normal)(a:w.heap[l]? =some (.loop lp)):step P (lone (aV fi (some l) tm (.code .ret::k) ds .run) (c::cs) w)=.next (lone (c.finish (.bool false)) cs (J2 w l lp (some .ret))):=
 dE (by have:=A6 (P:=P) a (some .ret);simp[stepG,stepG.exec,aV,this,doReturn,hk,J2])
end
end
section
variable{C:Ctx}{base:Nat}{E:G}{s:S}{w:World}{fi:FI}{ro:Option Nat}{t:Tr AV}{tm:Array Value}{items:List Item}{ds:List jh}{ck:List Deferred}{ctx:Option (List PE)}{cs:List Frame}
theorem LI{rec:Rec}(a:fY C base rec){todo:List cw}{m0:Machine}{mode:n7}{m:FrameMode}
  (h:jg C base E fi ro t todo ds mode ctx s tm items ck m cs w) (b:step C.P m0=.next (lone (aV fi ro tm items ck m) cs w)):
  (rec fi t todo ds mode ctx s).path (dK C base E s w fi cs m0):=
 R.aZ (λ_ ho=>dK.of_steps (Step.refl h.rel) (.one b) (cF.refl h.ctx) ho) (a E fi ro t todo ds mode ctx s tm items ck m cs w h)
theorem DP{rec:Rec}(f:fY C base rec){todo:List cw}{m0:Machine}(h:jg C base E fi ro t todo ds .run ctx s tm items ck .run cs w)(a:Option Code)
  (p:ro=none->(a=none\/a=some .ret)->step C.P m0=.next (lone (aV fi none tm items ck .returning) cs w))
  (I:∀l lp c rest,ro=some l->fi.kind=.normal->w.heap[l]? =some (.loop lp)->cs=c::rest->step C.P m0=.next (lone (c.finish (.bool a.isNone)) rest (J2 w l lp a))):
  (C7 rec fi t ds ctx s a).path (dK C base E s w fi cs m0):=by
 unfold C7;cases d:fi.roundOf with
 |none=>
  have e:=h.ro;rw[d]at e;cases ro with
  |some _=>exact e.elim
  |none=>
   have i:jg C base E fi none t [] ds .ret ctx s tm items ck .returning cs w:=⟨h.rel,h.ro,h.tmps,(λh=>by cases h),h.defs,rfl,h.ctx,h.fn,h.rk⟩;cases a with
   |none=>exact LI f i (p rfl (.inl rfl))
   |some c=>
    cases c with
    |ret=>exact LI f i (p rfl (.inr rfl))
    |_=>trivial
 |some l=>
  have e:=h.ro;rw[d]at e;cases ro with
  |none=>exact e.elim
  |some x=>
   obtain⟨B,q,rfl⟩:=e;simp only;refine R.bR _ (lz h.rel l) λr v=>?_
   obtain⟨st,pe,fn,nt,tmps,params,assign,body,b,rfl,u⟩:=v;obtain⟨k,o,g1,g2,g3⟩:=h.rel.aO l _ u;obtain rfl:B=k:=by rw[q]at g1;exact ae g1
   obtain⟨g,ld,g4,g5,rfl⟩:=g3;have hk:=h.rk l d;have fin:∀j,j=(if a.isNone then LoopState.ready else .done)->
     (R.ok ⟨.ret (.bool a.isNone),ctx,⟨s.h.set l (.loop j a fn nt tmps params assign body b),s.next,s.pc⟩⟩:R Out).path (dK C base E s w fi cs m0):=by
    rintro _ rfl;have m:Step C base E s w E ⟨s.h.set l (.loop (if a.isNone then LoopState.ready else .done) a fn nt tmps params assign body b),s.next,s.pc⟩
      (J2 w B.aO { state:=st,pending:=pe,fn,tmps:=g,params:=⟨params⟩,assign,body,defers:=ld.aO } a):=
     Step.sX h.rel u q g2 rfl rfl (N:=.loop (if a.isNone then LoopState.ready else .done) a fn nt tmps params assign body b)
      (T:=.loop { state:=(if a.isNone then LoopState.ready else .done),pending:=a,fn,tmps:=g,params:=⟨params⟩,assign,body,defers:=ld.aO }) ⟨g,ld,g4,g5,rfl⟩
      rfl rfl rfl rfl
    refine⟨E,_,cs,m,h.ctx,cF.refl h.ctx,.bool a.isNone,rfl,?_⟩;rw[d];intro c rest n;exact .one (I B.aO _ c rest rfl hk g2 n)
   cases a with
   |none=>exact fin _ rfl
   |some c=>exact fin _ rfl
end
section
variable{C:Ctx}{base:Nat}{E:G}{s:S}{w:World}{fi:FI}{ro:Option Nat}{t:Tr AV}{tm:Array Value}{items:List Item}{ds:List jh}{ck:List Deferred}{ctx:Option (List PE)}{cs:List Frame}
abbrev Xe(C:Ctx)(base:Nat)(E:G)(fi:FI)(ro:Option Nat)(t:Tr AV)(todo:List cw)(ds:List jh)(ctx:Option (List PE))(s:S)
 (tm:Array Value) (items:List Item) (ck:List Deferred) (cs:List Frame) (w:World):Prop:=jg C base E fi ro t todo ds .run ctx s tm items ck .run cs w
theorem jg.sU {todo sU:List cw} {a:List Item} (h:Xe C base E fi ro t todo ds ctx s tm items ck cs w) (h':jc E sU=some a):
 Xe C base E fi ro t sU ds ctx s tm a ck cs w:=⟨h.rel,h.ro,h.tmps,λ_=>h',h.defs,rfl,h.ctx,h.fn,h.rk⟩
theorem gu{rec:Rec}(b:fY C base rec){todo sU:List cw}{a:List Item}{m0:Machine}(h:Xe C base E fi ro t todo ds ctx s tm items ck cs w)
 (h':jc E sU=some a) (c:step C.P m0=.next (lone (aV fi ro tm a ck .run) cs w)):
 (rec fi t sU ds .run ctx s).path (dK C base E s w fi cs m0):=LI b (h.sU h') c
theorem Gx(c:Good C){rec:Rec}(b:fY C base rec){todo sU:List cw}{a:List Item}{m0:Machine}(h:Xe C base E fi ro t todo ds ctx s tm items ck cs w)
  (h':jc E sU=some a) (d:step C.P m0=.next (lone (aV fi ro tm a ck .run) cs w)):
  (Y9 C rec fi t sU ds ctx s).path (dK C base E s w fi cs m0):=
 R.aZ (λ_ ho=>dK.of_steps (Step.refl h.rel) (.one d) (cF.refl h.ctx) ho) (JK c b (h.sU h'))
theorem DI(l:Good C){rec:Rec}(c:fY C base rec){k:List cw}{i:List Item}(h:Xe C base E fi ro t k ds ctx s tm i ck cs w){m0:Machine}(r:RG)
  (j:rA C base E s w fi ro i cs m0 r):(regionF C rec fi k r).path (dK C base E s w fi cs m0):=by
 have _:=l;cases r with
 |fin Q d a F=>
  obtain⟨A,e,b,f,M,I,Y,W,U,h5,h6⟩:=j;refine R.aZ (λ_ ho=>dK.of_steps I h6 h5 ho) (c A fi ro Q k d .run a F e i b .run f M
   ⟨I.rel,h.ro.grow I.grow,Y,λ_=>nW I.grow (h.todo rfl),W,rfl,U,h.fn,h.rk⟩)
 |gv ch Q d a F=>
  obtain⟨A,e,items,b,f,M,g,I,Y,W,U,h5,h6,h7⟩:=j;refine R.aZ (λ_ ho=>dK.of_steps I h7 h5 ho) (c A fi ro Q [] d (.gv ch) a F e items b (.panicking g) f M
   ⟨I.rel,h.ro.grow I.grow,Y,(λh=>by cases h),W,⟨g,h6,rfl⟩,U,h.fn,h.rk⟩)
def Vq(C:Ctx)(base:Nat):Prop:=
 ∀{rec:Rec},fY C base rec->∀{E:G}{s:S}{w:World}{fi:FI}{ro:Option Nat}{t:Tr AV}{tm:Array Value}{k:List Item}{ds:List jh}{ck:List Deferred}{ctx:Option (List PE)}{cs:List Frame}(id:Nat)(ops:Array Oper),
  Rel C base E s w->aW E fi.nt t tm->rz E fi.roundOf ro->dY fi.tl E ds=some ck->ga E fi.kind ctx cs->
  (UX C rec fi ops t ds ctx s).path (rA C base E s w fi ro k cs (lone (aV fi ro tm (.code (.region id ops true)::k) ck .run) cs w))
theorem V5(p:Good C)(D:Vq C base){rec:Rec}(d:fY C base rec)(c:Code)
  (j:∀f params assign body{k:List cw}{g:List Item},Xe C base E fi ro t k ds ctx s tm g ck cs w->
    (Lr C rec fi t k ds ctx f params assign body s).path (dK C base E s w fi cs (lone (aV fi ro tm (.code (.rangeFunc f params assign body)::g) ck .run) cs w)))
  {k:List cw} {g:List Item} (h:Xe C base E fi ro t k ds ctx s tm g ck cs w):
  (codeF c k C rec fi t ds ctx s).path (dK C base E s w fi cs (lone (aV fi ro tm (.code c::g) ck .run) cs w)):=by
 have hk:=h.todo rfl;have cons:∀(x:cw)(i:Item),kF E x=some i->jc E (x::k)=some (i::g):=λx i Z=>dI.2 ⟨i,g,Z,hk,rfl⟩
 cases c with
 |skip=>exact gu d h hk a2u
 |label l=>exact gu d h hk Yy
 |seq a b=>exact gu d h (dI.2 ⟨_,_,rfl,cons (.code b) _ rfl,rfl⟩) a6Q
 |block id b=>exact gu d h (dI.2 ⟨_,_,rfl,cons (.inBlock id) _ rfl,rfl⟩) YB
 |loop b=>exact Gx p d h (dI.2 ⟨_,_,rfl,cons (.inLoop b) _ rfl,rfl⟩) a2v
 |scope b=>exact gu d h (dI.2 ⟨_,_,rfl,cons (.inScope b) _ rfl,rfl⟩) Yu
 |cond c a b=>
  refine R.pb _ (bO (a:=⟨tm,ck⟩) h.rel h.tmps c) λv u=>?_
  cases v with
  |bool x=>simp only[ai,aD]at u;have z:=TA (P:=C.P) (fi:=fi) (ro:=ro) (k:=g) (cs:=cs) (w:=w) (x:=a) (y:=b) u.symm;cases x<;>exact gu d h (cons (.code _) _ rfl) z
  |cE q e=>
   cases q<;>first|exact R.bg _ _|skip
   obtain⟨G,I,⟨x,rfl⟩,W⟩:=ek u;have z:=TA (P:=C.P) (fi:=fi) (ro:=ro) (k:=g) (cs:=cs) (w:=w) (x:=a) (y:=b) W;refine R.pb _ (uB h.rel I) λr m=>?_
   obtain⟨F,r2⟩:=r;obtain⟨rfl,n, -⟩:=m;have h':Xe C base E fi ro t k ds ctx r2 tm g ck cs w:=⟨n.rel,h.ro,h.tmps,h.todo,h.defs,h.mode,h.ctx,h.fn,h.rk⟩;have fin:∀o,dK C base E r2 w fi cs (lone (aV fi ro tm (.code (.cond c a b)::g) ck .run) cs w) o->dK C base E s w fi cs (lone (aV fi ro tm (.code (.cond c a b)::g) ck .run) cs w) o:=λo ho=>
    dK.of_steps n (.refl _ _) (cF.refl h.ctx) ho
   cases F<;>exact R.aZ fin (gu d h' (cons (.code _) _ rfl) z)
  |_=>trivial
 |exit id=>
  have B:=Ki (id:=id) hk;show(match HA id k with|some k=>rec fi t k ds .run ctx s|none=>.bad _).path _;cases Z:HA id k with
  |some O=>rw[Z]at B;obtain⟨r',I,Y⟩:=B;exact gu d h Y (a2w I)
  |none=>exact R.bg _ _
 |goto id=>exact R.bg _ _
 |ret=>
  show(C7 rec fi t ds ctx s (some .ret)).path _;refine DP d (h.sU (cons (.code .ret) _ rfl)) _ ?_ ?_
  .intro A _;subst A;exact a6R
  .grind[K3]
 |refuse Ya=>trivial
 |rangeFunc f params assign body=>exact j f params assign body h
 |region id ops draw=>
  cases draw with
  |false=>
   refine R.pb _ (DL (k:=g) (ro:=ro) p d ops.toList (List.range ops.size) (VT ops) h.rel h.tmps h.ro h.defs h.ctx) λr m=>?_
   exact DI p d h r (m.of_steps (Step.refl h.rel) (.one VF) (cF.refl h.ctx))
  |true=>
   refine R.pb _ (D d (k:=g) (ro:=ro) id ops h.rel h.tmps h.ro h.defs h.ctx) λr m=>?_
   exact DI p d h r m
end
section
variable{P:Program}{fi:FI}{ro:Option Nat}{tm:Array Value}{k:List Item}{ds:List Deferred}{cs:List Frame}{w w2 w3:World}
theorem Yw{f:Operand}{params:Array Tmp}{assign body:Code}{l:Nat}{mark:List Deferred}{g:FuncId}{args:Array Value}
  (c:(Instr.enterLoop fi.fn tm params assign body ro).run P w=.ok (l,mark) w2)
  (V:(do let d <-Deferred.ofValue (Act.eval ⟨tm,ds⟩ f) #[.func (.yield l) #[] #[]];invoke d.target d.args:Sem Next).run P w2=.ok (.enter g args) w3):
  step P (lone (aV fi ro tm (.code (.rangeFunc f params assign body)::k) ds .run) cs w)=
   .next (lone (Frame.enter P g args .normal) (aV fi ro tm (.inRangeFunc l::k) (mark++ds) .run::cs) w3):=by
 have b:=Hw (fi:=fi) (ro:=ro) (tm:=tm) (ds:=mark++ds) (.inRangeFunc l::k) .run;have a:Act.eval ⟨tm,mark++ds⟩=Act.eval ⟨tm,ds⟩:=by funext x;cases x<;>rfl
 simp only[aV,a]at b;refine dE ?_;simp only[stepG,stepG.exec,aV,Sem.runT_eq,c,GStep.bare_after,stepG.apply,bc,resolve,b];have H:Sem.run P (do
   let d <-Deferred.ofValue (Act.eval ⟨tm,ds⟩ f) (Array.map (Act.eval ⟨tm,ds⟩) #[Operand.const (Value.func (Fn.yield l) #[] #[])])
   invoke d.target d.args) w2=.ok (.enter g args) w3:=by
  rw[<-V];simp[Act.eval]
 simp only[H];rfl
theorem ED(l:Nat)(v:Value):(aV fi ro tm (.inRangeFunc l::k) ds .run).finish v=aV fi ro tm (.endRangeFunc l::k) ds .run:=rfl
theorem qz(w:World)(o:Obj):(w.alloc o).heap.size=w.heap.size+1:=by show(w.heap.push o).size=_;simp
theorem zm{params:Array Tmp}{assign body:Code}(fn:FuncId):(Instr.enterLoop fn tm params assign body none).run P w=
  .ok (w.heap.size+1,[{ target:=.collected w.heap.size,args:=#[] }])
    ((w.alloc (.deferred (some []))).alloc (.loop { state:=.ready,pending:=none,fn,tmps:=tm,params,assign,body,defers:=w.heap.size })):=by
 have a:∀(o:Obj)(w:World),(newObj o).run P w=.ok w.heap.size (w.alloc o):=λ_ _=>rfl
 unfold Instr.enterLoop;simp only[aS,a,bw,bE,pure_bind];rw[qz]
theorem NJ{l:Nat}{lp:Loop}(b:w.heap[l]? =some (.loop lp))(c:lp.state≠.busy):
  step P (lone (aV fi ro tm (.endRangeFunc l::k) ds .run) cs w)=
   .next (lone (aV fi ro tm ((lp.pending.map Item.code).toList++k) ds .run) cs { w with heap:=w.heap.setIfInBounds l (.loop { lp with state:=.exhausted }) }):=by
 have I:(getObj l).run P w=.ok (.loop lp) w:=o7 b (by simp);have Y:(setObj l (.loop { lp with state:=.exhausted })).run P w=.ok () { w with heap:=w.heap.setIfInBounds l (.loop { lp with state:=.exhausted }) }:=sY b (by simp);have d:(Instr.endLoop l).run P w=.ok lp.pending { w with heap:=w.heap.setIfInBounds l (.loop { lp with state:=.exhausted }) }:=by
  have a:(lp.state==.busy)=false:=by simpa using c
  unfold Instr.endLoop Instr.getLoop;simp only[aS,I,bw,bE,bind_assoc,a,fa,br,Y]
 refine dE ?_;simp[stepG,stepG.exec,aV,d]
theorem Ix{l:Nat}{lp:Loop}(a:w.heap[l]? =some (.loop lp))(b:lp.state=.ready):
  step P (lone (aV fi (some l) tm (.beginRound::k) ds .run) cs w)=
   .next (lone (aV fi (some l) tm k ds .run) cs { w with heap:=w.heap.setIfInBounds l (.loop { lp with state:=.busy }) }):=by
 have I:(getObj l).run P w=.ok (.loop lp) w:=o7 a (by simp);have Y:(setObj l (.loop { lp with state:=.busy })).run P w=.ok () { w with heap:=w.heap.setIfInBounds l (.loop { lp with state:=.busy }) }:=sY a (by simp);have c:(Instr.beginRound l).run P w=.ok () { w with heap:=w.heap.setIfInBounds l (.loop { lp with state:=.busy }) }:=by unfold Instr.beginRound Instr.getLoop;simp only[aS,I,bw,bE,bind_assoc,Y,b]
 refine dE ?_;simp[stepG,stepG.exec,aV,stepG.apply,c,Frame.finish]
end
section
variable{C:Ctx}{base:Nat}{E:G}{s:S}{w:World}{fi:FI}{ro:Option Nat}{t:Tr AV}{tm:Array Value}{items:List Item}{ds:List jh}{ck:List Deferred}{ctx:Option (List PE)}{cs:List Frame}
def aaA(pe:Option Code):List cw:=
 match pe with
 |some c=>[.code c]
 |none=>[]
theorem IJ{rec:Rec}(a:fY C base rec){l:Nat}{B:Loc}(j:E l=some B){k:List cw}{f:List Item}(h:Xe C base E fi ro t k ds ctx s tm f ck cs w):
  (a7A l k C rec fi t ds ctx s).path (dK C base E s w fi cs (lone (aV fi ro tm (.endRangeFunc B.aO::f) ck .run) cs w)):=by
 unfold a7A;refine R.bR _ (lz h.rel l) λr n=>?_
 obtain⟨st,pe,fn,nt,tmps,params,assign,body,b,rfl,m⟩:=n;obtain⟨g,o,g1,g2,g3⟩:=h.rel.aO l _ m;obtain rfl:B=g:=by rw[j]at g1;exact ae g1
 obtain⟨d,ld,g4,g5,rfl⟩:=g3;have e:Step C base E s w E ⟨s.h.set l (.loop .exhausted pe fn nt tmps params assign body b),s.next,s.pc⟩ { w with heap:=w.heap.setIfInBounds B.aO _ }:=
  Step.sX h.rel m j g2 rfl rfl (N:=.loop .exhausted pe fn nt tmps params assign body b)
   (T:=.loop { state:=.exhausted,pending:=pe,fn,tmps:=d,params:=⟨params⟩,assign,body,defers:=ld.aO }) ⟨d,ld,g4,g5,rfl⟩ rfl rfl rfl rfl
 have fin:st≠.busy->(rec fi t (aaA pe++k) ds .run ctx ⟨s.h.set l (.loop .exhausted pe fn nt tmps params assign body b),s.next,s.pc⟩).path
   (dK C base E s w fi cs (lone (aV fi ro tm (.endRangeFunc B.aO::f) ck .run) cs w)):=λi=>by
  have p:=NJ (P:=C.P) (fi:=fi) (ro:=ro) (tm:=tm) (k:=f) (ds:=ck) (cs:=cs) g2 i;refine R.aZ (λ_ ho=>dK.of_steps e (.one p) (cF.refl h.ctx) ho) (a E fi ro t _ ds .run ctx _ tm _ ck .run cs _
   ⟨e.rel,h.ro,h.tmps,λ_=>?_,h.defs,rfl,h.ctx,h.fn,h.rk⟩)
  have hk:=h.todo rfl;cases pe with
  |none=>exact hk
  |some c=>exact dI.2 ⟨_,_,rfl,hk,rfl⟩
 cases st with
 |busy=>trivial
 |ready=>exact fin (by simp)
 |done=>exact fin (by simp)
 |exhausted=>exact fin (by simp)
theorem Ew{rec:Rec}(c:fY C base rec){k:List cw}{g:List Item}(h:Xe C base E fi ro t k ds ctx s tm g ck cs w):
  (Sf k C rec fi t ds ctx s).path (dK C base E s w fi cs (lone (aV fi ro tm (.beginRound::g) ck .run) cs w)):=by
 unfold Sf;cases d:fi.roundOf with
 |none=>trivial
 |some l=>
  have a:=h.ro;rw[d]at a;cases ro with
  |none=>exact a.elim
  |some q=>
   obtain⟨B,j,rfl⟩:=a;simp only;refine R.bR _ (lz h.rel l) λr n=>?_
   obtain⟨st,pe,fn,nt,tmps,params,assign,body,b,rfl,m⟩:=n;obtain⟨i,o,g1,g2,g3⟩:=h.rel.aO l _ m;obtain rfl:B=i:=by rw[j]at g1;exact ae g1
   obtain⟨e,ld,g4,g5,rfl⟩:=g3;cases st with
   |ready=>
    have f:Step C base E s w E ⟨s.h.set l (.loop .busy pe fn nt tmps params assign body b),s.next,s.pc⟩ { w with heap:=w.heap.setIfInBounds B.aO _ }:=
     Step.sX h.rel m j g2 rfl rfl (N:=.loop .busy pe fn nt tmps params assign body b)
      (T:=.loop { state:=.busy,pending:=pe,fn,tmps:=e,params:=⟨params⟩,assign,body,defers:=ld.aO }) ⟨e,ld,g4,g5,rfl⟩ rfl rfl rfl rfl
    have p:=Ix (P:=C.P) (fi:=fi) (tm:=tm) (k:=g) (ds:=ck) (cs:=cs) g2 rfl;exact R.aZ (λ_ ho=>dK.of_steps f (.one p) (cF.refl h.ctx) ho) (c E fi (some B.aO) t k ds .run ctx _ tm g ck .run cs _
     ⟨f.rel,h.ro,h.tmps,h.todo,h.defs,rfl,h.ctx,h.fn,h.rk⟩)
   |_=>trivial
theorem Gw(hC:Good C){rec:Rec}(i:fY C base rec){m:G}{s2:S}{w2:World}(p:Step C base E s w m s2 w2){k:List cw}{j:List Item}
  (h:Xe C base E fi ro t k ds ctx s tm j ck cs w) {f:Operand} {params:Array Tmp} {assign body:Code} {T:AV} (hf:ai E T=some (Act.eval ⟨tm,ck⟩ f))
  {l:Nat} {B:Loc} (hl:m l=some B) {mark:List Deferred} {z:List jh} (D:dY fi.tl m z=some (mark++ck))
  (H:(Instr.enterLoop fi.fn tm params assign body ro).run C.P w=.ok (B.aO,mark) w2):
  (do match <-xH C s2 T [.yield l]with
    | .enter f args F=>do let o <-P4 C rec f args F;a1z rec fi t k z ctx l o
    |_=>.bad "":R Out).path (dK C base E s w fi cs (lone (aV fi ro tm (.code (.rangeFunc f params assign body)::j) ck .run) cs w)):=by
 refine R.bR _ (zA hC p.rel T _ (gL p.grow _ _ hf) [.yield l] [.func (.yield B.aO) ⟨[]⟩ ⟨[]⟩] (by simp[aN,ai,hl])) λx Z=>?_
 cases x with
 |enter g args F=>
  obtain⟨γ3,al,w3,hr,q,b⟩:=Z;have I:=p.trans b;have d:=Yw (P:=C.P) (fi:=fi) (ro:=ro) (k:=j) (cs:=cs) H hr;simp only;refine R.bR _ (GB hC i b.rel g q (cs:=aV fi ro tm (.inRangeFunc B.aO::j) (mark++ck) .run::cs)) λout J=>?_
  obtain⟨⟨fn,hfn⟩,n,A,M,U,c,V,K,L⟩:=J;have N:U=aV fi ro tm (.inRangeFunc B.aO::j) (mark++ck) .run::cs:=K;subst N;have a:=I.trans c;obtain⟨W,X,r⟩:=(b.grow.trans c.grow) l B hl;have O:W.aO=B.aO:=r.1;have u:=df (b.grow.trans c.grow) D;obtain⟨res,a7f,os⟩:=out;unfold a1z;cases res with
  |ret v=>
   obtain⟨cv,hcv,fr',e,Y,hkq,hm,hdf,fn',Q,hrs⟩:=L;have y:Steps C.P (lone (aV fi ro tm (.code (.rangeFunc f params assign body)::j) ck .run) cs w) (lone (aV fi ro tm (.endRangeFunc B.aO::j) (mark++ck) .run) cs M):=by refine .head d (e.trans (.one ?_));rw[<-ED B.aO cv];exact step_leave_returned ⟨hm,hdf,hkq,fn',by rw[Y];exact Q,hrs⟩
   refine R.aZ (λ_ ho=>dK.of_steps a y (cF.refl h.ctx) ho) (i A fi ro t _ _ .run ctx os tm _ _ .run cs M
    ⟨a.rel,h.ro.grow a.grow,h.tmps.grow a.grow,λ_=>dI.2 ⟨.endRangeFunc B.aO,j,?_,nW a.grow (h.todo rfl),rfl⟩,u,rfl,h.ctx.grow a.grow,h.fn,h.rk⟩)
   simp[kF,X,O]
  |gv ch=>exact R.bg _ _
 |_=>trivial
theorem Ow(p:Good C){rec:Rec}(c:fY C base rec)(f:Operand)(params:Array Tmp)(assign body:Code){k:List cw}{o:List Item}
  (h:Xe C base E fi ro t k ds ctx s tm o ck cs w):
  (Lr C rec fi t k ds ctx f params assign body s).path (dK C base E s w fi cs (lone (aV fi ro tm (.code (.rangeFunc f params assign body)::o) ck .run) cs w)):=by
 unfold Lr;refine R.bR _ (bO (a:=⟨tm,ck⟩) h.rel h.tmps f) λr q=>?_
 cases d:fi.roundOf with
 |some l=>exact R.bg _ _
 |none=>
  have e:=h.ro;rw[d]at e;cases ro with
  |some _=>exact e.elim
  |none=>
   simp only;have b:=Step.alloc h.rel (.fV (some [])) (.deferred (some [])) 0 0 (M:=w.alloc (.deferred (some []))) rfl rfl rfl rfl
    (λA j=>⟨[],rfl,rfl⟩)
   have g:=Step.alloc b.rel (.loop .ready none fi.fn fi.nt t params.toList assign body s.next)
    (.loop { state:=.ready,pending:=none,fn:=fi.fn,tmps:=tm,params,assign,body,defers:=w.heap.size }) 0 0
    (M:=(w.alloc (.deferred (some []))).alloc (.loop { state:=.ready,pending:=none,fn:=fi.fn,tmps:=tm,params,assign,body,defers:=w.heap.size })) rfl rfl rfl rfl
    (λA j=>by
      obtain⟨m,g6,g7⟩:=j s.next ⟨w.heap.size,0,0,none⟩ (by simp);exact⟨tm,m,(h.tmps.grow b.grow).grow j,g6,by rw[g7.1]⟩)
   have i:=b.trans g;refine Gw p c i h q (l:=(s.new (.fV (some []))).next) (B:=⟨w.heap.size+1,0,0,none⟩) (by simp) (mark:=[{ target:=.collected w.heap.size,args:=#[] }]) ?_ ?_
   .refine hV.2 ⟨{ target:=.collected w.heap.size,args:=#[] },ck,?_,df i.grow h.defs,rfl⟩;have n:s.next≠(s.new (.fV (some []))).next:=gE (Nat.lt_succ_self _);simp[uX,n]
   .exact zm fi.fn
end
section
variable{C:Ctx}{base:Nat}{E:G}{s:S}{w:World}{fi:FI}{ro:Option Nat}{t:Tr AV}{tm:Array Value}{items:List Item}{ds:List jh}{ck:List Deferred}{ctx:Option (List PE)}{cs:List Frame}
def Lj(tm:Array Value)(r:ResultVar):Sem Value:=
 match r with
 | .tmp t=>pure (tm.getD t undef)
 | .cell a t=>do loadVar t (<-asAddr (tm.getD a undef))
theorem Bo(n:Good C)(h:Rel C base E s w)(i:aW E fi.nt t tm):∀l:List ResultVar,
  (E2 C s t l).path (λvs=>∃b,aN E vs=some b/\(l.mapM (Lj tm)).run C.P w=.ok b w)
 | []=>⟨[],rfl,by simp⟩
 |r::l=>by
  unfold E2;refine R.bR (λv=>∃f,ai E v=some f/\(Lj tm r).run C.P w=.ok f w) ?_ λv j=>?_
  .cases r with
   |tmp d=>refine R.aZ ?_ (bO (a:=⟨tm,[]⟩) h i (.tmp d));intro v j;exact⟨_,j,rfl⟩
   |cell a ty=>
    refine R.bR _ (bO (a:=⟨tm,[]⟩) h i (.tmp a)) λp o=>?_
    refine R.aZ ?_ (DO n h ty p _ o);rintro v ⟨ad,c,e, -,Y,W⟩;refine⟨c,Y,?_⟩;have e:tm.getD a undef=.pointer (some ad):=e;simp only[Lj,e,asAddr,pure_bind];exact W
  .obtain⟨f,k,g⟩:=j;refine R.bR _ (Bo n h i l) λvs m=>?_
   obtain⟨b,I,Y⟩:=m;refine⟨f::b,aL.2 ⟨f,b,k,I,rfl⟩,?_⟩;simp only[List.mapM_cons,aS,g,bw,Y,bE]
theorem LF(j:Good C)(m:Rel C base E s w)(n:aW E fi.nt t tm):
  (Gm C s fi t).path (λv=>∃k fn,ai E v=some k/\C.P.funcs[fi.fn]? =some fn/\(results fn tm).run C.P w=.ok k w):=by
 unfold Gm;cases o:C.F.get fi.fn with
 |none=>trivial
 |some fn=>
  have f:=B1 j o;simp only;refine R.bR _ (Bo j m n fn.results.toList) λvs g=>?_
  obtain⟨c,I,Y⟩:=g;have d:(results fn tm).run C.P w=.ok (if h:c.toArray.size=1 then c.toArray[0]else .tuple c.toArray) w:=by
   have e:results fn tm=(do
     let vs <-fn.results.mapM (Lj tm)
     pure (if h:vs.size=1 then vs[0]else .tuple vs)):=by
    unfold results;congr 1
   rw[e];simp only[Array.mapM_eq_mapM_toList,aS,Sem.run_map,Y,bw,bE]
  refine⟨_,fn,?_,f,d⟩;cases vs with
  |nil=>simp only[aN,aD]at I;subst I;simp[BA,ai,aN]
  |cons x l=>
   obtain⟨a,b,p,i,rfl⟩:=aL.1 I;cases l with
   |nil=>simp only[aN,aD]at i;subst i;simpa[BA]using p
   |cons y O=>
    obtain⟨a',N,_,_,rfl⟩:=aL.1 i;have:¬((a::a'::N).toArray.size=1):=by simp
    rw[dif_neg this];simp only[BA,ai,I,cM]
end
def settled(m:FrameMode):FrameMode:=
 match m with
 | .panicking ({ recovered:=true,.. }::a)=>
   match a.dropWhile (!·.goexit)with
   | []=>.returning
   |rest=>.panicking rest
 |m=>m
section
variable{P:Program}{fi:FI}{ro:Option Nat}{tm:Array Value}{k:List Item}{ds:List Deferred}{cs:List Frame}{w M:World}
theorem A1{b c:Frame}{v:Value}(d:b.mode=.returning)(f:b.defers=[])(hk:b.kind=.deferred){fn:Func}(h:P.funcs[b.fn]? =some fn)(i:(results fn b.tmps).run P w=.ok v w):
  step P (lone b (c::cs) w)=.next (lone { c with mode:=settled c.mode } cs w):=by
 refine dE ?_;have e:({ c with mode:=settled c.mode }:Frame)=(match c.mode with
   | .panicking ({ recovered:=true,.. }::a)=>
     match a.dropWhile (!·.goexit)with
     | []=>{ c with mode:=.returning }
     |rest=>{ c with mode:=.panicking rest }
   |_=>c):=by
  obtain⟨a1,a2,a3,a4,m,a6,a7⟩:=c;simp only[settled];cases m with
  |panicking ch=>
   cases ch with
   |nil=>rfl
   |cons p a=>
    obtain⟨v,r,g⟩:=p;cases r with
    |false=>rfl
    |true=>simp only;cases a.dropWhile (!·.goexit)<;>rfl
  |_=>rfl
 rw[e];simp[stepG,unwind,doReturn,d,f,hk,h,i];rfl
theorem K5{b:Nat}{l:List Deferred}{m:FrameMode}(d:m≠.run)(a:w.heap[b]? =some (.deferred (some l))):
  step P (lone (aV fi ro tm k ({ target:=.collected b,args:=#[] }::ds) m) cs w)=.next (lone (aV fi ro tm k (l++ds) m) cs { w with heap:=w.heap.setIfInBounds b (.deferred none) }):=by
 have I:(getObj b).run P w=.ok (.deferred (some l)) w:=o7 a (by simp);have Y:(setObj b (.deferred none)).run P w=.ok () { w with heap:=w.heap.setIfInBounds b (.deferred none) }:=sY a (by simp);have c:(Instr.takeDeferred b).run P w=.ok l { w with heap:=w.heap.setIfInBounds b (.deferred none) }:=by unfold Instr.takeDeferred;simp only[aS,I,Y,bw,bE]
 refine dE ?_;cases m with
 |run=>exact absurd rfl d
 |returning=>simp[stepG,unwind,aV,c]
 |panicking ch=>simp[stepG,unwind,aV,c]
theorem Er{d:Deferred}{f:FuncId}{args:Array Value}{m:FrameMode}{g:Fn}{cap:Array Value}(c:m≠.run)(b:d.target=.fn g cap)
  (a:(invoke d.target d.args).run P w=.ok (.enter f args) M):
  step P (lone (aV fi ro tm k (d::ds) m) cs w)=.next (lone (Frame.enter P f args .deferred) (aV fi ro tm k ds m::cs) M):=by
 obtain⟨e,as⟩:=d;simp only at b a;subst b;refine dE ?_;cases m with
 |run=>exact absurd rfl c
 |returning=>simp[stepG,unwind,aV,callDeferred,a]
 |panicking ch=>simp[stepG,unwind,aV,callDeferred,a]
end
section
variable{C:Ctx}{base:Nat}{E:G}{s:S}{w:World}{fi:FI}{ro:Option Nat}{t:Tr AV}{tm:Array Value}{items:List Item}{ds:List jh}{ck:List Deferred}{ctx:Option (List PE)}{cs:List Frame}
theorem Ca:∀{l:List PE}{r:List PanicEntry},gM E l=some r->r.dropWhile (!·.goexit)=[]
 | [],r,h=>by simp only[gM,aD]at h;subst h;rfl
 |x::l,r,h=>by
  obtain⟨a,b,c,d,rfl⟩:=gZ.1 h;simp only[kq,bk]at c;obtain⟨v,_,rfl⟩:=c;simp[List.dropWhile,Ca d]
theorem Q4{m:n7}{c:FrameMode}(h:rB E m c):rB E (w8 m) (settled c):=by
 cases m with
 |run=>rw[show c=.run from h];rfl
 |ret=>rw[show c=.returning from h];rfl
 |gv ch=>
  obtain⟨k,d,rfl⟩:=h;cases ch with
  |nil=>simp only[gM,aD]at d;subst d;exact⟨[],rfl,rfl⟩
  |cons p e=>
   obtain⟨a,b,f,i,rfl⟩:=gZ.1 d;obtain⟨v,r⟩:=p;have g:=f;simp only[kq,bk]at f;obtain⟨l,j,rfl⟩:=f;cases r with
   |false=>exact⟨_,gZ.2 ⟨_,b,g,i,rfl⟩,rfl⟩
   |true=>simp only[w8,settled,Ca i];rfl
theorem yU{tl:List Deferred}:∀{l:List AD}{c:List Deferred},hU E l=some c->∀{ds:List jh}{ck:List Deferred},dY tl E ds=some ck->dY tl E (l.map .call++ds)=some (c++ck)
 | [],c,h,ds,ck,e=>by grind[hU]
 |d::l,c,h,ds,ck,e=>by
  simp only[hU]at h;cases I:oM E d with
  |none=>simp[I]at h
  |some a=>
   cases Y:hU E l with
   |none=>simp[I,Y]at h
   |some b=>simp only[I,Y,aD]at h;subst h;exact hV.2 ⟨a,b++ck,I,yU Y e,rfl⟩
theorem DS(hC:Good C){rec:Rec}(D:fY C base rec){todo:List cw}{d:jh}{mode:n7}{m:FrameMode}(L:mode≠.run)
  (h:jg C base E fi ro t todo (d::ds) mode ctx s tm items ck m cs w):
  (Sy C rec fi t mode ctx s d ds).path (dK C base E s w fi cs (lone (aV fi ro tm items ck m) cs w)):=by
 obtain⟨cd,i,hd,V,rfl⟩:=hV.1 h.defs;have hm:m≠.run:=by
  have:=h.mode;cases mode with
  |run=>exact absurd rfl L
  |ret=>rw[show m=.returning from this];simp
  |gv ch=>obtain⟨_,_,rfl⟩:=this;simp
 cases d with
 |collected r=>
  simp only[uX,bk]at hd;obtain⟨B,hl,rfl⟩:=hd;show(match s.h.get r with|some (.fV (some l))=>rec fi t [] (l.map jh.call++ds) mode ctx ⟨s.h.set r (.fV none),s.next,s.pc⟩|_=>R.bad "").path _;cases hb:s.h.get r with
  |none=>trivial
  |some x=>
   cases x with
   |fV y=>
    cases y with
    |none=>trivial
    |some l=>
     simp only;obtain⟨lc',o,g1,g2,cl,g3,rfl⟩:=h.rel.aO r _ hb;obtain rfl:B=lc':=by rw[hl]at g1;exact ae g1
     have z:Step C base E s w E ⟨s.h.set r (.fV none),s.next,s.pc⟩ { w with heap:=w.heap.setIfInBounds B.aO (.deferred none) }:=
      Step.sX h.rel hb hl g2 rfl rfl (N:=.fV none) (T:=.deferred none) rfl rfl rfl rfl rfl
     refine R.aZ (λ_ ho=>dK.of_steps z (.one (K5 hm g2)) (cF.refl h.ctx) ho) (D E fi ro t [] _ mode ctx _ tm items _ m cs _
      ⟨z.rel,h.ro,h.tmps,λX=>absurd X L,yU g3 V,h.mode,h.ctx,h.fn,h.rk⟩)
   |_=>trivial
 |call ad=>
  have u:oM E ad=some cd:=hd;unfold oM at u;cases ht:ai E ad.target with
  |none=>simp[ht]at u
  |some cf=>
   cases ha:aN E ad.args with
   |none=>simp[ht,ha]at u
   |some c=>
    rw[ht,ha]at u;cases cf with
    |func g a b=>
     simp only[aD]at u;subst u;refine R.bR _ (zA hC h.rel ad.target _ ht ad.args c ha) λx Z=>?_
     cases x with
     |enter f args F=>
      obtain⟨γ1,al,w1,X,O,z⟩:=Z;have hr':(invoke (.fn g b) (a++⟨c⟩)).run C.P w=.ok (.enter f ⟨al⟩) w1:=by rw[<-X];simp[Deferred.ofValue]
      have G:=Er (P:=C.P) (fi:=fi) (ro:=ro) (tm:=tm) (k:=items) (ds:=i) (cs:=cs) (d:={ target:=.fn g b,args:=a++⟨c⟩ }) hm rfl hr';have Q:ga γ1 .deferred (Ul mode) (aV fi ro tm items i m::cs):=by
       have hmd:=h.mode.grow z.grow;refine⟨_,cs,rfl,?_⟩;cases mode with
       |run=>exact absurd rfl L
       |ret=>exact hmd
       |gv ch=>obtain⟨cc,I,Y⟩:=hmd;exact⟨cc,I,Y⟩
      simp only;refine R.bR _ (vZ hC D z.rel f O .deferred Q) λout a0w=>?_
      obtain⟨⟨fn,hfn⟩,n,A,M,cs',a7D,S,adb,K⟩:=a0w;obtain⟨c0,sZ,m',he1,he2⟩:=adb;injection he1 with he3 he4;subst he3;subst he4;subst he2;have j:=z.trans a7D;obtain⟨c1,Gn,he5,q⟩:=S;injection he5 with he6 he7;subst he6;subst he7;have H:rB A (va out) m':=by
       unfold va;cases ho:out.ctx with
       |none=>rw[ho]at q;exact q
       |some ch=>rw[ho]at q;obtain⟨cc,I,Y⟩:=q;exact⟨cc,I,Y⟩
      have hgo:∀(e:n7)(m2:FrameMode),rB A e m2->e≠.run->
        Steps C.P (lone (aV fi ro tm items ({ target:=.fn g b,args:=a++⟨c⟩ }::i) m) cs w) (lone (aV fi ro tm items i m2) cs M)->
        (rec fi t [] ds e ctx out.s).path (dK C base E s w fi cs (lone (aV fi ro tm items ({ target:=.fn g b,args:=a++⟨c⟩ }::i) m) cs w)):=λe m2 I Y W=>
       R.aZ (λ_ ho=>dK.of_steps j W (cF.refl h.ctx) ho) (D A fi ro t [] ds e ctx out.s tm items i m2 cs M
         ⟨j.rel,h.ro.grow j.grow,h.tmps.grow j.grow,λX=>absurd X Y,df j.grow V,I,h.ctx.grow j.grow,h.fn,h.rk⟩)
      cases U:out.res with
      |ret v=>
       rw[U]at K;obtain⟨cv,hcv,fr',J,hfq,hkq,hmq,hdf,fn',a7F,hrs⟩:=K;refine hgo _ _ (Q4 H) ?_ (.head G (J.trans (.one ?_)))
       .unfold va;cases out.ctx with
        |none=>simp[w8]
        |some ch=>
         cases ch with
         |nil=>simp[w8]
         |cons p a5G=>obtain⟨pv,pr⟩:=p;cases pr<;>simp[w8]
       .exact A1 hmq hdf hkq (by rw[hfq];exact a7F) hrs
      |gv ch=>exact R.bg _ _
     |_=>trivial
    |_=>simp at u
theorem QY(g:Good C)(z:Vq C base){rec:Rec}(a:fY C base rec):fY C base (a58 C rec):=by
 intro E fi ro t todo ds mode ctx s tm items ck m cs w h;cases mode with
 |run=>
  obtain rfl:m=.run:=h.mode;have hk:=h.todo rfl;cases todo with
  |nil=>
   simp only[jc,aD]at hk;subst hk;show(C7 rec fi t ds ctx s none).path _;refine DP a h _ ?_ ?_
   .intro p _;subst p;exact a6S
   .grind[K4]
  |cons x k=>
   obtain⟨i,A,V,e,rfl⟩:=dI.1 hk;have h':Xe C base E fi ro t k ds ctx s tm A ck cs w:=jg.sU h e;show(a5P x k C rec fi t ds ctx s).path _;cases x with
   |code c=>simp only[kF,aD]at V;subst V;exact V5 g z a c (λf params assign body _ _ h=>Ow g a f params assign body h) h'
   |inBlock id=>simp only[kF,aD]at V;subst V;exact gu a h' e QW
   |inLoop b=>simp only[kF,aD]at V;subst V;exact Gx g a h' (dI.2 ⟨_,_,rfl,dI.2 ⟨_,_,rfl,e,rfl⟩,rfl⟩) VG
   |inScope b=>simp only[kF,aD]at V;subst V;exact gu a h' e QV
   |rf l=>trivial
   |lI l=>simp only[kF,bk]at V;obtain⟨B,D,rfl⟩:=V;exact IJ a D h'
   |beginRound=>simp only[kF,aD]at V;subst V;exact Ew a h'
 |ret=>
  obtain rfl:m=.returning:=h.mode;show(a81 C rec fi t ds ctx s).path _;unfold a81;cases j:fi.roundOf with
  |some l=>trivial
  |none=>
   cases ds with
   |cons d ds=>exact DS g a (by simp) h
   |nil=>
    have n:=h.defs;simp only[dY,aD]at n;subst n;refine R.pb _ (LF g h.rel h.tmps) λv F=>?_
    obtain⟨G,fn,q,r,u⟩:=F;refine⟨E,w,cs,Step.refl h.rel,h.ctx,cF.refl h.ctx,G,q,?_⟩;rw[j];exact⟨aV fi ro tm items _ .returning,Steps.refl _ _,rfl,rfl,rfl,rfl,fn,r,u⟩
 |gv ch=>
  show(a82 C rec fi t ds ctx s ch).path _;unfold a82;cases ds with
  |cons d ds=>exact DS g a (by simp) h
  |nil=>have n:=h.defs;simp only[dY,aD]at n;subst n;obtain⟨o,y,rfl⟩:=h.mode;exact⟨E,w,cs,Step.refl h.rel,h.ctx,cF.refl h.ctx,o,y,aV fi ro tm items _ (.panicking o),Steps.refl _ _,rfl,rfl,rfl⟩
theorem CL(a:Good C)(b:Vq C base):∀n,fY C base (Et C n)
 |0=>λ_ _ _ _ _ _ _ _ _ _ _ _ _ _ _ _=>trivial
 |n+1=>QY a b (CL a b n)
end
def y3(l:List Operand)(t Q:Tr AV):Prop:=∀d,Operand.tmp d∈l->t.get d=Q.get d
theorem y3.mono {l m:List Operand} {t Q:Tr AV} (h:y3 l t Q) (a:∀x,x∈m->x∈l):y3 m t Q:=λd b=>h d (a _ b)
section
variable{C:Ctx}{t Q:Tr AV}
theorem de(x:Operand)(h:y3 [x] t Q):oL C t x=oL C Q x:=by
 cases x with
 |tmp d=>have:=h d (by simp);show@Option.rec AV (λ_=>R AV) (.ok (.ji [])) (λv=>wi v) (t.get d)=@Option.rec AV (λ_=>R AV) (.ok (.ji [])) (λv=>wi v) (Q.get d);rw[this]
 |_=>rfl
theorem HB:∀(l:List Operand),y3 l t Q->evL C t l=evL C Q l
 | [],_=>rfl
 |x::l,h=>by
  unfold evL;rw[de x (h.mono (by simp)),HB l (h.mono (by intro y a;simp[a]))]
theorem Sr:∀(x:Option Operand),y3 x.toList t Q->evO C t x=evO C Q x
 |none,_=>rfl
 |some x,h=>by
  show(do let v <-oL C t x;R.ok (some v))=(do let v <-oL C Q x;R.ok (some v));rw[de x (h.mono (by simp))]
theorem Fe:∀(l:List (Nat×Operand)),y3 (l.map (·.2)) t Q->Mz C t l=Mz C Q l
 | [],_=>rfl
 |(i,x)::l,h=>by
  unfold Mz;rw[de x (h.mono (by simp)),Fe l (h.mono (by intro y a;simp only[kP,cC];exact .inr a))]
theorem MA(o:Op)(ty:TypeId)(s:S)(h:y3 o.operands.toList t Q):sF o ty C t s=sF o ty C Q s:=by
 cases o with
 |move x=>show rU x ty C t s=rU x ty C Q s;unfold rU;rw[de x (h.mono (by simp[Op.operands]))]
 |assign x=>show rU x ty C t s=rU x ty C Q s;unfold rU;rw[de x (h.mono (by simp[Op.operands]))]
 |pick c a b=>show CW c a b ty C t s=CW c a b ty C Q s;unfold CW;rw[de c (h.mono (by simp[Op.operands])),de a (h.mono (by simp[Op.operands])),de b (h.mono (by simp[Op.operands]))]
 |alloc e=>rfl
 |box e x=>show OS e x ty C t s=OS e x ty C Q s;unfold OS;rw[de x (h.mono (by simp[Op.operands]))]
 |build e ps=>show xz e ps ty C t s=xz e ps ty C Q s;unfold xz;rw[Fe _ (h.mono (by intro x Z;simpa[Op.operands]using Z))]
 |buildSlice e n ps=>show lC e n ps ty C t s=lC e n ps ty C Q s;unfold lC;rw[Fe _ (h.mono (by intro x Z;simpa[Op.operands]using Z))]
 |insert a b c d=>show gl a b c d ty C t s=gl a b c d ty C Q s;unfold gl;rw[de b (h.mono (by simp[Op.operands])),de c (h.mono (by simp[Op.operands])),de d (h.mono (by simp[Op.operands]))]
 |load e x=>show CX e x ty C t s=CX e x ty C Q s;unfold CX;rw[de x (h.mono (by simp[Op.operands]))]
 |store e x y=>show uE e x y ty C t s=uE e x y ty C Q s;unfold uE;rw[de x (h.mono (by simp[Op.operands])),de y (h.mono (by simp[Op.operands]))]
 |nilCheck x=>show mF x ty C t s=mF x ty C Q s;unfold mF;rw[de x (h.mono (by simp[Op.operands]))]
 |binOp op e x y m=>show JS op e x y ty C t s=JS op e x y ty C Q s;unfold JS;rw[de x (h.mono (by simp[Op.operands])),de y (h.mono (by simp[Op.operands]))]
 |unOp op e x=>show Wd op x ty C t s=Wd op x ty C Q s;unfold Wd;rw[de x (h.mono (by simp[Op.operands]))]
 |convert a b x=>show CZ a b x ty C t s=CZ a b x ty C Q s;unfold CZ;rw[de x (h.mono (by simp[Op.operands]))]
 |makeInterface e x=>show xy e x ty C t s=xy e x ty C Q s;unfold xy;rw[de x (h.mono (by simp[Op.operands]))]
 |makeFunc f a b=>
  show CY f a b ty C t s=CY f a b ty C Q s;unfold CY;rw[HB a.toList (h.mono (by intro x Z;simp only[Op.operands,Array.toList_append,kR];exact .inl Z)),
   HB b.toList (h.mono (by intro x Z;simp only[Op.operands,Array.toList_append,kR];exact .inr Z))]
 |makeMap e r=>
  show OP e r ty C t s=OP e r ty C Q s;unfold OP;cases r with
  |none=>rfl
  |some x=>simp only;rw[de x (h.mono (by simp[Op.operands]))]
 |slice e x lo V j=>
  show xw e x lo V j ty C t s=xw e x lo V j ty C Q s;unfold xw;rw[de x (h.mono (by simp[Op.operands])),Sr lo (h.mono (by intro y g;simp only[Option.mem_toList]at g;simp[Op.operands,g])),
   Sr V (h.mono (by intro y g;simp only[Option.mem_toList]at g;simp[Op.operands,g])),Sr j (h.mono (by intro y g;simp only[Option.mem_toList]at g;simp[Op.operands,g]))]
 |fieldAddr e x f=>show ky e x f ty C t s=ky e x f ty C Q s;unfold ky;rw[de x (h.mono (by simp[Op.operands]))]
 |indexAddr e x y=>show kx e x y ty C t s=kx e x y ty C Q s;unfold kx;rw[de x (h.mono (by simp[Op.operands])),de y (h.mono (by simp[Op.operands]))]
 |index e x y=>show xx e x y ty C t s=xx e x y ty C Q s;unfold xx;rw[de x (h.mono (by simp[Op.operands])),de y (h.mono (by simp[Op.operands]))]
 |lookup e x k ok=>show tb e x k ok ty C t s=tb e x k ok ty C Q s;unfold tb;rw[de x (h.mono (by simp[Op.operands])),de k (h.mono (by simp[Op.operands]))]
 |mapUpdate a b c d=>show gl a b c d ty C t s=gl a b c d ty C Q s;unfold gl;rw[de b (h.mono (by simp[Op.operands])),de c (h.mono (by simp[Op.operands])),de d (h.mono (by simp[Op.operands]))]
 |typeAssert x a b c=>show We x b c ty C t s=We x b c ty C Q s;unfold We;rw[de x (h.mono (by simp[Op.operands]))]
 |extract x i=>show o8 x i ty C t s=o8 x i ty C Q s;unfold o8;rw[de x (h.mono (by simp[Op.operands]))]
 |call c=>
  show zz c ty C t s=zz c ty C Q s;unfold zz;rw[HB c.args.toList (h.mono (by intro x Z;simp only[Op.operands,Call.operands,Array.toList_append,kR];exact .inr Z))];cases l:c.callee with
  |builtin b=>rfl
  |value f=>simp only;rw[de f (h.mono (by simp[Op.operands,Call.operands,l]))]
  |invoke r n=>rfl
 |panic x=>show Bz x ty C t s=Bz x ty C Q s;unfold Bz;rw[de x (h.mono (by simp[Op.operands]))]
 |_=>rfl
theorem OQ(c:Call)(h:y3 (Op.defer c).operands.toList t Q):ia c C t=ia c C Q:=by
 unfold ia;rw[HB c.args.toList (h.mono (by intro x Z;simp only[Op.operands,Call.operands,Array.toList_append,kR];exact .inr Z))];cases a:c.callee with
 |builtin b=>rfl
 |value f=>simp only;rw[de f (h.mono (by simp[Op.operands,Call.operands,a]))]
 |invoke r n=>rfl
theorem a1U(o:Op)(h:y3 o.operands.toList t Q):aF o C t=aF o C Q:=by
 cases o with
 |box e x=>show Qg e x C t=Qg e x C Q;unfold Qg;rw[de x (h.mono (by simp[Op.operands]))]
 |buildSlice e n ps=>show lN e n ps C t=lN e n ps C Q;unfold lN;rw[Fe _ (h.mono (by intro x Z;simpa[Op.operands]using Z))]
 |_=>rfl
def qn(ops:Array Oper)(o:Oper):Option Tmp:=
 match o.guard with
 |some (g,_)=>(ops[g]?).bind (·.dst)
 |none=>none
theorem kl(ops:Array Oper)(o:Oper)(h:∀d,qn ops o=some d->t.get d=Q.get d):eo ops o.guard t=eo ops o.guard Q:=by
 unfold qn at h;unfold eo;cases a:o.guard with
 |none=>rfl
 |some p=>
  obtain⟨g,b⟩:=p;rw[a]at h;simp only at h ⊢;have e:tu ops g=(ops[g]?).bind (·.dst):=by unfold tu;cases ops[g]? <;>rfl
  rw[e];cases c:(ops[g]?).bind (·.dst)with
  |none=>rfl
  |some d=>simp only;rw[h d c]
theorem ZC(ops:Array Oper)(o:Oper)(h:∀d,qn ops o=some d->t.get d=Q.get d):v8 ops o.guard t=v8 ops o.guard Q:=by
 unfold qn at h;unfold v8;cases a:o.guard with
 |none=>rfl
 |some p=>
  obtain⟨g,b⟩:=p;rw[a]at h;simp only at h ⊢;have e:tu ops g=(ops[g]?).bind (·.dst):=by unfold tu;cases ops[g]? <;>rfl
  rw[e];cases c:(ops[g]?).bind (·.dst)with
  |none=>rfl
  |some d=>simp only;rw[h d c]
theorem QJ(ops:Array Oper)(o:Oper)(h:∀d,qn ops o=some d->t.get d=Q.get d)(s:S):hH ops o.guard t s=hH ops o.guard Q s:=by grind[hH,ZC,kl]
end
def R.all {α:Type} (r:R α) (P:α->Prop):Prop:=
 match r with
 | .ok a=>P a
 |_=>True
theorem R.bA {α j:Type} {P:j->Prop} {f:α->R j} (h:∀a,(f a).all P):∀(r:R α),(r>>=f).all P
 | .ok a=>h a
 | .bad _=>trivial
 | .ask _ _=>trivial
 | .must _ _=>trivial
def H8(s:S)(x:Nx):Prop:=∀v F,x=.val v F->F.next=s.next->F=s
theorem bP(s:S)(v:AV):(R.ok (Nx.val v s)).all (H8 s):=by intro a F h _;injection h with _ h;exact h.symm
theorem VC(s:S)(v:AV)(b:gn):(R.ok (Nx.val v (s.new b))).all (H8 s):=by intro c F h a;injection h with _ h;subst h;simp only[S.new]at a;have:s.next+1=s.next:=a;omega
theorem QT(s:S)(v:AV)(h:Tr gn)(pc:List Fact):(R.ok (Nx.val v ⟨h,Nat.add (Nat.add s.next 1) 1,pc⟩)).all (H8 s):=by intro b F e a;injection e with _ e;subst e;have:s.next+1+1=s.next:=a;omega
theorem QU(s:S)(v:AV)(pc:List Fact):(R.must pc (R.ok (Nx.val v s))).all (H8 s):=trivial
theorem VD(o:Op)(ty:TypeId)(C:Ctx)(t:Tr AV)(s:S)(h:rn o=true):(sF o ty C t s).all (H8 s):=by
 cases o with
 |move x=>show(rU x ty C t s).all _;exact R.bA (λ_=>bP _ _) _
 |pick c a b=>
  show(CW c a b ty C t s).all _;refine R.bA (λc=>?_) _;split
  .exact R.bA (λ_=>bP _ _) _
  .exact R.bA (λ_=>bP _ _) _
  .trivial
 |build e ps=>
  show(xz e ps ty C t s).all _;refine R.bA (λ_=>R.bA (λ_=>R.bA (λd=>?_) _) _) _;split
  .grind[R.bA,bP]
  .grind[R.bA,bP]
  .trivial
 |load e x=>show(CX e x ty C t s).all _;exact R.bA (λ_=>R.bA (λ_=>bP _ _) _) _
 |nilCheck x=>show(mF x ty C t s).all _;refine R.bA (λv=>?_) _;split<;>first|exact bP _ _|trivial|(split<;>first|exact bP _ _|trivial)
 |binOp op e x y w=>show(JS op e x y ty C t s).all _;exact R.bA (λ_=>R.bA (λ_=>R.bA (λ_=>bP _ _) _) _) _
 |unOp op e x=>show(Wd op x ty C t s).all _;exact R.bA (λ_=>R.bA (λ_=>bP _ _) _) _
 |convert a b x=>
  show(CZ a b x ty C t s).all _;refine R.bA (λv=>?_) _;unfold a0S;refine R.bA (λd1=>R.bA (λd2=>?_) _) _;split
  .split<;>first|exact bP _ _|trivial|(split<;>first|exact bP _ _|trivial)
  .split
   .trivial
   .trivial
   .trivial
   .split
    .unfold MH;refine R.bA (λi=>?_) _;split
     .split
      .grind[R.bA,QU]
      .trivial
     .trivial
    .trivial
   .split
    .unfold xL;refine R.bA (λi=>?_) _;split
     .grind[R.bA,bP]
     .trivial
    .trivial
  .split
   .unfold MJ;refine R.bA (λi=>?_) _;split
    .grind[R.bA,VC]
    .trivial
   .split
    .unfold MI;refine R.bA (λi=>?_) _;split
     .grind[R.bA,QT]
     .trivial
    .trivial
   .trivial
  .split
   .unfold B9;split
    .exact bP _ _
    .grind[R.bA,bP]
    .trivial
   .trivial
  .split
   .unfold B9;split
    .exact bP _ _
    .grind[R.bA,bP]
    .trivial
   .trivial
  .trivial
 |makeInterface e x=>show(xy e x ty C t s).all _;exact R.bA (λ_=>R.bA (λ_=>R.bA (λ_=>bP _ _) _) _) _
 |makeFunc f a b=>show(CY f a b ty C t s).all _;exact R.bA (λ_=>R.bA (λ_=>R.bA (λ_=>bP _ _) _) _) _
 |slice e x lo V q=>show(xw e x lo V q ty C t s).all _;exact R.bA (λ_=>R.bA (λ_=>R.bA (λ_=>R.bA (λ_=>R.bA (λ_=>bP _ _) _) _) _) _) _
 |fieldAddr e x f=>
  show(ky e x f ty C t s).all _;refine R.bA (λd=>?_) _;split
  .refine R.bA (λ_=>R.bA (λ_=>R.bA (λ_=>R.bA (λv=>?_) _) _) _) _;split
   .exact bP _ _
   .trivial
  .trivial
 |indexAddr e x y=>
  show(kx e x y ty C t s).all _;refine R.bA (λ_=>R.bA (λv=>R.bA (λd=>?_) _) _) _;split
  .split
   .exact R.bA (λ_=>bP _ _) _
   .trivial
  .exact R.bA (λ_=>bP _ _) _
  .trivial
  refine R.bA (λ_=>?_) _;split<;>first|trivial|(split<;>first|trivial|(split<;>first|trivial|exact R.bA (λ_=>bP _ _) _|exact R.bA (λ_=>R.bA (λ_=>bP _ _) _) _))
 |index e x y=>
  show(xx e x y ty C t s).all _;refine R.bA (λ_=>R.bA (λv=>?_) _) _;split
  .exact R.bA (λ_=>R.bA (λ_=>bP _ _) _) _
  refine R.bA (λ_=>?_) _;split
  .refine R.bA (λd=>?_) _;split
   .split
    .exact bP _ _
    .trivial
   .trivial
  .trivial
 |lookup e x k ok=>
  show(tb e x k ok ty C t s).all _;refine R.bA (λd=>?_) _;split
  .refine R.bA (λ_=>R.bA (λ_=>R.bA (λm=>R.bA (λ_=>?_) _) _) _) _;split
   .rename_i se _;have key:∀(l:List ME)(f:Option ME×S->R Nx)(s0:S),s0=s->(∀o,(f (o,s)).all (H8 s))->(uS s0 se l>>=f).all (H8 s):=by
     intro l f;induction l with
     |nil=>intro s0 g j;subst g;exact j none
     |cons x l u=>
      intro s0 g j;subst g;show(((Dh s0 (.a2 (.bin .eql) se (ea x.k)))>>=λr=>match r.1 with|true=>R.ok (some x,r.2)|false=>uS r.2 se l)>>=f).all _;unfold Dh;cases q0 (.a2 (.bin .eql) se (ea x.k)) s0.pc with
      |none=>trivial
      |some b=>
       cases b with
       |true=>exact j (some x)
       |false=>exact u s0 rfl j
    refine key _ _ s rfl λo=>?_
    cases o with
    |some e=>exact bP _ _
    |none=>exact R.bA (λ_=>bP _ _) _
   .grind[R.bA,bP]
  .trivial
 |typeAssert x a b c=>show(We x b c ty C t s).all _;exact R.bA (λ_=>R.bA (λ_=>bP _ _) _) _
 |extract x i=>
  show(o8 x i ty C t s).all _;refine R.bA (λv=>?_) _;split
  .exact R.bA (λ_=>bP _ _) _
  .trivial
 |call c=>
  show(zz c ty C t s).all _;unfold zz;refine R.bA (λargs=>?_) _;simp only[rn]at h;cases p:c.callee with
  |builtin b=>
   rw[p]at h;cases b with
   |len=>
    show(P7 C s _ _).all _;unfold P7;split
    .grind[R.bA,bP]
    .trivial
   |_=>simp[abw]at h
  |value f=>rw[p]at h;cases h
  |invoke r n=>rw[p]at h;cases h
 |_=>simp[rn]at h
theorem a7R{o:Oper}{C:Ctx}{t:Tr AV}{s:S}{v:AV}(h:rn o.op=true)(b:evQ o C t s=.ok v):sF o.op o.type C t s=.ok (.val v s):=by
 have d:=VD o.op o.type C t s h;unfold evQ at b;cases c:sF o.op o.type C t s with
 |bad w=>rw[c]at b;cases b
 |ask n k=>rw[c]at b;cases b
 |must pc k=>rw[c]at b;cases b
 |ok x=>
  rw[c]at b d;cases x with
  |val e F=>
   have a:ZT s (.val e F)=.ok v:=b;simp only[ZT]at a;split at a
   .next f=>
    injection a with a;subst a;have:=d e F rfl (bj f);rw[this]
   .cases a
  |_=>cases b
def a4Z(C:Ctx)(E:G)(w:World)(x:Result Next)(r:AK×gn):Prop:=
 ∃obj dl cp a,x=.ok (.value a) (w.alloc obj)/\(∀A,Grow E A->dC C A ⟨w.heap.size,dl,cp,none⟩ r.2 obj)/\∀(A:G)id,A id=some ⟨w.heap.size,dl,cp,none⟩->ai A (Z3 r.1 id)=some a
section
variable{C:Ctx}{base:Nat}{E:G}{s:S}{w:World}{nt:Nat}{t:Tr AV}{a:Act}
theorem a1S(f:Good C)(E:G)(w:World)(e:TypeId):(Vl e C).path (a4Z C E w ((VS (Instr.alloc e true (.tuple #[]))).run C.P w)):=by
 refine R.bR _ (c6 f e) λi V=>?_
 refine R.bR _ (R.hN _ _) λz g=>?_
 refine R.bR _ (R.bf _ _) λ_ h=>?_
 obtain⟨v,I,Y⟩:=V.2.zero z g;have d:z.length=i.size:=bj h;have a:=Y E;refine⟨.cells v.cells e (0,0),0,1,.pointer (some ⟨w.heap.size,0,none⟩),?_,
  fu V.1 a (by omega) (by have:=bJ a;simp at this;omega) (λj c k=>by simpa using k) _ 0 false 0 0 (by omega),λA id b=>by simp[Z3,ai,b]⟩
 simp[VS,Instr.alloc,I,newVar,hJ]
theorem a89(g:Good C)(h:Rel C base E s w)(k:aW E nt t a.tmps)(e:TypeId)(x:Operand):
  (Qg e x C t).path (a4Z C E w ((VS (Instr.box e (a.eval x))).run C.P w)):=by
 refine R.bR _ (bO h k x) λv l=>?_
 refine R.bR _ (pW v _ l) λz d=>?_
 refine R.bR _ (c6 g e) λi V=>?_
 refine R.bR _ (R.bf _ _) λ_ m=>?_
 have f:z.length=i.size:=bj m;refine⟨.cells (a.eval x).cells e (0,0),0,1,.pointer (some ⟨w.heap.size,0,none⟩),?_,
  fu V.1 d (by omega) (by have:=bJ d;simp at this;omega) (λj c n=>by simpa using n) _ 0 false 0 0 (by omega),λA id b=>by simp[Z3,ai,b]⟩
 simp[VS,Instr.box,newVar,hJ]
theorem Jd(u:Good C)(N:Rel C base E s w)(O:aW E nt t a.tmps)(ty:TypeId)(len:Nat)(b:Array (Nat×Operand)):
  (lN ty len b C t).path (a4Z C E w ((VS (Instr.buildSlice ty len (b.map λ(i,x)=>(i,a.eval x)))).run C.P w)):=by
 refine R.bR _ (b9 u ty) λd Q=>?_
 cases d with
 |slice e=>
  refine R.bR _ (c6 u e) λi V=>?_
  refine R.bR _ (R.bf _ _) λ_ S=>?_
  have T:len*i.size<=16777216:=bZ S;refine R.bR (λz=>∃r,aN E z=some r/\(len*i.size≠0->r.length=i.size/\∃v:Value,(zeroValue e).run C.P w=.ok v w/\r=v.cells.toList)/\(len*i.size=0->z=[])) ?_ λz y=>?_
  .unfold EJ;cases B:Nat.beq (Nat.mul len i.size) 0
   .have D:len*i.size≠0:=λh=>by rw[show Nat.mul len i.size=0 from h]at B;cases B
    refine R.bR _ (xp u e) λz y=>?_
    obtain⟨_,v,_,_,I,Y⟩:=y;refine R.bR _ (R.bf _ _) λ_ F=>?_
    refine⟨_,Y E,λ_=>⟨?_,v,I w,rfl⟩,λh=>absurd h D⟩;have:=bJ (Y E);rw[this];exact bj F
   .have U:len*i.size=0:=bj B;exact⟨[],rfl,λh=>absurd U h,λ_=>rfl⟩
  .obtain⟨r,W,G,X⟩:=y;refine R.bR _ (xr N O b.toList) λps l=>?_
   obtain⟨q,m,Z,hq3⟩:=uW W len;refine R.bR _ (s5 (E:=E) (pa:=λk=>some (Nat.mul k i.size,i.size)) (pc:=λk=>some (k*i.size,i.size)) (λ_ x h=>h) ps _ _ _ l.1 l.2 m) λcs H=>?_
   obtain⟨r',g1,g2,g3⟩:=H;have g:(b.map λ(i,x)=>(i,a.eval x)).toList=b.toList.map λ(i,x)=>(i,a.eval x):=by simp
   have J:q.length=len*i.size:=by grind[aN]
   have hcl:cs.length=len*i.size:=by rw[g2,<-bJ m,J]
   have n:∀A,Grow E A->dC C A ⟨w.heap.size,0,len,none⟩ (ic e cs) (.cells ⟨r'⟩ e (0,0)):=
    fu V.1 g1 (by omega) (by have:=bJ g1;simp;omega) (λj c M=>by simpa using M) _ 0 false 0 0 (by omega)
   refine⟨.cells ⟨r'⟩ e (0,0),0,len,.slice (some ⟨w.heap.size,0,none⟩) len len,?_,n,λA id K=>by simp[Z3,ai,K]⟩;have o:¬(len*i.size>2^24):=by omega
   unfold VS Instr.buildSlice;simp only[aS,gC Q w,bw,V.2.size w,av o,pure_bind,g,bind_assoc];have f:∀zv:Array Value,(len*i.size≠0->zv.toList=r)->Instr.fill (λk=>some (k*i.size,i.size)) (Array.map (λx=>zv[x%zv.size]!) (Array.range (len*i.size))) (b.toList.map λ(i,x)=>(i,a.eval x))=some ⟨r'⟩:=by
    intro zv hzv;rw[<-g3];congr 1;apply Array.ext';apply List.ext_getElem?;intro j;simp only[Array.toList_map,Array.toList_range,kh];by_cases M:j<len*i.size
    .grind
    .grind
   by_cases p:len*i.size=0
   .simp only[p,bc,bE];have:=f #[] (λh=>absurd p h);rw[p]at this;simp only[aS,bE,bw,this,hJ]
   .obtain⟨_,v,hv,L⟩:=G p;have:=f v.cells (λ_=>L.symm);simp only[av p,aS,hv,bw,bE,this,hJ]
 |_=>trivial
theorem a3g(b:Good C)(d:Rel C base E s w)(f:aW E nt t a.tmps)(o:Oper):(aF o.op C t).path (a4Z C E w ((execOp a.eval o).run C.P w)):=by
 cases h:o.op with
 |alloc e=>simp only[execOp,h];exact a1S b E w e
 |box e x=>simp only[execOp,h];exact a89 b d f e x
 |buildSlice e n ps=>simp only[execOp,h];exact Jd b d f e n ps
 |makeMap e r=>
  cases r with
  |some x=>trivial
  |none=>refine⟨.map #[] 0,0,0,.map (some w.heap.size),?_,λA i=>⟨#[],rfl,eI,.bool,λe g=>by cases g⟩,λA id c=>by simp[Z3,ai,c]⟩;simp only[execOp,h];rfl
 |_=>trivial
end
theorem fQ(m i:Nat):has m i=m.testBit i:=by show Nat.beq (Nat.land (Nat.shiftRight m i) 1) 1=(1 &&& (m >>> i) != 0);have e:Nat.land (Nat.shiftRight m i) 1=1 &&& (m >>> i):=Nat.and_comm (m >>> i) 1;rw[e];have h:=Nat.one_and_eq_mod_two (m >>> i);rw[h];rcases Nat.mod_two_eq_zero_or_one (m >>> i)with h|h<;>rw[h]<;>rfl
theorem tp(i:Nat):has 0 i=false:=by rw[fQ];simp
theorem gD(a b i:Nat):has (Nat.lor a b) i=(has a i||has b i):=by rw[fQ,fQ,fQ];exact Nat.testBit_or a b i
theorem SQ(k:Nat):bit k=2^k:=by show 1 <<< k=2^k;simp[Nat.shiftLeft_eq]
theorem ka(k i:Nat):has (bit k) i=decide (k=i):=by grind[fQ,SQ]
theorem aI(m k i:Nat):has (Nat.lor m (bit k)) i=true↔has m i=true\/i=k:=by grind[gD,ka]
theorem Dc(a b i:Nat):has (minus a b) i=(has a i && !has b i):=by unfold minus;rw[fQ,fQ,fQ];show((a |||b) ^^^ b).testBit i=_;rw[Nat.testBit_xor,Nat.testBit_or];cases a.testBit i<;>cases b.testBit i<;>rfl
theorem Tz{a b:Nat}(h:sub a b=true)(i:Nat)(V:has a i=true):has b i=true:=by have e:Nat.lor a b=b:=bj h;rw[<-e,gD,V];rfl
theorem tK{a b:Nat}(h:iC a b=true)(i:Nat)(c:has a i=true)(d:has b i=true):False:=by
 have e:Nat.land a b=0:=bj h;have Y:(a &&& b).testBit i=true:=by rw[Nat.testBit_and,<-fQ,<-fQ,c,d];rfl
 have f:a &&& b=0:=e;rw[f]at Y;simp at Y
theorem wL{a:Nat}(h:Nat.beq a 0=true):a=0:=bj h
theorem UI(n i:Nat):has (Nat.sub (bit n) 1) i=decide (i<n):=by grind[fQ,SQ]
theorem Ub{d:Nat}:∀{l:List Operand},Operand.tmp d∈l->has (opM l) d=true
 | [],h=>by cases h
 |x::l,h=>by
  cases h with
  |head=>show has (Nat.lor (bit d) (opM l)) d=true;rw[gD,ka];simp
  |tail _ h=>
   have a:=Ub h;cases x with
   |tmp t=>show has (Nat.lor (bit t) (opM l)) d=true;rw[gD,a];simp
   |_=>exact a
theorem qt{o:Oper}{d:Nat}(h:o.dst=some d):has (HF o) d=true:=by grind[HF,ka]
theorem qg{ops:List Oper}{o:Oper}{d:Nat}(h:Operand.tmp d∈o.op.operands.toList):has (mh ops o) d=true:=by grind[mh,gD,Ub]
theorem iU{ops:Array Oper}{o:Oper}{d:Nat}(h:qn ops o=some d):has (mh ops.toList o) d=true:=by
 have:has (Sl ops.toList o) d=true:=by
  unfold qn at h;unfold Sl;cases a:o.guard with
  |none=>rw[a]at h;cases h
  |some p=>
   obtain⟨g,b⟩:=p;rw[a]at h;simp only at h ⊢;have e:nth ops.toList g=ops[g]? :=by rw[wg];simp
   rw[e];cases ho:ops[g]? with
   |none=>rw[ho]at h;cases h
   |some q=>rw[ho]at h;exact qt h
 unfold mh;rw[gD,this];simp
def lQ(ops:Array Oper)(all:List PO):Prop:=
 ∀i x,dR all i=some x->∃o,ops[i]? =some o/\x.i=i/\x.look=mh ops.toList o/\x.dst=HF o/\x.kind=lk o.op
theorem BF:∀(l:List Nat)(i:Nat),GV l i=l.getD i 0
 | [],i=>by simp[GV]
 |x::l,0=>by simp[GV]
 |x::l,i+1=>by simp[GV,BF l i]
theorem JJ(ops:List Oper)(M:List Nat):∀(l:List Oper)(k i:Nat),dR (posOf ops M l k) i=(l[i]?).map λo=>⟨k+i,GV M (k+i),mh ops o,HF o,lk o.op⟩
 | [],k,i=>by simp[posOf,dR]
 |o::l,k,0=>by simp[posOf,dR]
 |o::l,k,i+1=>by
  show dR (posOf ops M l (k+1)) i=_;rw[JJ ops M l (k+1) i];simp only[og];rw[show k+1+i=k+(i+1) by omega]
theorem uy(ops:List Oper)(i:Nat):dR (fN ops) i=(ops[i]?).map λo=>⟨i,GV (fA ops []) i,mh ops o,HF o,lk o.op⟩:=by grind[fN,JJ]
theorem mD(ops:Array Oper):lQ ops (fN ops.toList):=by intro i x h;rw[uy]at h;simp only[bk]at h;obtain⟨o,ho,rfl⟩:=h;exact⟨o,by simpa using ho,rfl,rfl,rfl,rfl⟩
theorem yA:∀(l:List Oper)(acc:List Nat),∃r,fA l acc=acc++r/\r.length=l.length
 | [],acc=>⟨[],by simp[fA],rfl⟩
 |o::l,acc=>by
  obtain⟨r,I,Y⟩:=yA l (acc++[lE acc o.after.toList]);exact⟨lE acc o.after.toList::r,by show fA l _=_;rw[I];simp,by simp[Y]⟩
theorem C5:∀(l:List Oper)(acc:List Nat)(i:Nat)(o:Oper),l[i]? =some o->(fA l acc)[acc.length+i]? =some (lE ((fA l acc).take (acc.length+i)) o.after.toList)
 | [],_,i,_,h=>by simp at h
 |o::l,acc,0,T,h=>by
  simp only[dj,aD]at h;subst h;obtain⟨r,I,_⟩:=yA l (acc++[lE acc o.after.toList]);show(fA l (acc++[lE acc o.after.toList]))[acc.length+0]? =some (lE ((fA l (acc++[lE acc o.after.toList])).take (acc.length+0)) o.after.toList);rw[I];simp
 |o::l,acc,i+1,T,h=>by
  have:=C5 l (acc++[lE acc o.after.toList]) i T (by simpa using h);simp only[cg,cD,c7]at this;show(fA l (acc++[lE acc o.after.toList]))[acc.length+(i+1)]? =some (lE ((fA l (acc++[lE acc o.after.toList])).take (acc.length+(i+1))) T.after.toList);rw[show acc.length+(i+1)=acc.length+(0+1)+i by omega];exact this
theorem sJ(e:Edge):xO e=Region.binds .any e:=by unfold xO Region.binds;cases e.ground<;>rfl
theorem C4(M:List Nat){k:Nat}:∀{l:List Edge},has (lE M l) k=true->∃e∈l,Region.binds .any e=true/\(k=e.on\/has (GV M e.on) k=true)
 | [],h=>by grind[lE,tp]
 |e::l,h=>by
  unfold lE at h;cases b:xO e with
  |false=>rw[b]at h;obtain⟨a,I,Y⟩:=C4 M h;exact⟨a,by simp[I],Y⟩
  |true=>
   rw[b]at h;simp only[gD,il]at h;rcases h with(h|h)|h
   .grind[ka,sJ]
   .grind[sJ]
   .obtain⟨a,I,Y⟩:=C4 M h;exact⟨a,by simp[I],Y⟩
theorem G2(M:List Nat){e:Edge}:∀{l:List Edge},e∈l->Region.binds .any e=true->has (lE M l) e.on=true
 | [],h,_=>by cases h
 |x::l,h,a=>by
  unfold lE;cases h with
  |head=>
   have:xO e=true:=by rw[sJ];exact a
   rw[this];simp only[gD,ka];simp
  |tail _ h=>
   have b:=G2 M h a;cases c:xO x with
   |false=>exact b
   |true=>simp only[gD,b];simp
def a10(ops:Array Oper)(Ld:List Nat):Prop:=∀i x,i∈Ld->dR (fN ops.toList) i=some x->∀k,has x.before k=true->k∈Ld
theorem M2{ops:Array Oper}{Ld:List Nat}(l:a10 ops Ld){i:Nat}{o:Oper}(ho:ops[i]? =some o)(m:∀e∈o.after.toList,Region.binds .any e=true->e.on∈Ld)
  {x:PO} (Z:dR (fN ops.toList) i=some x):∀k,has x.before k=true->k∈Ld:=by
 intro k hk;rw[uy]at Z;have b:ops.toList[i]? =some o:=by simpa using ho
 rw[b]at Z;simp only[cM,aD]at Z;subst Z;simp only at hk;have j:=C5 ops.toList [] i o b;simp only[c7,eD]at j;rw[BF,List.getD_eq_getElem?_getD,j,hE]at hk;obtain⟨e,d,f,a⟩:=C4 _ hk;have c:=m e d f;rcases a with rfl|a
 .exact c
 .rw[BF,List.getD_eq_getElem?_getD,vu]at a;split at a
  .have g:e.on<ops.toList.length:=by
     have V:i<ops.toList.length:=by grind
     omega
   obtain⟨T,h⟩:∃T,ops.toList[e.on]? =some T:=⟨_,dV g⟩;refine l e.on _ c (by rw[uy,h];rfl) k ?_;simp only;rw[BF,List.getD_eq_getElem?_getD];exact a
  .grind[tp]
def Ql(n:Nat)(all:List PO):List Nat->List Nat->Prop
 |Ld,[]=>∀k,k<n->k∈Ld
 |Ld,i::L=>i ∉ Ld/\i<n/\(∀x,dR all i=some x->∀k,has x.before k=true->k∈Ld)/\Ql n all (i::Ld) L
theorem Km:∀{l:List PO}{i:Nat}{x:PO},below l=true->dR l i=some x->x.before<bit x.i
 | [],i,x,_,h=>by simp[dR]at h
 |y::l,i,x,b,h=>by
  unfold below at b;cases a:Nat.blt y.before (bit y.i)with
  |false=>rw[a]at b;cases b
  |true=>
   rw[a]at b;cases i with
   |zero=>simp only[dR,aD]at h;subst h;exact bZ a
   |succ i=>exact Km (l:=l) (i:=i) b h
theorem a7I{m k i:Nat}(h:m<bit i)(hk:has m k=true):k<i:=by
 rw[fQ]at hk;rw[SQ]at h;rcases ed k i with h'|h'
 .exact h'
 .have:=Nat.testBit_lt_two_pow (kY h (Nat.pow_le_pow_right (by omega) h'));rw[this]at hk;cases hk
theorem D8{ops:Array Oper}(d:below (fN ops.toList)=true){i:Nat}{o:Oper}(ho:ops[i]? =some o){e:Edge}(f:e∈o.after.toList)(b:Region.binds .any e=true):e.on<i:=by
 have a:ops.toList[i]? =some o:=by simpa using ho
 have Z:dR (fN ops.toList) i=some ⟨i,GV (fA ops.toList []) i,mh ops.toList o,HF o,lk o.op⟩:=by rw[uy,a];rfl
 have I:=Km d Z;refine a7I I ?_;simp only;have c:=C5 ops.toList [] i o a;simp only[c7,eD]at c;rw[BF,List.getD_eq_getElem?_getD,c,hE];exact G2 _ f b
theorem VQ{ops:Array Oper}(d:below (fN ops.toList)=true){listed:Array Bool}(i:listed.size=ops.size)(f:Region.ready .any ops listed=[]):
  ∀k,k<ops.size->listed.getD k true=true:=by
 intro k;induction k using Nat.strongRecOn with
 |_ k g=>
  intro hk;cases h:listed.getD k true with
  |true=>rfl
  |false=>
   exfalso;have:k∈Region.ready .any ops listed:=by
    unfold Region.ready;rw[List.mem_filter];refine⟨by simpa using hk,?_⟩;have ho:ops[k]? =some ops[k]:=fb hk;rw[h,ho];simp only[cM,hE,Bool.not_false,Bool.true_and,Array.all_eq_true];intro j l;cases a:Region.binds .any ops[k].after[j]with
    |false=>rfl
    |true=>
     have b:=D8 d ho (e:=ops[k].after[j]) (by simp) a;have:=g _ b (by omega);have c:(ops[k].after[j]).on<listed.size:=by omega
     simp only[Bool.not_true,Bool.false_or];simp only[oh,fb c,hE]at this ⊢;exact this
   rw[f]at this;cases this
theorem vK{ops:Array Oper}(A:below (fN ops.toList)=true):∀(c t:Nat)(listed:Array Bool)(Ld:List Nat),listed.size=ops.size->
  (∀k,k<ops.size->(listed.getD k true=true↔k∈Ld))->a10 ops Ld->listed.toList.countP (λb=> !b)<=c->
  Ql ops.size (fN ops.toList) Ld (Region.linearise.go .any ops c t listed [])
 |0,t,listed,Ld,B,q,C,J=>by
  have I:listed.toList.countP (λb=> !b)=0:=by omega
  rw[List.countP_eq_zero]at I;intro k hk;rw[<-q k hk];have o:k<listed.size:=by omega
  have:=I listed[k] (by simp);simp only[oh,fb o,hE];simpa using this
 |c+1,t,listed,Ld,B,q,C,J=>by
  simp only[Region.linearise.go];change Ql ops.size (fN ops.toList) Ld (match(Region.ready .any ops listed)[t%(Region.ready .any ops listed).length]? with
   |some i=>Region.linearise.go .any ops c (t/(Region.ready .any ops listed).length) (listed.setIfInBounds i true) [i]
   |none=>[].reverse)
  cases V:(Region.ready .any ops listed)[t%(Region.ready .any ops listed).length]? with
  |none=>
   have r:Region.ready .any ops listed=[]:=by
    cases K:Region.ready .any ops listed with
    |nil=>rfl
    |cons x xs=>rw[K]at V;have s:t%(x::xs).length<(x::xs).length:=Nat.mod_lt _ (by simp);simp at V;simp at s;omega
   intro k hk;exact(q k hk).1 (VQ A B r k hk)
  |some i=>
   simp only[];rw[linearise_go_acc,List.reverse_singleton,List.singleton_append];have d:=mV V;unfold Region.ready at d;rw[List.mem_filter]at d;obtain⟨D,f⟩:=d;have g:i<ops.size:=by simpa using D
   simp only[aM,im]at f;obtain⟨m,l⟩:=f;have ho:ops[i]? =some ops[i]:=fb g;rw[ho]at l;simp only[cM,hE,Array.all_eq_true]at l;have u:i ∉ Ld:=λh=>by rw[(q i g).2 h]at m;cases m
   have n:∀e∈ops[i].after.toList,Region.binds .any e=true->e.on∈Ld:=by
    intro e L v;have E:e∈ops[i].after:=by simpa using L
    obtain⟨j,w,rfl⟩:=Array.mem_iff_getElem.1 E;have:=l j w;rw[v]at this;simp only[Bool.not_true,Bool.false_or]at this;have s:=D8 A ho (e:=ops[i].after[j]) (by simp) v;have F:(ops[i].after[j]).on<listed.size:=by omega
    refine(q _ (by omega)).1 ?_;simp only[oh,fb F,hE]at this ⊢;exact this
   have y:∀x,dR (fN ops.toList) i=some x->∀k,has x.before k=true->k∈Ld:=λx Z=>M2 C ho n Z
   refine⟨u,g,y,vK A c _ _ (i::Ld) (by simpa using B) ?_ ?_ ?_⟩
   .intro k hk;have o:k<listed.size:=by omega
    by_cases z:i=k
    .subst z;simp[o]
    .rw[cC];have:(listed.setIfInBounds i true).getD k true=listed.getD k true:=by
      simp only[oh,Array.getElem?_setIfInBounds_ne z]
     rw[this,q k hk];constructor
     .exact .inr
     .grind
   .intro j x w Z k hk;rcases cC.1 w with rfl|w
    .grind
    .exact cC.2 (.inr (C j x w Z k hk))
   .have G:i<listed.toList.length:=by simp;omega
    have M:listed.toList[i]=false:=by
     have H:i<listed.size:=by omega
     simp only[oh,fb H,hE]at m;simpa using m
    have:=List.countP_set (p:=λb=> !b) (a:=true) G;rw[Array.toList_setIfInBounds,this,M];simp only[Bool.not_false,bc,Bool.not_true,fa,br,iF];omega
theorem IF{ops:Array Oper}(a:below (fN ops.toList)=true)(t:Nat):Ql ops.size (fN ops.toList) [] (Region.schedule true ops t):=by
 simp only[Region.schedule,Bool.true_or,bc,Region.linearise];refine vK a ops.size t _ [] (by simp) ?_ (λi x h=>by cases h) ?_
 .intro k hk;simp[oh,hk]
 .have:=List.countP_le_length (p:=λb=> !b) (l:=(Array.replicate ops.size false).toList);simpa using this
structure DC where
 C:Ctx
 base:Nat
 fi:FI
 ops:Array Oper
 all:List PO
 lp:List PS
 ro:Option Nat
 k:List Item
 Qo:G
 s0:S
 w0:World
 cs0:List Frame
 m0:Machine
def DJ(X:DC)(D:Ia)(Ld:List Nat)(d:Nat):Prop:=∃k o,(has D.zT k=true\/has D.Cz k=true)/\k ∉ Ld/\X.ops[k]? =some o/\o.dst=some d
def n6(E:G)(nt:Nat)(t:Tr AV)(tm:Array Value)(J:Nat->Prop):Prop:=
 tm.size=nt/\(∀d v,t.get d=some v->d<nt/\∃c,tm[d]? =some c/\(J d\/VR E v c))/\∀d,t.get d=none->J d\/tm.getD d undef=undef
def aci(X:DC)(t:Tr AV)(s:S)(k:Nat):Prop:=
 ∃o v,X.ops[k]? =some o/\rn o.op=true/\UQ X.ops o X.C t s=.ok v/\∀d,o.dst=some d->d<X.fi.nt->t.get d=some v
def tO(X:DC)(D:Ia)(Ld:List Nat)(t:Tr AV)(s:S):Prop:=∀k,has D.zT k=true->k ∉ Ld->has D.gV k=false->aci X t s k
def Nf(X:DC)(pe:vb)(t:Tr AV)(s:S)(E:G)(k:Nat):Prop:=
 ∃o,X.ops[k]? =some o/\Ej o.op=true/\
  ((eo X.ops o.guard t=.ok false/\dW k pe=none/\∀d,o.dst=some d->d<X.fi.nt->t.get d=some iK)\/
   (eo X.ops o.guard t=.ok true/\∃a aO id,aF o.op X.C t=.ok (a,aO)/\dW k pe=some (id,aO)/\(∀d,o.dst=some d->d<X.fi.nt->t.get d=some (Z3 a id))/\
     E id=none/\id<s.next/\s.h.get id=none/\X.s0.next<=id))
def FH(X:DC)(E:G)(s:S)(w:World)(id:Nat)(aO:gn):Prop:=
 ∃l o,E id=some l/\w.heap[l.aO]? =some o/\dC X.C E l aO o/\(∀u N O,s.h.get u=some N->E u=some O->O.aO≠l.aO)/\s.h.get id=none/\id<s.next/\X.s0.next<=id/\X.w0.heap.size<=l.aO/\
  dD X.C E s w λk=>k=l.aO
def Ng(X:DC)(pe:vb)(E:G)(s:S)(w:World)(k:Nat):Prop:=∀id aO,dW k pe=some (id,aO)->FH X E s w id aO
structure gQ(X:DC)(D:Ia)(Ld:List Nat)(pe:vb)(t:Tr AV)(ds:List jh)(ctx:Option (List PE))(s:S)(E:G)(w:World)(tm:Array Value)(ck:List Deferred)(cs:List Frame):Prop where
 step:Step X.C X.base X.Qo X.s0 X.w0 E s w
 ro:rz E X.fi.roundOf X.ro
 ds:dY X.fi.tl E ds=some ck
 ctx:ga E X.fi.kind ctx cs
 cs:cF X.fi.kind X.cs0 cs
 Sx:∀k,k∈Ld->has D.done k=true
 sL:∀k,has D.acts k=true->k∈Ld
 kinds:∀k,has D.done k=true->has D.acts k=true\/has D.zT k=true\/has D.Cz k=true
 B5:∀k,has D.zT k=true->has D.done k=true
 xY:∀k,has D.Cz k=true->has D.done k=true
 two:∀k,has D.zT k=true->has D.Cz k=true->False
 fl:∀k,has D.zT k=true\/has D.Cz k=true->∃x,x∈D.fl/\dR X.all k=some x
 evc:∀k,has D.zT k=true->∃o,X.ops[k]? =some o/\rn o.op=true
 pw:∀x y,x∈D.fl->y∈D.fl->has x.before y.i=true\/∀d,has x.look d=true->has y.dst d=true->False
 r6:∀k,has D.last k=true->k∈Ld
 tm:n6 E X.fi.nt t tm (DJ X D Ld)
 Rk:∀k,has D.zT k=true\/has D.Cz k=true->∃o,X.ops[k]? =some o/\(PS.ev k o∈X.lp\/PS.al k o∈X.lp)
 nM:∀k id b,dW k pe=some (id,b)->has D.Cz k=true/\id<s.next
 ids:∀k k' id b N,dW k pe=some (id,b)->dW k' pe=some (id,N)->k=k'
 Gc:∀k k' id u b N l O,dW k pe=some (id,b)->dW k' pe=some (u,N)->k≠k'->E id=some l->E u=some O->l.aO≠O.aO
 Xk:∀k id b l,dW k pe=some (id,b)->E id=some l->l.aO<w.heap.size
 al1:∀k,has D.Cz k=true->k ∉ Ld->Nf X pe t s E k
 al2:∀k,has D.Cz k=true->k∈Ld->has D.OV k=false->Ng X pe E s w k
def Pm(nt:Nat)(t:Tr AV):List Nat->Tr AV
 | []=>t
 |d::l=>put nt (Pm nt t l) (some d) .fO
theorem xG(nt:Nat)(t:Tr AV)(d:Nat):∀l:List Nat,(Pm nt t l).get d=if d∈l/\d<nt then some .fO else t.get d
 | []=>by simp[Pm]
 |e::l=>by
  unfold Pm;rw[pR];have a:=xG nt t d l;by_cases b:e<nt
  .grind[Tr.bY]
  .grind
open Classical in
theorem Dk{E:G}{nt:Nat}{t:Tr AV}{tm:Array Value}{J:Nat->Prop}(h:n6 E nt t tm J)(jl:List Nat)(e:∀d,J d->d∈jl):
  ∃tJ,aW E nt tJ tm/\∀d,¬J d->tJ.get d=t.get d:=by
 refine⟨Pm nt t (jl.filter λd=>decide (J d)),?_,?_⟩
 .obtain⟨I,Y,W⟩:=h;refine⟨I,?_,?_⟩
  .intro d v a;rw[xG]at a;split at a
   .next c=>
    obtain rfl:=ae a;have b:d<tm.size:=by rw[I];exact c.2
    exact⟨c.2,tm[d],fb b,.inl rfl⟩
   .grind
  .grind[xG]
 .grind[xG]
theorem n6.mono {E:G} {nt:Nat} {t:Tr AV} {tm:Array Value} {J b:Nat->Prop} (h:n6 E nt t tm J) (e:∀d,J d->b d):n6 E nt t tm b:=
 ⟨h.1,λd v a=>by obtain⟨g1,c,g2,g3⟩:=h.2.1 d v a;exact⟨g1,c,g2,g3.imp (e d) id⟩,λd a=>(h.2.2 d a).imp (e d) id⟩
theorem n6.grow {E A:G} (a:Grow E A) {nt:Nat} {t:Tr AV} {tm:Array Value} {J:Nat->Prop} (h:n6 E nt t tm J):n6 A nt t tm J:=
 ⟨h.1,λd v b=>by obtain⟨g1,c,g2,g3⟩:=h.2.1 d v b;exact⟨g1,c,g2,g3.imp id (VR.grow a)⟩,h.2.2⟩
theorem n6.acH {E:G} {nt:Nat} {t:Tr AV} {tm:Array Value} {J:Nat->Prop} (h:n6 E nt t tm J) (dst:Option Tmp) {v:AV} {c:Value} (g:ai E v=some c):n6 E nt (put nt t dst v) (pU tm dst c) J:=by
 obtain⟨I,Y,W⟩:=h;cases dst with
 |none=>exact⟨I,Y,W⟩
 |some e=>
  rw[pR];simp only[pU];by_cases f:e<nt
  .rw[aJ f];refine⟨by simp[I],?_,?_⟩
   .intro d u b;rw[Tr.bY]at b;by_cases a:e=d
    .subst a;rw[aJ rfl]at b;obtain rfl:=ae b;exact⟨f,c,by simp[I,f],.inr (.inr g)⟩
    .grind
   .intro d b;rw[Tr.bY]at b;by_cases a:e=d
    .rw[aJ a]at b;cases b
    .rw[av a]at b;have:=W d b;simp only[oh]at this ⊢;simp only[vx,a,br];exact this
  .rw[av f];have:tm.setIfInBounds e c=tm:=by grind
   rw[this];exact⟨I,Y,W⟩
theorem n6.a64 {E:G} {nt:Nat} {t:Tr AV} {tm:Array Value} {J f:Nat->Prop} (h:n6 E nt t tm J) (dst:Option Tmp) {v:AV} {c:Value} (j:ai E v=some c)
  (k:∀d,dst=some d->d<nt->t.get d=some v) (i:∀d,J d->f d\/dst=some d):n6 E nt t (pU tm dst c) f:=by
 obtain⟨I,Y,W⟩:=h;cases dst with
 |none=>exact⟨I,λd u a=>by obtain⟨g1,c',g2,g3⟩:=Y d u a;exact⟨g1,c',g2,g3.imp (λg=>(i d g).resolve_right (by simp)) id⟩,λd a=>(W d a).imp (λg=>(i d g).resolve_right (by simp)) id⟩
 |some e=>
  simp only[pU];refine⟨by simp[I],?_,?_⟩
  .intro d u a;obtain⟨g1,c',g2,g3⟩:=Y d u a;by_cases b:e=d
   .subst b;rw[k e rfl g1]at a;obtain rfl:=ae a;exact⟨g1,c,by simp[I,g1],.inr (.inr j)⟩
   .grind
  .intro d a;by_cases b:e=d
   .grind
   .rcases W d a with g|g
    .grind
    .right;simp only[oh]at g ⊢;simp only[vx,b,br];exact g
theorem n6.a65 {E:G} {nt:Nat} {t:Tr AV} {tm:Array Value} {J c:Nat->Prop} (h:n6 E nt t tm J) (dst:Option Tmp) (v:AV) (j:∀d,J d->c d) (f:∀d,dst=some d->c d):
  n6 E nt (put nt t dst v) tm c:=by
 obtain⟨I,Y,W⟩:=h.mono j;cases dst with
 |none=>exact⟨I,Y,W⟩
 |some e=>
  rw[pR];by_cases b:e<nt
  .rw[aJ b];refine⟨I,?_,?_⟩
   .intro d u g;rw[Tr.bY]at g;by_cases a:e=d
    .subst a;have i:e<tm.size:=by rw[I];exact b
     exact⟨b,tm[e],fb i,.inl (f e rfl)⟩
    .rw[av a]at g;exact Y d u g
   .grind[Tr.bY]
  .rw[av b];exact⟨I,Y,W⟩
section
variable{X:DC}{E A:G}{s F:S}{w M:World}{pe:vb}{t Q:Tr AV}{k:Nat}
theorem Step.back {C:Ctx} {base:Nat} (a:Step C base E s w A F M) {id:Nat} {O:Loc} (h:A id=some O) (d:id<s.next):∃l,E id=some l/\O.aO=l.aO:=by
 rcases a.Se id O h with⟨l,b⟩|⟨f,_⟩
 .obtain⟨g,c,e⟩:=a.grow id l b;rw[h]at c;obtain rfl:=ae c;exact⟨l,b,e.1⟩
 .omega
theorem FH.step {id:Nat} {aO:gn} (h:FH X E s w id aO) (a:Step X.C X.base E s w A F M):FH X A F M id aO:=by
 obtain⟨l,o,I,Y,W,U,h5,h6,h7,t,v⟩:=h;obtain⟨O,g1,g2⟩:=a.grow id l I;have i:l.aO<w.heap.size:=by grind
 refine⟨O,o,g1,?_,W.mono a.grow g2,?_,?_,kY h6 a.next,h7,by rw[g2.1];exact t,by rw[g2.1];exact a.rdz _ (λk hk=>⟨by rw[hk];exact i,λ⟨c,j,e,d,_,m,n⟩=>U c j e d m (n.trans hk)⟩) v⟩
 .rw[g2.1];refine a.keep.stays _ _ Y ?_;rintro⟨c,j,e,d,D,m,n⟩;exact U c j e d m n
 .intro u N e x d;rw[g2.1];rcases a.Se u e d with⟨p,g⟩|⟨g,G⟩
  .obtain⟨H,r,y⟩:=a.grow u p g;rw[d]at r;obtain rfl:=ae r;rw[y.1];obtain⟨z,q⟩:=a.p0 u N x (a.Xi u p g);exact U u z p q g
  .grind
 .cases B:F.h.get id with
  |none=>rfl
  |some b=>obtain⟨N,f⟩:=a.p0 id b B h6;rw[h5]at f;cases f
theorem Ng.step (h:Ng X pe E s w k) (a:Step X.C X.base E s w A F M):Ng X pe A F M k:=λid aO b=>(h id aO b).step a
theorem Nf.step (h:Nf X pe t s E k) (a:Step X.C X.base E s w A F M)
  (g:∀o,X.ops[k]? =some o->(∀d,has (mh X.ops.toList o) d=true->t.get d=Q.get d)/\∀d,o.dst=some d->t.get d=Q.get d):Nf X pe Q F A k:=by
 obtain⟨o,ho,p,h⟩:=h;obtain⟨e,i⟩:=g o ho;have e1:eo X.ops o.guard t=eo X.ops o.guard Q:=kl X.ops o λd c=>e d (iU c)
 have e2:aF o.op X.C t=aF o.op X.C Q:=a1U o.op λd c=>e d (qg c)
 refine⟨o,ho,p,?_⟩;rcases h with⟨g1,g2,g3⟩|⟨g1,q,aO,id,g2,g3,g4,g5,g6,g7,g8⟩
 .grind
 .refine .inr ⟨e1▸g1,q,aO,id,e2▸g2,g3,λd c j=>by rw[<-i d c];exact g4 d c j,?_,kY g6 a.next,?_,g8⟩
  .cases m:A id with
   |none=>rfl
   |some O=>
    rcases a.Se id O m with⟨l,n⟩|⟨r,_⟩
    .rw[g5]at n;cases n
    .omega
  .cases m:F.h.get id with
   |none=>rfl
   |some b=>obtain⟨N,f⟩:=a.p0 id b m g6;rw[g7]at f;cases f
end
section
variable{C:Ctx}{base:Nat}{E:G}{s:S}{w:World}
def ghost(E:G)(id:Nat)(l:Loc):G:=λj=>if j=id then some l else E j
theorem Ht{id:Nat}{l:Loc}(h:E id=none):Grow E (ghost E id l):=λj b a=>by
 have:j≠id:=λe=>by rw[e,h]at a;cases a
 exact⟨b,by simp[ghost,this,a],rfl,rfl,rfl⟩
theorem tM{w:World}{o:Obj}{k:Nat}{x:Obj}(h:w.heap[k]? =some x):(w.alloc o).heap[k]? =some x:=by
 have a:k<w.heap.size:=by grind
 show(w.heap.push o)[k]? =some x;rw[Array.getElem?_push,av (gE a)];exact h
theorem Xd(w:World)(o:Obj):(w.alloc o).heap[w.heap.size]? =some o:=by show(w.heap.push o)[w.heap.size]? =some o;simp
theorem Rel.ghost (c:Rel C base E s w) {id:Nat} (I:E id=none) (Y:s.h.get id=none) (W:id<s.next) (l:Loc) (o:Obj) (K:l.v=none):Rel C base (ghost E id l) s (w.alloc o):=by
 have B:=Ht (l:=l) I;have a:∀u b,s.h.get u=some b->u≠id:=λu b f e=>by rw[e,Y]at f;cases f
 refine⟨?_,?_,?_,?_,?_,?_,c.LB B,?_⟩
 .intro u b f;obtain⟨O,T,g1,g2,g3⟩:=c.aO u b f;exact⟨O,T,by simp[Abs.ghost,a u b f,g1],tM g2,g3.mono B ⟨rfl,rfl,rfl⟩⟩
 .intro i j x y li G Z D V n r t;simp only[Abs.ghost,a i x Z,a j y D,br]at V n;exact c.sep i j x y li G Z D V n r t
 .intro j n;have:j≠id:=by omega
  simp[Abs.ghost,this,c.new j n]
 .intro g z;obtain⟨H,m,p,q⟩:=c.gm g z;have:g≠id:=λe=>by rw[e,I]at m;cases m
  exact⟨H,by simp[Abs.ghost,this,m],p,q⟩
 .intro u b O f F A;simp only[Abs.ghost,a u b f,br]at F;exact c.low u b O f F A
 .have:=c.bs;show base<=(w.heap.push o).size;simp;omega
 .refine c.rd' (by show _<=(w.heap.push o).size;simp) (λk hk _=>by rw[fb hk];exact tM (fb hk)) (λk _=>?_) (λj O d m p=>?_)
  .rintro⟨i,b,li,m,p,q,J⟩;simp only[Abs.ghost,a i b m,br]at q;exact⟨i,b,li,m,p,q,J⟩
  .grind[Abs.ghost,Option.some.injEq]
theorem Rel.a1T (b:Rel C base E s w) {id:Nat} {aO:gn} {l:Loc} {o:Obj} (I:E id=some l) (Y:w.heap[l.aO]? =some o) (W:dC C E l aO o) (U:∀u N O,s.h.get u=some N->E u=some O->u≠id->O.aO≠l.aO)
  (h5:base<=l.aO) (h6:dD C E s w λk=>k=l.aO):Rel C base E ⟨s.h.set id aO,s.next,s.pc⟩ w:=by
 have a:∀i x,(s.h.set id aO).get i=some x->(i=id/\x=aO)\/(i≠id/\s.h.get i=some x):=by grind[Tr.bY]
 refine⟨?_,?_,b.new,b.gm,?_,b.bs,b.pc,?_⟩
 .intro i x Z;rcases a i x Z with⟨rfl,rfl⟩|⟨_,Z⟩
  .exact⟨l,o,I,Y,W⟩
  .exact b.aO i x Z
 .intro i j x y li c Z e V q f g;rcases a i x Z with⟨rfl,rfl⟩|⟨r,hx2⟩
  .grind
  .rcases a j y e with⟨rfl,rfl⟩|⟨_,e⟩
   .grind
   .exact b.sep i j x y li c hx2 e V q f g
 .intro i x li Z V m;rcases a i x Z with⟨rfl,rfl⟩|⟨_,Z⟩
  .grind
  .exact b.low i x li Z V m
 .refineλi li d t v=>Dt.ej.stays (λk p=>⟨⟨p.1,λhh=>?_,λh=>h.elim⟩,rfl⟩) d (h6 i li d t v)
  obtain⟨j,x,c,n,z2,z3,z4⟩:=hh;rcases a j x n with⟨rfl,rfl⟩|⟨_,n⟩
  .grind
  .exact p.2.1 ⟨j,x,c,n,z2,z3,z4⟩
theorem Rel.more (a:Rel C base E s w):Rel C base E ⟨s.h,s.next+1,s.pc⟩ w:=
 ⟨a.aO,a.sep,λj(b:s.next+1<=j)=>a.new j (by omega),a.gm,a.low,a.bs,a.pc,a.rd⟩
end
section
variable{X:DC}{D:Ia}{Ld:List Nat}{pe:vb}{t:Tr AV}{ds:List jh}{ctx:Option (List PE)}{s:S}{E:G}{w:World}{tm:Array Value}{ck:List Deferred}{cs:List Frame}{i:Nat}
theorem CO(a:lQ X.ops X.all){k:Nat}{x:PO}{o:Oper}(Z:dR X.all k=some x)(ho:X.ops[k]? =some o):x.i=k/\x.look=mh X.ops.toList o/\x.dst=HF o/\x.kind=lk o.op:=by obtain⟨T,I,Y,W,U,h5⟩:=a k x Z;rw[ho]at I;obtain rfl:=ae I;exact⟨Y,W,U,h5⟩
theorem gQ.jl (d:Nat) (b:DJ X D Ld d):d∈X.ops.toList.filterMap (·.dst):=by obtain⟨k,o,_,_,ho,a⟩:=b;refine List.mem_filterMap.2 ⟨o,?_,a⟩;have:o∈X.ops:=Array.mem_of_getElem? ho;simpa using this
theorem gQ.aaH (a:lQ X.ops X.all) (h:gQ X D Ld pe t ds ctx s E w tm ck cs) (V:has D.zT i=true\/has D.Cz i=true) {x:PO} (Z:dR X.all i=some x)
  (l:∀k,has x.before k=true->k∈Ld) {d:Nat} (n:has x.look d=true):¬DJ X D Ld d:=by
 rintro⟨k,o,hk,b,ho,j⟩;obtain⟨p,c,hx2⟩:=h.fl i V;rw[Z]at hx2;obtain rfl:=ae hx2;obtain⟨y,e,f⟩:=h.fl k hk;obtain⟨m,r2,q,r⟩:=CO a f ho;rcases h.pw x y c e with g|g
 .rw[m]at g;exact b (l k g)
 .grind[qt]
theorem PG{o:Op}(h:rn o=true)(c:Call):o≠.defer c:=by rintro rfl;simp[rn]at h
theorem Qf{o:Op}(h:Ej o=true)(c:Call):o≠.defer c:=by rintro rfl;simp[Ej]at h
theorem gQ.exec (h:gQ X D Ld pe t ds ctx s E w tm ck cs) (V:has D.zT i=true) {o:Oper} (ho:X.ops[i]? =some o) {A:G} {M:World} (a:Step X.C X.base E s w A s M)
  {v:AV} {c:Value} (B:ai A v=some c) (F:∀d,o.dst=some d->d<X.fi.nt->t.get d=some v):gQ X D (i::Ld) pe t ds ctx s A M (pU tm o.dst c) ck cs:=by
 refine⟨h.step.trans a,h.ro.grow a.grow,df a.grow h.ds,h.ctx.grow a.grow,h.cs,?_,λk hk=>bQ _ (h.sL k hk),h.kinds,h.B5,h.xY,h.two,h.fl,h.evc,h.pw,
  λk hk=>bQ _ (h.r6 k hk),?_,h.Rk,λk id b e=>⟨(h.nM k id b e).1,kY (h.nM k id b e).2 a.next⟩,h.ids,?_,?_,?_,?_⟩
 .intro k hk;rcases cC.1 hk with rfl|hk
  .exact h.B5 k V
  .exact h.Sx k hk
 .refine(h.tm.grow a.grow).a64 o.dst B F ?_;rintro d ⟨k,T,I,Y,W,U⟩;by_cases j:k=i
  .grind
  .exact .inl ⟨k,T,I,by simp[j,Y],W,U⟩
 .intro k k' id u b N l O e g m n p;obtain⟨q,r,x⟩:=a.back n (h.nM k id b e).2;obtain⟨H,J,K⟩:=a.back p (h.nM k' u N g).2;rw[x,K];exact h.Gc k k' id u b N q H e g m r J
 .intro k id b l e n;obtain⟨q,r,x⟩:=a.back n (h.nM k id b e).2;rw[x];exact kY (h.Xk k id b q e r) a.keep.size
 .intro k hk y;exact(h.al1 k hk (λL=>y (bQ _ L))).step a λ_ _=>⟨λ_ _=>rfl,λ_ _=>rfl⟩
 .intro k hk f z;rcases cC.1 f with rfl|f
  .exact(h.two k V hk).elim
  .exact(h.al2 k hk f z).step a
theorem a38(J:Good X.C)(j:lQ X.ops X.all)(h:gQ X D Ld pe t ds ctx s E w tm ck cs)(V:has D.zT i=true)(K:aci X t s i){x:PO}(Z:dR X.all i=some x)
  (N:∀k,has x.before k=true->k∈Ld) (L:List Nat):
  ∃A M r,gQ X D (i::Ld) pe t ds ctx s A M r ck cs/\
   Steps X.C.P (lone (aV X.fi X.ro tm (.inRegion X.ops (i::L)::X.k) ck .run) cs w) (lone (aV X.fi X.ro r (.inRegion X.ops L::X.k) ck .run) cs M):=by
 obtain⟨o,v,ho,l,e,p⟩:=K;obtain⟨tJ,u,B⟩:=Dk h.tm _ (λd q=>gQ.jl d q);obtain⟨S,r2,T,U⟩:=CO j Z ho;have f:∀d,has (mh X.ops.toList o) d=true->tJ.get d=t.get d:=λd q=>B d (h.aaH j (.inl V) Z N (by rw[r2];exact q))
 have e1:eo X.ops o.guard tJ=eo X.ops o.guard t:=kl X.ops o λd q=>f d (iU q)
 have e2:sF o.op o.type X.C tJ s=sF o.op o.type X.C t s:=MA o.op o.type s λd q=>f d (qg q)
 have F:=vU u X.ops o;rw[e1]at F;unfold UQ at e;cases g:eo X.ops o.guard t with
 |bad m=>rw[g]at e;cases e
 |ask n k=>rw[g]at e;cases e
 |must pc k=>rw[g]at e;cases e
 |ok b=>
  rw[g]at e F;have y:Region.wanted o (yielded X.ops tm)=b:=F;cases b with
  |false=>have z:(R.ok iK:R AV)=.ok v:=e;injection z with z;subst z;exact⟨E,w,_,h.exec V ho (Step.refl h.step.rel) jb p,.one (zi ho y)⟩
  |true=>have O:evQ o X.C t s=.ok v:=e;have G:=a7R l O;have I:=CT J h.step.rel (a:=⟨tm,ck⟩) u o;rw[e2,G]at I;obtain⟨A,c,M,Q,z,H⟩:=I;exact⟨A,M,_,h.exec V ho H z p,.one (F6 ho y (.inr (PG l)) Q)⟩
theorem a39(hC:Good X.C)(I1:lQ X.ops X.all)(h:gQ X D Ld pe t ds ctx s E w tm ck cs)(V:has D.Cz i=true)(hn:i ∉ Ld){x:PO}(Z:dR X.all i=some x)
  (hb:∀k,has x.before k=true->k∈Ld) (L:List Nat):
  ∃A M tm',gQ X D (i::Ld) pe t ds ctx s A M tm' ck cs/\
   Steps X.C.P (lone (aV X.fi X.ro tm (.inRegion X.ops (i::L)::X.k) ck .run) cs w) (lone (aV X.fi X.ro tm' (.inRegion X.ops L::X.k) ck .run) cs M):=by
 obtain⟨o,ho,adf,hal⟩:=h.al1 i V hn;obtain⟨tJ,htJ,hag⟩:=Dk h.tm _ (λd hd=>gQ.jl d hd);obtain⟨r1,r2,r3,r4⟩:=CO I1 Z ho;have J:∀d,has (mh X.ops.toList o) d=true->tJ.get d=t.get d:=λd hd=>hag d (h.aaH I1 (.inr V) Z hb (by rw[r2];exact hd))
 have e1:eo X.ops o.guard tJ=eo X.ops o.guard t:=kl X.ops o λd hd=>J d (iU hd)
 have e2:aF o.op X.C tJ=aF o.op X.C t:=a1U o.op λd hd=>J d (qg hd)
 have hw:=vU htJ X.ops o;rw[e1]at hw;have F:∀d,DJ X D Ld d->DJ X D (i::Ld) d\/o.dst=some d:=by
  rintro d ⟨k,T,I,Y,W,U⟩;by_cases hki:k=i
  .grind
  .exact .inl ⟨k,T,I,by simp[hki,Y],W,U⟩
 have abl:∀k,k∈i::Ld->has D.done k=true:=by
  intro k hk;rcases cC.1 hk with rfl|hk
  .exact h.xY k V
  .exact h.Sx k hk
 rcases hal with⟨g1,g2,g3⟩|⟨g1,ak,aO,id,g2,g3,g4,g5,g6,g7,g8⟩
 .rw[g1]at hw;have hw':Region.wanted o (yielded X.ops tm)=false:=hw;refine⟨E,w,_,⟨h.step,h.ro,h.ds,h.ctx,h.cs,abl,λk hk=>bQ _ (h.sL k hk),h.kinds,h.B5,h.xY,h.two,h.fl,h.evc,h.pw,λk hk=>bQ _ (h.r6 k hk),
   h.tm.a64 o.dst jb g3 F,h.Rk,h.nM,h.ids,h.Gc,h.Xk,λk hk R=>h.al1 k hk (λhm=>R (bQ _ hm)),?_⟩,.one (zi ho hw')⟩
  intro k hk y hon;rcases cC.1 y with rfl|y
  .intro id aO G;rw[g2]at G;cases G
  .exact h.al2 k hk y hon
 .rw[g1]at hw;have hw':Region.wanted o (yielded X.ops tm)=true:=hw;have G:=a3g hC h.step.rel (a:=⟨tm,ck⟩) htJ o;rw[e2,g2]at G;obtain⟨obj,dl,cp,cv,hr,adh,abp⟩:=G;have c:Grow E (ghost E id ⟨w.heap.size,dl,cp,none⟩):=Ht g5;have g:ghost E id ⟨w.heap.size,dl,cp,none⟩ id=some ⟨w.heap.size,dl,cp,none⟩:=by simp[ghost]
  have a0v:=h.step.rel.ghost g5 g7 g6 ⟨w.heap.size,dl,cp,none⟩ obj rfl;have hlv:∀k,Live (ghost E id ⟨w.heap.size,dl,cp,none⟩) s k->Live E s k:=by
   rintro k ⟨m,S,l2,v,Q,q3,q4⟩;have:m≠id:=λe=>by rw[e,g7]at v;cases v
   simp only[ghost,this,br]at q3;exact⟨m,S,l2,v,Q,q3,q4⟩
  have z:∀b:Nat->Prop,dD X.C E s w b->dD X.C (ghost E id ⟨w.heap.size,dl,cp,none⟩) s (w.alloc obj) b:=λb hZ=>
   Sm (by rw[qz];omega) (λk hk _=>by rw[fb hk];exact tM (fb hk)) (λk _=>hlv k) (λj O d v Q=>by
    by_cases e:j=id
    .simp only[ghost,e,bc,aD]at v;subst v;cases Q
    .simp only[ghost,e,br]at v;exact⟨j,O,v,Q⟩) hZ
  have aa9:Step X.C X.base X.Qo X.s0 X.w0 (ghost E id ⟨w.heap.size,dl,cp,none⟩) s (w.alloc obj):=by
   refine⟨h.step.grow.trans c,a0v,⟨?_,h.step.keep.tape,h.step.keep.os,h.step.keep.output,λk T hk hnl=>tM (h.step.keep.stays k T hk hnl)⟩,?_,h.step.next,h.step.Xi,?_,h.step.p0,λb hZ hg=>z b (h.step.rdz b hZ hg)⟩
   .have:=h.step.keep.size;rw[qz];omega
   .rintro k ⟨m,S,l2,v,Q,q3,q4⟩ hk;have:m≠id:=λe=>by rw[e,g7]at v;cases v
    simp only[ghost,this,br]at q3;exact h.step.live k ⟨m,S,l2,v,Q,q3,q4⟩ hk
   .intro j O hj;by_cases hjd:j=id
    .subst hjd;rw[g]at hj;obtain rfl:=ae hj;exact .inr ⟨g8,.inl h.step.keep.size⟩
    .simp only[ghost,hjd,br]at hj;exact h.step.Se j O hj
  refine⟨ghost E id ⟨w.heap.size,dl,cp,none⟩,w.alloc obj,pU tm o.dst cv,⟨aa9,h.ro.grow c,df c h.ds,h.ctx.grow c,h.cs,abl,λk hk=>bQ _ (h.sL k hk),h.kinds,
   h.B5,h.xY,h.two,h.fl,h.evc,h.pw,λk hk=>bQ _ (h.r6 k hk),(h.tm.grow c).a64 o.dst (abp _ id g) g4 F,h.Rk,h.nM,h.ids,?_,?_,?_,?_⟩,
   .one (F6 ho hw' (.inr (Qf adf)) hr)⟩
  .
   intro k1 k2 n m b1 S l1 l2 f B Mq q H;have K:∀k3 id3 b3,dW k3 pe=some (id3,b3)->(id3=id↔k3=i):=λk3 id3 b3 G=>by
    constructor
    .intro e;exact h.ids k3 i id b3 aO (by rw[<-e];exact G) g3
    .intro e;subst e;rw[g3]at G;injection G with G;injection G with G _;exact G.symm
   by_cases c1:k1=i
   .by_cases c2:k2=i
    .exact absurd (c1.trans c2.symm) Mq
    .have e1:=(K k1 n b1 f).2 c1;have e2:m≠id:=λe=>c2 ((K k2 m S B).1 e)
     subst e1;rw[g]at q;obtain rfl:=ae q;simp only[ghost,e2,br]at H;have:=h.Xk k2 m S l2 B H;simp only;omega
   .have e1:n≠id:=λe=>c1 ((K k1 n b1 f).1 e)
    simp only[ghost,e1,br]at q;by_cases c2:k2=i
    .have e2:=(K k2 m S B).2 c2;subst e2;rw[g]at H;obtain rfl:=ae H;have:=h.Xk k1 n b1 l1 f q;simp only;omega
    .have e2:m≠id:=λe=>c2 ((K k2 m S B).1 e)
     simp only[ghost,e2,br]at H;exact h.Gc k1 k2 n m b1 S l1 l2 f B Mq q H
  .intro k1 n b1 l1 f q;by_cases e:n=id
   .subst e;rw[g]at q;obtain rfl:=ae q;rw[qz];simp only;omega
   .simp only[ghost,e,br]at q;have:=h.Xk k1 n b1 l1 f q;rw[qz];omega
  .intro k hk R;have hki:k≠i:=λe=>R (by simp[e])
   obtain⟨T,v,Q,q3⟩:=h.al1 k hk (λhm=>R (bQ _ hm));refine⟨T,v,Q,?_⟩;rcases q3 with q3|⟨p1,ak',a8Z,u,p2,p3,p4,p5,p6⟩
   .exact .inl q3
   .refine .inr ⟨p1,ak',a8Z,u,p2,p3,p4,?_,p6⟩;have:u≠id:=λe=>hki (h.ids k i u a8Z aO p3 (by rw[e];exact g3))
    simp[ghost,this,p5]
  .intro k hk y hon;rcases cC.1 y with rfl|y
   .intro n ab6 f;rw[g3]at f;injection f with f;injection f with f B;subst f;subst B;refine⟨⟨w.heap.size,dl,cp,none⟩,obj,g,Xd w obj,adh _ c,?_,g7,g6,g8,h.step.keep.size,z _ λj O d v Q=>Dt.ej.stays (λk hf=>⟨⟨hf.1,hf.2.1,gE hf.1⟩,rfl⟩) d (h.step.rel.rd j O d v Q)⟩;intro u N O p r;have Mq:u≠id:=λe=>by rw[e,g7]at p;cases p
    simp only[ghost,Mq,br]at r;obtain⟨l3,o3,z1,z2,_⟩:=h.step.rel.aO u N p;rw[r]at z1;obtain rfl:=ae z1;have Pv:O.aO<w.heap.size:=by
     rcases ed O.aO w.heap.size with h'|h'
     .exact h'
     .rw[Array.getElem?_eq_none h']at z2;cases z2
    simp only;omega
   .intro n ab6 f;obtain⟨l,o1,f1,f2,f3,f4,f5,f6,f7,f8,f9⟩:=h.al2 k hk y hon n ab6 f;have ac2:n≠id:=λe=>by rw[e,g5]at f1;cases f1
    refine⟨l,o1,by simp[ghost,ac2,f1],tM f2,f3.mono c ⟨rfl,rfl,rfl⟩,?_,f5,f6,f7,f8,z _ f9⟩;intro u N O p r;have e:u≠id:=λe=>by rw[e,g7]at p;cases p
    simp only[ghost,e,br]at r;exact f4 u N O p r
end
end Go.Proofs.YtokipodjggomfaaGreatDoor.Abs
