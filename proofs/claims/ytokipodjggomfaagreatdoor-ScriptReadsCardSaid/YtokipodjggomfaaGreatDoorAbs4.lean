/- Part 4 of an abstract machine that evaluates programs of the model in the kernel. Conditions: those of each theorem. -/
import Derived.Test.YtokipodjggomfaaGreatDoorAbs3
set_option linter.unusedVariables false
set_option linter.unusedSimpArgs false
namespace Go.Proofs.YtokipodjggomfaaGreatDoor.Abs
section
variable{C:Ctx}{base:Nat}{E:G}{s:S}{w:World}{nt:Nat}{t:Tr AV}{a:Act}
theorem fu{elem:TypeId}{i:TI}(V:C.T.get elem=some i){vs:List AV}{cs:List Value}(d:aN E vs=some cs){arr:Array Value}{cp:Nat}
  (I:vs.length<=cp*i.size) (Y:cp*i.size<=arr.size) (W:∀(j:Nat)c,cs[j]? =some c->arr[j]? =some c) (aO:Nat) (fz:Nat) (sg:Bool) (lo H:Nat)
  (e:∀off,lo<=off->off<H->off<fz\/(sg=true/\arr.size<=off)) (f:lo<=H:=by omega):
  ∀A,Grow E A->dC C A ⟨aO,0,cp,none⟩ (.cells elem (Tr.ofList vs) vs.length fz [] false sg) (.cells arr elem (lo,H)):=by
 intro A k;refine⟨arr,lo,H,rfl,by simp;omega,?_,⟨i,V,I,by simp only[eD];omega,0,by simp⟩,λ_ off a b=>by simpa using e off a b,f⟩;intro j v m h;rw[Tr.eP]at h;obtain⟨c,l,g⟩:=mK j v d h;exact⟨c,by simpa using W j c g,.inr (gL k _ _ l)⟩
theorem hJ(P:Program)(elem:TypeId)(arr:Array Value)(w:World):(newRow elem arr).run P w=.ok ⟨w.heap.size,0,none⟩ (w.alloc (.cells arr elem (0,0))):=by simp[newRow]
theorem ZO(f:Good C)(g:Rel C base E s w)(e:TypeId)(rt:TypeId):
  (Uc e rt C t s).path (eY C base E s w ((VS (Instr.alloc e true (.tuple #[]))).run C.P w)):=by
 refine R.bR _ (c6 f e) λi V=>?_
 refine R.bR _ (R.hN _ _) λz h=>?_
 refine R.bR _ (R.bf _ _) λ_ k=>?_
 obtain⟨v,I,Y⟩:=V.2.zero z h;have d:z.length=i.size:=bj k;have b:=Y E;have a:=Step.alloc (base:=base) g (ic e z) (.cells v.cells e (0,0)) 0 1 (M:=w.alloc (.cells v.cells e (0,0))) rfl rfl rfl rfl
  (fu V.1 b (by omega) (by have:=bJ b;simp at this;omega) (λj c l=>by simpa using l) _ 0 false 0 0 (by omega))
 refine⟨_,.pointer (some ⟨w.heap.size,0,none⟩),_,?_,?_,a⟩
 .simp[VS,Instr.alloc,I,newVar,hJ]
 .simp[ai]
theorem a7d(h:Good C)(d:Rel C base E s w)(k:aW E nt t a.tmps)(e:TypeId)(x:Operand)(rt:TypeId):
  (OS e x rt C t s).path (eY C base E s w ((VS (Instr.box e (a.eval x))).run C.P w)):=by
 refine R.bR _ (bO d k x) λv l=>?_
 refine R.bR _ (pW v _ l) λz f=>?_
 refine R.bR _ (c6 h e) λi V=>?_
 refine R.bR _ (R.bf _ _) λ_ m=>?_
 have g:z.length=i.size:=bj m;have b:=Step.alloc (base:=base) d (ic e z) (.cells (a.eval x).cells e (0,0)) 0 1 (M:=w.alloc (.cells (a.eval x).cells e (0,0))) rfl rfl rfl rfl
  (fu V.1 f (by omega) (by have:=bJ f;simp at this;omega) (λj c n=>by simpa using n) _ 0 false 0 0 (by omega))
 refine⟨_,.pointer (some ⟨w.heap.size,0,none⟩),_,?_,?_,b⟩
 .simp[VS,Instr.box,newVar,hJ]
 .simp[ai]
theorem Ke(off:Nat):∀(l:List Value)(k:Nat)(arr:Array Value),off+k+l.length<=arr.size->
  ((l.zipIdx k).foldl (λcs(c,j)=>cs.setIfInBounds (off+j) c) arr).toList=arr.toList.take (off+k)++l++arr.toList.drop (off+k+l.length)
 | [],k,arr,h=>by simp
 |v::l,k,arr,h=>by
  simp only[cD]at h;rw[List.zipIdx_cons,List.foldl_cons,Ke off l (k+1) _ (by simp;omega)];simp only[Array.toList_setIfInBounds,cD];apply List.ext_getElem?;intro j;simp only[pA,cg,c8,List.length_set,y9,vu,List.getElem?_set,tX,cD];rw[Nat.min_eq_left (by omega),Nat.min_eq_left (by omega)];by_cases I:j<off+k
  .grind
  .grind
def a4V(pa pc:Nat->Option (Nat×Nat)):Prop:=∀i x,pa i=some x->pc i=some x
theorem s5{pa pc:Nat->Option (Nat×Nat)}(d:a4V pa pc):∀(ps:List (Nat×AV))(a:List (Nat×Value))(l:List AV)(r:List Value),
  (ps.map (·.1)=a.map (·.1))->(∀(j:Nat)(p:Nat×AV)(q:Nat×Value),ps[j]? =some p->a[j]? =some q->ai E p.2=some q.2)->aN E l=some r->
  (mJ pa ps l).path (λO=>∃r',aN E O=some r'/\O.length=l.length/\Instr.fill pc ⟨r⟩ a=some ⟨r'⟩)
 | [],a,l,r,hk,_,b=>by
   have:a=[]:=by cases a with|nil=>rfl|cons x y=>simp at hk
   subst this;exact⟨r,b,rfl,rfl⟩
 |(i,v)::ps,[],l,r,hk,_,b=>by simp at hk
 |(i,v)::ps,(t,c)::a,l,r,hk,m,b=>by
  simp only[kP,pj]at hk;obtain⟨rfl,hk⟩:=hk;have e:ai E v=some c:=m 0 (i,v) (i,c) (by simp) (by simp);unfold mJ;cases f:pa i with
  |none=>trivial
  |some x=>
   obtain⟨off,size⟩:=x;simp only;refine R.bR _ (pW v c e) λz n=>?_
   cases g:(Nat.beq z.length size&&Nat.ble (Nat.add off size) l.length)with
   |false=>trivial
   |true=>
    simp only[aM]at g;have I:z.length=size:=bj g.1;have Y:off+size<=l.length:=bZ g.2;have h:=bJ n;have o:=bJ b;simp at h;have k:=eU (eU (Ae off b) n) (Af (off+size) b);refine R.aZ ?_ (s5 d ps a _ _ hk (λj p q d s=>m (j+1) p q (by simpa using d) (by simpa using s)) k);rintro O ⟨r',g1,g2,g3⟩;refine⟨r',g1,?_,?_⟩
    .rw[g2];simp;omega
    .rw[Instr.fill,d i _ f];simp only;have:¬((c.cells.size≠size||decide (off+c.cells.size>(Array.mk r).size))=true):=by
      simp;omega
     rw[av this];rw[<-g3];congr 1;apply Array.ext';have:=Ke off c.cells.toList 0 ⟨r⟩ (by simp;omega);simp only[iF]at this;rw[<-Array.foldl_toList,Array.toList_zipIdx];rw[this];simp only[y9];rw[show off+c.cells.size=off+size by omega]
theorem xr(e:Rel C base E s w)(f:aW E nt t a.tmps):∀l:List (Nat×Operand),
  (Mz C t l).path (λps=>ps.map (·.1)=(l.map λ(i,x)=>(i,a.eval x)).map (·.1)/\∀(j:Nat)(p:Nat×AV)(q:Nat×Value),ps[j]? =some p->(l.map λ(i,x)=>(i,a.eval x))[j]? =some q->ai E p.2=some q.2)
 | []=>by refine⟨rfl,?_⟩;intro j p q h;simp at h
 |(i,x)::l=>by
  unfold Mz;refine R.bR _ (bO e f x) λv g=>?_
  refine R.bR _ (xr e f l) λps b=>?_
  refine⟨by simpa using b.1,?_⟩;intro j p q c d;cases j with
  |zero=>simp at c d;subst c;subst d;exact g
  |succ j=>exact b.2 j p q (by simpa using c) (by simpa using d)
theorem DM(b:Good C):∀a:List Field,(xJ C a).path (λpl=>∀w,((a.mapM λf=>do pure (f.offset,<-sizeOf f.type):Sem (List (Nat×Nat)))).run C.P w=.ok pl w)
 | []=>by intro w;simp
 |f::a=>by
  unfold xJ;refine R.bR _ (c6 b f.type) λi V=>?_
  refine R.bR _ (DM b a) λl c=>?_
  intro w;simp only[List.mapM_cons,aS,V.2.size w,bw,bE,c w,bind_assoc,pure_bind]
theorem ZN(o:Good C)(p:Rel C base E s w)(A:aW E nt t a.tmps)(ty:TypeId)(b:Array (Nat×Operand))(rt:TypeId):
  (xz ty b rt C t s).path (eY C base E s w ((VS (Instr.build ty (b.map λ(i,x)=>(i,a.eval x)))).run C.P w)):=by
 refine R.bR _ (xp o ty) λz B=>?_
 obtain⟨_,v,_,_,l,q⟩:=B;refine R.bR _ (xr p A b.toList) λps g=>?_
 refine R.bR _ (b9 o ty) λd y=>?_
 have m:aN E z=some v.cells.toList:=q E;have f:(b.map λ(i,x)=>(i,a.eval x)).toList=b.toList.map λ(i,x)=>(i,a.eval x):=by simp
 cases d with
 |struct D=>
  refine R.bR _ (DM o D.toList) λpl u=>?_
  refine R.bR _ (s5 (E:=E) (pa:=nth pl) (pc:=λi=>pl[i]?) (λi x h=>by rw[wg]at h;exact h) ps _ z _ g.1 g.2 m) λcs j=>?_
  obtain⟨r,I,_,W⟩:=j;refine fh p (c:=.agg ⟨r⟩) ?_ (by simp[ai,I]);unfold Instr.build;simp only[aS,l w,bw,gC y w,Array.mapM_eq_mapM_toList,Sem.run_map,u w,f];have:Instr.fill (λx=>(List.toArray pl)[x]?) v.cells (b.toList.map λ(i,x)=>(i,a.eval x))=some ⟨r⟩:=by rw[<-W];congr 1;funext x;simp
  rw[this];rfl
 |array n e=>
  refine R.bR _ (c6 o e) λi V=>?_
  refine R.bR _ (s5 (E:=E) (pa:=λk=>some (Nat.mul k i.size,i.size)) (pc:=λk=>some (k*i.size,i.size)) (λ_ x h=>h) ps _ z _ g.1 g.2 m) λcs j=>?_
  obtain⟨r,I,_,W⟩:=j;refine fh p (c:=.agg ⟨r⟩) ?_ (by simp[ai,I]);unfold Instr.build;simp only[aS,l w,bw,gC y w,V.2.size w,f];have:Instr.fill (λk=>some (k*i.size,i.size)) v.cells (b.toList.map λ(i,x)=>(i,a.eval x))=some ⟨r⟩:=by rw[<-W]
  rw[this];rfl
 |_=>trivial
theorem uW{E:G}{z:List AV}{r:List Value}(h:aN E z=some r):∀n,∃q,aN E (N7 z n)=some q/\q.length=n*r.length/\∀j,j<n*r.length->q[j]? =r[j%r.length]?
 |0=>⟨[],by simp[N7,aN],by simp,by simp⟩
 |n+1=>by
  obtain⟨q,I,Y,W⟩:=uW h n;refine⟨r++q,eU h I,by simp[Y,Nat.succ_mul,Nat.add_comm],?_⟩;intro j c;rw[pA];split
  .next b=>rw[mv b]
  .next d=>
   have a:r.length<=j:=by omega
   rw[W (j-r.length) (by rw[Nat.succ_mul]at c;omega)];rw[Nat.mod_eq_sub_mod a]
theorem IL(u:Good C)(K:Rel C base E s w)(N:aW E nt t a.tmps)(ty:TypeId)(len:Nat)(b:Array (Nat×Operand))(rt:TypeId):
  (lC ty len b rt C t s).path (eY C base E s w ((VS (Instr.buildSlice ty len (b.map λ(i,x)=>(i,a.eval x)))).run C.P w)):=by
 refine R.bR _ (b9 u ty) λd O=>?_
 cases d with
 |slice e=>
  refine R.bR _ (c6 u e) λi V=>?_
  refine R.bR _ (R.bf _ _) λ_ Q=>?_
  have S:len*i.size<=16777216:=bZ Q;refine R.bR (λz=>∃r,aN E z=some r/\(len*i.size≠0->r.length=i.size/\∃v:Value,(zeroValue e).run C.P w=.ok v w/\r=v.cells.toList)/\(len*i.size=0->z=[])) ?_ λz y=>?_
  .unfold EJ;cases A:Nat.beq (Nat.mul len i.size) 0
   .have B:len*i.size≠0:=λh=>by rw[show Nat.mul len i.size=0 from h]at A;cases A
    refine R.bR _ (xp u e) λz y=>?_
    obtain⟨_,v,_,_,I,Y⟩:=y;refine R.bR _ (R.bf _ _) λ_ D=>?_
    refine⟨_,Y E,λ_=>⟨?_,v,I w,rfl⟩,λh=>absurd h B⟩;have:=bJ (Y E);rw[this];exact bj D
   .have T:len*i.size=0:=bj A;exact⟨[],rfl,λh=>absurd T h,λ_=>rfl⟩
  .obtain⟨r,U,F,W⟩:=y;refine R.bR _ (xr K N b.toList) λps m=>?_
   obtain⟨q,n,X,Z⟩:=uW U len;refine R.bR _ (s5 (E:=E) (pa:=λk=>some (Nat.mul k i.size,i.size)) (pc:=λk=>some (k*i.size,i.size)) (λ_ x h=>h) ps _ _ _ m.1 m.2 n) λcs G=>?_
   obtain⟨r',g1,g2,g3⟩:=G;have g:(b.map λ(i,x)=>(i,a.eval x)).toList=b.toList.map λ(i,x)=>(i,a.eval x):=by simp
   have H:q.length=len*i.size:=by grind[aN]
   have hcl:cs.length=len*i.size:=by rw[g2,<-bJ n,H]
   have l:=Step.alloc (base:=base) K (ic e cs) (.cells ⟨r'⟩ e (0,0)) 0 len (M:=w.alloc (.cells ⟨r'⟩ e (0,0))) rfl rfl rfl rfl
    (fu V.1 g1 (by omega) (by have:=bJ g1;simp;omega) (λj c L=>by simpa using L) _ 0 false 0 0 (by omega))
   refine⟨_,.slice (some ⟨w.heap.size,0,none⟩) len len,_,?_,by simp[ai],l⟩;have o:¬(len*i.size>2^24):=by omega
   unfold VS Instr.buildSlice;simp only[aS,gC O w,bw,V.2.size w,av o,pure_bind,g,bind_assoc];have f:∀zv:Array Value,(len*i.size≠0->zv.toList=r)->Instr.fill (λk=>some (k*i.size,i.size)) (Array.map (λx=>zv[x%zv.size]!) (Array.range (len*i.size))) (b.toList.map λ(i,x)=>(i,a.eval x))=some ⟨r'⟩:=by
    intro zv hzv;rw[<-g3];congr 1;apply Array.ext';apply List.ext_getElem?;intro j;simp only[Array.toList_map,Array.toList_range,kh];by_cases L:j<len*i.size
    .grind
    .grind
   by_cases p:len*i.size=0
   .simp only[p,bc,bE];have:=f #[] (λh=>absurd p h);rw[p]at this;simp only[aS,bE,bw,this,hJ]
   .obtain⟨_,v,hv,J⟩:=F p;have:=f v.cells (λ_=>J.symm);simp only[av p,aS,hv,bw,bE,this,hJ]
 |_=>trivial
end
section
variable{C:Ctx}{base:Nat}{E:G}{s:S}{w:World}{nt:Nat}{t:Tr AV}{a:Act}
theorem wrap_small(n:Nat)(h:n<=1099511627776):IntKind.i64.wrap (n:Int)=(n:Int):=by
 have I:((n:Int)%(2^IntKind.i64.bits:Int))=n:=by show(n:Int)%(18446744073709551616:Int)=n;omega
 unfold IntKind.wrap;simp only[I];rw[av];simp only[aM,rC,not_and];intro _;show¬((n:Int) ≥ (9223372036854775808:Int));omega
theorem Xn{r:List Value}{n m:Nat}(b:n=m*r.length)(zv:Array Value)(c:n≠0->zv.toList=r){q:List Value}
 (d:q.length=n) (a:∀j,j<n->q[j]? =r[j%r.length]?):Array.map (λx=>zv[x%zv.size]!) (Array.range n)=⟨q⟩:=by grind
end
section
variable{C:Ctx}{base:Nat}{E:G}{s:S}{w:World}{nt:Nat}{t:Tr AV}{a:Act}
def sP:Option Nat->Option Value->Prop
 |none,none=>True
 |some n,some c=>∃k,c=.int k (.ofNat n)
 |_,_=>False
theorem Gz(b:Rel C base E s w)(d:aW E nt t a.tmps)(x:Option Operand):
  (evO C t x).path (λv=>match v,x.map a.eval with|none,none=>True|some v,some c=>ai E v=some c|_,_=>False):=by
 cases x with
 |none=>trivial
 |some x=>
  refine R.bR _ (bO b d x) λv e=>?_
  exact e
theorem vV(v:Option AV)(c:Option Value)(h:match v,c with|none,none=>True|some v,some c=>ai E v=some c|_,_=>False):
  (LQ v).path (λn=>sP n c):=by
 cases v with
 |none=>cases c with
  |none=>trivial
  |some c=>exact h.elim
 |some v=>cases c with
  |none=>exact h.elim
  |some c=>
   refine R.bR _ (pX v) λn a=>?_
   obtain⟨k,rfl⟩:=a;simp only[ai,aD]at h;exact⟨k,h.symm⟩
theorem run_sliceBound{P:Program}(k:IntKind)(n y:Nat)(code:BoundsCode)(h:n<=y)(w:World):(Instr.sliceBound (.int k (n:Int)) y code).run P w=.ok n w:=by have a:(0:Int)<=(n:Int)/\(n:Int)<=(y:Int):=⟨od n,Int.ofNat_le.2 h⟩;simp only[Instr.sliceBound,asIntOf,pure_bind,a,and_self,bc];rfl
theorem h2{P:Program}(b:Bool)(len cap:Nat){lo V f:Option Nat}{a d e:Option Value}(I:sP lo a)(Y:sP V d)(W:sP f e)
  (g:inB (lo.getD 0) (V.getD len) (f.getD cap) cap V f=true) (w:World):
  (Instr.sliceBounds b len cap a d e).run P w=.ok (lo.getD 0,V.getD len,f.getD cap) w:=by
 simp only[inB,aM]at g;obtain⟨⟨⟨g1,g2⟩,g3⟩,g4⟩:=g;have g1:=bZ g1;have g2:=bZ g2;have g3:=bZ g3;unfold Instr.sliceBounds;cases f with
 |none=>
  cases e with
  |some c=>exact W.elim
  |none=>
   cases V with
   |none=>cases d with
    |some c=>exact Y.elim
    |none=>cases lo with
     |none=>cases a with
      |some c=>exact I.elim
      |none=>rfl
     |some l=>cases a with
      |none=>exact I.elim
      |some c=>obtain⟨k,rfl⟩:=I;simp only[Option.getD]at g1 g2 g3 ⊢;simp[run_sliceBound _ _ _ _ g3]
   |some h=>cases d with
    |none=>exact Y.elim
    |some c=>
     obtain⟨k,rfl⟩:=Y;cases lo with
     |none=>cases a with
      |some c=>exact I.elim
      |none=>simp only[Option.getD]at g1 g2 g3 ⊢;simp[run_sliceBound _ _ _ _ g2]
     |some l=>cases a with
      |none=>exact I.elim
      |some c=>obtain⟨k',rfl⟩:=I;simp only[Option.getD]at g1 g2 g3 ⊢;simp[run_sliceBound _ _ _ _ g2,run_sliceBound _ _ _ _ g3]
 |some m=>
  cases e with
  |none=>exact W.elim
  |some i=>
   obtain⟨j,rfl⟩:=W;cases V with
   |none=>simp at g4
   |some h=>cases d with
    |none=>exact Y.elim
    |some c=>
     obtain⟨k,rfl⟩:=Y;cases lo with
     |none=>cases a with
      |some c=>exact I.elim
      |none=>simp only[Option.getD]at g1 g2 g3 ⊢;simp[run_sliceBound _ _ _ _ g2,run_sliceBound _ _ _ _ g1]
     |some l=>cases a with
      |none=>exact I.elim
      |some c=>obtain⟨k',rfl⟩:=I;simp only[Option.getD]at g1 g2 g3 ⊢;simp[run_sliceBound _ _ _ _ g2,run_sliceBound _ _ _ _ g3,run_sliceBound _ _ _ _ g1]
theorem RP(m a off g aO dl:Nat):(if m=a then(⟨aO,dl+off,none⟩:Addr)else Addr.add ⟨aO,dl+off,none⟩ (a*g))=⟨aO,dl+Fb m a off g,none⟩:=by
 unfold Fb;by_cases h:m=a
 .subst h;simp
 .have:Nat.beq m a=false:=by
    cases b:Nat.beq m a
    .rfl
    .exact absurd (bj b) h
  rw[av h,this,addr_add];simp only;congr 1;show dl+off+a*g=dl+(off+a*g);omega
theorem u7(l:List UInt8)(a h:Nat):(ByteArray.mk ⟨l⟩).extract a h=⟨⟨(l.take h).drop a⟩⟩:=by apply ByteArray.ext;simp only[ByteArray.data_extract];apply Array.ext';simp[List.extract,List.drop_take]
theorem yl(v:Option AV)(c:Option Value)(h:match v,c with|none,none=>True|some v,some c=>ai E v=some c|_,_=>False)(d:SE)(a:Nat)(b:ax E d=some (.val (.int .i64 a))):
  (F5 v d).path (λl=>∃q n,ax E l=some (.val (.int q n))/\∀n':Nat,n=n'->∃o,sP o c/\o.getD a=n'):=by
 cases v with
 |none=>cases c with
  |none=>exact⟨_,_,b,λn' e=>⟨none,eI,by show a=n';omega⟩⟩
  |some c=>exact h.elim
 |some v=>cases c with
  |none=>exact h.elim
  |some c=>
   show(match zJ (Es v)with|true=>R.ok (ea v)|false=>R.bad _).path _;cases V:zJ (Es v)with
   |false=>exact R.bg _ _
   |true=>obtain⟨q,f⟩:=uQ V;obtain⟨n,I,Y⟩:=zj h f;exact⟨q,n,I,λn' e=>⟨some n',⟨q,by rw[Y,e];rfl⟩,rfl⟩⟩
theorem Ot(B:Rel C base E s w){d:TypeDesc}{ty:TypeId}(D:C.P.underlying ty=some d){x:AV}{F:Value}(H:ai E x=some F)(i j k:Option AV)(a b m:Option Value)
  (t:match i,a with|none,none=>True|some v,some c=>ai E v=some c|_,_=>False) (u:match j,b with|none,none=>True|some v,some c=>ai E v=some c|_,_=>False)
  (y:match k,m with|none,none=>True|some v,some c=>ai E v=some c|_,_=>False):
  (QQ s d x i j k).path (λr=>∃c,ai E r=some c/\(Instr.sliceAt ty F a b m).run C.P w=.ok c w):=by
 unfold QQ;cases d<;>first|exact R.bg _ _|skip
 cases hk:Es x<;>first|exact R.bg _ _|skip
 cases k with
 |some _=>exact R.bg _ _
 |none=>
  cases m with
  |some _=>exact y.elim
  |none=>
   obtain⟨str,I,rfl⟩:=K8 H hk;have g:ax E (.a1 .len (ea x))=some (.val (.int .i64 str.size)):=by simp only[ax,I,bn,Go.Proofs.YtokipodjggomfaaGreatDoor.Abs.e1]
   refine R.bR _ (yl i a t (.int .i64 0) 0 rfl) λl J=>?_
   refine R.bR _ (yl j b u (.a1 .len (ea x)) str.size g) λh hh=>?_
   obtain⟨K,n,g1,g2⟩:=J;obtain⟨L,o,g3,g4⟩:=hh
   suffices key:0<=n/\n<=o/\o<=(str.size:Int)->(R.ok (AV.cE .str (.a3 .sub (ea x) l h))).path (λr=>∃c,ai E r=some c/\(Instr.sliceAt ty (.string str) a b none).run C.P w=.ok c w) by
    cases z:U3 (ea x) s.pc l h with
    |true=>exact key (SD (λf M=>(B.pc f M).2) I z g1 g3)
    |false=>
     refine R.gb B λN=>key ?_
     rcases EY (0<=n/\n<=o/\o<=(str.size:Int))with h|h
     .exact h
     .exact absurd ⟨K,n,L,o,_,rfl,h⟩ (j6 N (ID g1 g3 g))
   intro A;obtain⟨m1,rfl⟩:=fK A.1;obtain⟨m2,rfl⟩:=fK (Int.le_trans A.1 A.2.1);obtain⟨O,i1,p⟩:=g2 m1 rfl;obtain⟨G,i2,q⟩:=g4 m2 rfl;refine⟨_,eA (d:=.val (.string ⟨⟨(str.data.toList.take m2).drop m1⟩⟩)) ?_ ⟨_,rfl⟩ rfl,?_⟩
   .simp only[ax,I,g1,g3,bn,e3];simp
   .have Q:inB (O.getD 0) (G.getD str.size) ((none:Option Nat).getD str.size) str.size G none=true:=by
      rw[p,q];simp only[inB,Option.getD,Option.isNone,Bool.or_true,Bool.and_true,aM,Nat.ble_eq];omega
    have:=h2 (P:=C.P) false str.size str.size i1 i2 (show sP none none from trivial) Q w;rw[p,q]at this;unfold Instr.sliceAt;rw[bb D];simp only[Instr.slice];rw[bb D];simp only[Option.isSome_none,fa,br,aS,this,bw,bE];have e:str.extract m1 m2=⟨⟨(str.data.toList.take m2).drop m1⟩⟩:=by
     have:=u7 str.data.toList m1 m2
     rwa [<-zh]at this
    rw[e];rfl
theorem qT{l:Loc}{n c:Nat}(I:n<=c)(Y:c<=l.cp):Yd l (.val (.int .i64 (.ofNat n))) (.val (.int .i64 (.ofNat c)))=some (.slice (some ⟨l.aO,l.dl,none⟩) n c):=by show(if n<=c/\c<=l.cp then _ else _)=_;rw[aJ ⟨I,Y⟩]
theorem Oy(O:Good C)(Q:Rel C base E s w){d:TypeDesc}{ty:TypeId}(K:C.P.underlying ty=some d){b:Nat}{n c:SE}{L:Value}(M:ai E (.iI b n c)=some L)(g t u:Option AV)(a f x:Option Value)
  (j:match g,a with|none,none=>True|some v,some c=>ai E v=some c|_,_=>False) (y:match t,f with|none,none=>True|some v,some c=>ai E v=some c|_,_=>False)
  (D:match u,x with|none,none=>True|some v,some c=>ai E v=some c|_,_=>False):
  (SB C s d b n c g t u).path (λr=>∃c,ai E r=some c/\(Instr.sliceAt ty L a f x).run C.P w=.ok c w):=by
 unfold SB;cases d<;>first|exact R.bg _ _|skip
 rename_i e;refine R.bR _ (c6 O e) λi H=>?_
 cases u with
 |some _=>exact R.bg _ _
 |none=>
  cases x with
  |some _=>exact D.elim
  |none=>
   simp only;cases N:S4 g with
   |false=>exact R.bg _ _
   |true=>
    obtain⟨B,k,q,S,F,G,hk,T,rfl⟩:=ja M;have low:∃o:Option Nat,sP o a/\o.getD 0=0:=by
     cases g with
     |none=>cases a with
      |none=>exact⟨none,eI,rfl⟩
      |some _=>exact j.elim
     |some v=>cases a with
      |none=>exact j.elim
      |some cl=>
       cases v<;>first|(cases N;done)|skip
       rename_i U m;have A:m=0:=b7 N;subst A;simp only[ai,aD]at j;exact⟨some 0,⟨U,j.symm⟩,rfl⟩
    obtain⟨lo,z,l⟩:=low;have fin:∀(o:Option Nat)(m:Nat)(r:AV),sP o f->o.getD k=m->m<=k->ai E r=some (.slice (some ⟨B.aO,B.dl,none⟩) m q)->
      ∃c,ai E r=some c/\(Instr.sliceAt ty (.slice (some ⟨B.aO,B.dl,none⟩) k q) a f none).run C.P w=.ok c w:=by
     intro o m r ho A V W;refine⟨_,W,?_⟩;have X:inB (lo.getD 0) (o.getD k) ((none:Option Nat).getD q) q o none=true:=by rw[l,A];simp only[inB,Option.getD,Option.isNone,Bool.or_true,Bool.and_true,aM,Nat.ble_eq];omega
     have:=h2 (P:=C.P) true k q z ho (show sP none none from trivial) X w;rw[l,A]at this;simp only[Option.getD_none]at this;unfold Instr.sliceAt;rw[bb K];simp only[Instr.slice];rw[bb K];simp only[aS,this,bw,H.2.size w,bE,Nat.sub_zero,mr,cM,Addr.add,bc,ite_self]
    cases t with
    |none=>
     cases f with
     |some _=>exact y.elim
     |none=>exact fin none k _ trivial rfl (bD _) M
    |some h=>
     cases f with
     |none=>exact y.elim
     |some ch=>
      simp only;cases J:r8 (Es h) (.int .i64)with
      |false=>exact R.bg _ _
      |true=>
       obtain⟨m,I,Y⟩:=zj y (kA J);refine R.gb Q λZ=>?_
       have hb:0<=m/\m<=(k:Int):=by
        rcases EY (0<=m/\m<=(k:Int))with h|h
        .exact h
        .exact absurd ⟨.i64,0,.i64,m,_,rfl,λhh=>h hh.2⟩ (j6 Z (ID (show ax E (.int .i64 0)=some (.val (.int .i64 0))from rfl) I F))
       obtain⟨p,rfl⟩:=fK hb.1;refine fin (some p) p _ ⟨.i64,by rw[Y];rfl⟩ rfl (by omega) ?_;simp only[ai,S,I,G,bn];exact qT (by omega) T
theorem ok_slice(K:Good C)(z:Rel C base E s w)(S:aW E nt t a.tmps)(ty:TypeId)(x:Operand)(lo V L:Option Operand)(rt:TypeId):
  (xw ty x lo V L rt C t s).path (eY C base E s w ((VS (Instr.sliceAt ty (a.eval x) (lo.map a.eval) (V.map a.eval) (L.map a.eval))).run C.P w)):=by
 refine R.bR _ (bO z S x) λv p=>?_
 refine R.bR _ (Gz z S lo) λf D=>?_
 refine R.bR _ (Gz z S V) λj F=>?_
 refine R.bR _ (Gz z S L) λk G=>?_
 refine R.bR (λr=>∃c,ai E r=some c/\(Instr.sliceAt ty (a.eval x) (lo.map a.eval) (V.map a.eval) (L.map a.eval)).run C.P w=.ok c w) ?_ λr hr=>(let⟨c,I,Y⟩:=hr;fh z Y I)
 by_cases M:∃b n c,v=.iI b n c
 .obtain⟨b,n,c,rfl⟩:=M;refine R.bR _ (b9 K ty) λd u=>?_
  exact Oy K z u p f j k _ _ _ D F G
 have N:NN C s ty v f j k=K7 C s ty v f j k:=by cases v<;>first|rfl|exact absurd ⟨_,_,_,rfl⟩ M
 rw[N];unfold K7;cases hq:Hi v||Ml f||Ml j with
 |true=>
  refine R.bR _ (b9 K ty) λd u=>?_
  exact Ot z u p f j k _ _ _ D F G
 |false=>
 refine R.bR _ (vV f _ D) λl U=>?_
 refine R.bR _ (vV j _ F) λh hh=>?_
 refine R.bR _ (vV k _ G) λm T=>?_
 refine R.bR _ (b9 K ty) λd u=>?_
 cases v with
 |str q=>
  cases d with
  |string=>
   refine R.bR _ (R.bf _ _) λ_ y=>?_
   simp only[aM]at y;obtain⟨y,hn⟩:=y;have W:m=none:=by cases m<;>simp_all
   subst W;cases X:L.map a.eval with
   |some _=>rw[X]at T;exact T.elim
   |none=>simp only[ai,aD]at p;refine⟨_,rfl,?_⟩;unfold Instr.sliceAt;rw[bb u];simp only[Instr.slice];rw[bb u];rw[<-p];have Z:(ByteArray.mk ⟨q⟩).size=q.length:=rfl;have:=h2 (P:=C.P) false q.length q.length U hh (show sP none none from trivial) (by simpa using y) w;simp only[Option.isSome_none,fa,br,Z,aS,this,bw,bE,u7]
  |_=>trivial
 |sl b off len cap=>
  cases d with
  |slice e=>
   refine R.bR _ (c6 K e) λi H=>?_
   refine R.bR _ (R.bf _ _) λ_ y=>?_
   simp only[ai,bk]at p;obtain⟨B,o,he⟩:=p;refine⟨.slice (some ⟨B.aO,B.dl+Fb (m.getD cap) (l.getD 0) off i.size,none⟩) (h.getD len-l.getD 0) (m.getD cap-l.getD 0),by simp[ai,o],?_⟩;unfold Instr.sliceAt;rw[bb u];simp only[Instr.slice];rw[bb u];rw[<-he];have:=h2 (P:=C.P) true len cap U hh T y w;simp only[aS,this,bw,H.2.size w,bE,cM];have Y:=RP (m.getD cap) (l.getD 0) off i.size B.aO B.dl;rw[<-Y];split<;>rfl
  |_=>trivial
 |qY b pre e0 len g=>
  cases d with
  |slice e=>
   refine R.bR _ (c6 K e) λi H=>?_
   cases m with
   |none=>
    refine R.bR _ (R.bf _ _) λ_ y=>?_
    simp only[aM]at y;obtain⟨hg1,O⟩:=y;simp only[ai,bk]at p;obtain⟨B,o,he⟩:=p;obtain⟨k1,k2,k3⟩:=BD z H.1 o hg1;have k3':e0+h.getD len<=B.cp:=k3;have adH:l.getD 0<=h.getD len:=bZ O;have hb:inB (l.getD 0) (h.getD len) ((none:Option Nat).getD (B.cp-e0)) (B.cp-e0) h none=true:=by simp only[inB,aM,Option.getD_none];refine⟨⟨⟨w4 (bD _),w4 (by omega)⟩,O⟩,by simp⟩
    have A:=h2 (P:=C.P) true len (B.cp-e0) U hh T hb w;have J:∀v,(∀c,ai E v=some c->c=.slice (if B.cp-e0=l.getD 0 then some ⟨B.aO,B.dl+(if e0<B.cp then e0 else pre)*g,none⟩else(some ⟨B.aO,B.dl+(if e0<B.cp then e0 else pre)*g,none⟩:Option Addr).map (·.add (l.getD 0*i.size))) (h.getD len-l.getD 0) (B.cp-e0-l.getD 0))->
      (∃c,ai E v=some c)->∃c,ai E v=some c/\(Instr.sliceAt ty (a.eval x) (lo.map a.eval) (V.map a.eval) (L.map a.eval)).run C.P w=.ok c w:=by
     rintro v p ⟨c,Q⟩;refine⟨c,Q,?_⟩;rw[p c Q];unfold Instr.sliceAt;rw[bb u];simp only[Instr.slice];rw[bb u];rw[<-he];simp only[Option.getD_none]at A;simp only[aS,A,bw,H.2.size w,bE]
    cases hl0:l.getD 0 with
    |zero=>refine J _ (λc Q=>?_) ⟨_,by simp[ai,o];rfl⟩;simp only[ai,o,cM,aD]at Q;rw[<-Q,hl0];simp only[Nat.sub_zero,mr,cM,Addr.add,bc,ite_self]
    |succ n=>exact R.bg _ _
   |some m=>exact R.bg _ _
  |_=>trivial
 |_=>trivial
end
section
variable{C:Ctx}{base:Nat}{E:G}{s:S}{w:World}{nt:Nat}{t:Tr AV}{a:Act}
theorem wD(E:G):∀l:List UInt8,aN E (nE l)=some (l.map λb=>Value.int .u8 b.toNat)
 | []=>rfl
 |b::l=>by
  show aN E (.int .u8 (.ofNat b.toNat)::nE l)=_;exact aL.2 ⟨_,_,rfl,wD E l,rfl⟩
theorem rv:∀l:List UInt8,(nE l).length=l.length
 | []=>rfl
 |_::l=>by simp[nE,rv l]
theorem ym(t:Good C)(m:Rel C base E s w)(e:TypeId){i:TI}(V:C.T.get e=some i)(x:AV)(o:Value)(Z:ai E x=some o):
  (vE s e i.size x).path (λr=>∃cs,aN E r.2=some cs/\r.2.length=r.1*i.size/\(∀M:World,(Builtin.lenOf o).run C.P M=.ok r.1 M)/\(∀n,n<=r.1->(Builtin.firstCells i.size n o).run C.P w=.ok ⟨cs.take (n*i.size)⟩ w)):=by
 cases x with
 |dq=>simp only[ai,aD]at Z;subst Z;refine⟨[],rfl,by simp,λM=>rfl,λn f=>?_⟩;simp[Builtin.firstCells]
 |str l=>
  simp only[ai,aD]at Z;subst Z;show(match Nat.beq i.size 1 with|true=>R.ok (l.length,nE l)|false=>R.bad _).path _;cases u:Nat.beq i.size 1
  .trivial
  .have I:i.size=1:=bj u;refine⟨_,wD E l,by simp[rv,I],λM=>rfl,λn f=>?_⟩;simp only[Builtin.firstCells,u7,I,Nat.mul_one];rw[bE];congr 1;apply Array.ext';simp[List.map_take]
 |sl b off len cap=>
  simp only[ai,bk]at Z;obtain⟨B,h,rfl⟩:=Z;refine R.bR _ (oW m b off _) λvs c=>?_
  obtain⟨p,cs,I,Y,W,U⟩:=c;rw[h]at I;obtain rfl:=ae I;refine⟨cs,Y,W,λM=>rfl,λn f=>?_⟩;have a:=bJ Y;have d:vs.length=len*i.size:=W;have q:n*i.size<=cs.length:=by rw[a,d];exact kZ _ f
  simp only[Builtin.firstCells];exact eX (λj v k=>by
   rw[vu]at k;split at k
   .exact U j v k
   .cases k) _ (by simp;omega)
 |qY b pre e0 len g=>
  simp only[ai,bk]at Z;obtain⟨B,h,rfl⟩:=Z;refine R.bR _ (R.bf _ _) λ_ y=>?_
  obtain⟨z,G,A⟩:=BD m V h y;have D:e0+len<=B.cp:=A;subst z;refine R.bR _ (oW m b _ _) λvs c=>?_
  obtain⟨p,cs,I,Y,W,U⟩:=c;rw[h]at I;obtain rfl:=ae I;refine⟨cs,Y,W,λM=>rfl,λn f=>?_⟩;have a:=bJ Y;have d:vs.length=len*i.size:=W;have q:n*i.size<=cs.length:=by rw[a,d];exact kZ _ f
  simp only[Builtin.firstCells];by_cases F:len=0
  .subst F;have:n=0:=by omega
   subst this;simp[loadCells,loadCellsFrom]
  .grind[eX]
 |_=>trivial
theorem B0(nl:Nat):∀(r c:Nat),c<=nl->Builtin.growBy nl r c<=nl+(nl+768)/4+1
 |0,c,h=>by simp[Builtin.growBy];omega
 |r+1,c,h=>by
  unfold Builtin.growBy;split
  .omega
  .by_cases Y:c+(c+768)/4<=nl
   .exact B0 nl r _ Y
   .have:Builtin.growBy nl r (c+(c+768)/4)=c+(c+768)/4:=by
      cases r with
      |zero=>rfl
      |succ r=>unfold Builtin.growBy;rw[aJ (by omega)]
    rw[this];have:(c+768)/4<=(nl+768)/4:=Nat.div_le_div_right (by omega);omega
theorem IW(nl a:Nat)(h:a<nl):Builtin.nextslicecap nl a<=4*nl+1000:=by
 unfold Builtin.nextslicecap;split
 .omega
 .grind[B0]
def a11(P:Program)(w:World)(xd:TypeDesc)(i:TI)(e:TypeId)(a:Value)(n:Nat)(b:List Value):Prop:=
 (zK xd=false/\(∀M:World,(Builtin.lenOf a).run P M=.ok n M)/\∀d,(Builtin.firstCells i.size n a).run P { w with drawn:=d }=.ok ⟨b⟩ { w with drawn:=d })\/
 (zK xd=true/\(∃k,a=.int k n)/\n*i.bytes<=68719476736/\n<=68719476736/\∃zv:Value,(∀M:World,(zeroValue e).run P M=.ok zv M)/\(if n*i.size=0 then(#[]:Array Value)else Builtin.zeroCells zv.cells n)=⟨b⟩)
theorem lh(K:Good C){st F e:TypeId}{i:TI}{xd:TypeDesc}(g:C.P.underlying st=some (.slice e))(h:C.P.underlying F=some xd)(L:C.T.get e=some i)(r:y1 C.P e i)
  {rest:List TypeId} {rt:TypeId} {b:Option Addr} {eZ mB n:Nat} {G:Value} {t s:List Value} {z:List AV} (M:i.zero=some z) (N:z.length=i.size)
  (j:a11 C.P w xd i e G n s) (k:mB<eZ+n) (O:(eZ+n)*i.bytes<=68719476736) (Q:eZ+n<=68719476736)
  (l:∀d,(Builtin.firstCells i.size eZ (.slice b eZ mB)).run C.P { w with drawn:=d }=.ok ⟨t⟩ { w with drawn:=d })
  (u:t.length=eZ*i.size) (v:s.length=n*i.size):
  ∃(cap:Nat)(fX:Array Value),eZ+n<=cap/\fX.size=(cap-(eZ+n))*i.size/\
   (Builtin.append_ ⟨st::F::rest⟩ rt #[.slice b eZ mB,G]).run C.P w=
     .ok (.slice (some ⟨w.heap.size,0,none⟩) (eZ+n) cap) { w with drawn:=w.drawn+1,heap:=w.heap.push (.cells (⟨t⟩++⟨s⟩++fX) e (0,0)) }:=by
 obtain⟨ti,t1,t2,t3,_⟩:=r.info;obtain⟨zv,m,x⟩:=r.zero z M;have y:zv.cells.size=i.size:=by have:=bJ (x (λ_=>none));simp at this;omega
 let cap:=(Question.appendCap (eZ+n) mB e).cut (w.tape w.drawn (.appendCap (eZ+n) mB e))
 have a:eZ+n<=cap:=by show eZ+n<=eZ+n+_;omega
 refine⟨cap,Builtin.zeroCells zv.cells (cap-(eZ+n)),a,by simp[Builtin.zeroCells,y],?_⟩;have I:¬(((eZ+n:Nat):Int)>IntKind.i64.max/\ti.bytes=0):=by
  have:IntKind.i64.max=9223372036854775807:=by decide
  rw[this];omega
 have A:¬(((eZ+n:Nat):Int)>IntKind.i64.max):=by
  have:IntKind.i64.max=9223372036854775807:=by decide
  rw[this];omega
 have Y:¬(Builtin.nextslicecap (eZ+n) mB*ti.bytes>2^48):=by
  have:=IW (eZ+n) mB k;have W:Builtin.nextslicecap (eZ+n) mB*ti.bytes<=(4*(eZ+n)+1000)*ti.bytes:=kZ _ this;have U:(4*(eZ+n)+1000)*ti.bytes<=4*((eZ+n)*ti.bytes)+1000*ti.bytes:=by rw[eh,Nat.mul_assoc];omega
  have h5:ti.bytes<=(eZ+n)*ti.bytes:=Nat.le_mul_of_pos_left _ (by omega);rw[t2]at *;omega
 have H:(Question.appendCap (eZ+n) mB e).forced=false:=rfl;rcases j with⟨c,o,f⟩|⟨c,⟨R,rfl⟩,S,Z,V,p,f⟩
 .cases xd<;>first|(cases c;done)|skip
  all_goals(
   unfold Builtin.append_;simp only[mx,dj,og];rw[aS,gC g];simp only[bw];rw[aS,r.size w];simp only[bw,aS,gC h,bE,fa,br,Bool.not_false,bc,false_or,o];rw[av (by omega)];simp only[aS,typeInfo,mW,t1,bw,bE];rw[av I];simp only[aS,mW,t1,bw,bE];rw[av Y];simp only[aS,run_choose,H,fa,br,bw,mW,t1,bE,run_askRoom];rw[l (w.drawn+1)];simp only[bw];rw[f (w.drawn+1)];simp only[bw,m];simp only[newRow,aS,run_newObj,bw,bE];rfl)
 .cases xd<;>first|(cases c;done)|skip
  have B:IntKind.i64.wrap (n:Int)=(n:Int):=wrap_small n (by omega);have X:(Go.asInt (.int R (n:Int))).run C.P w=.ok (n:Int) w:=rfl;have D:¬((n:Int)<0):=by omega
  have E:¬((n:Int)*(ti.bytes:Int)>2^48):=by
   rw[t2];have:(n:Int)*(i.bytes:Int)=((n*i.bytes:Nat):Int):=by push_cast;rfl
   rw[this];omega
  unfold Builtin.append_;simp only[mx,dj,og];rw[aS,gC g];simp only[bw];rw[aS,r.size w];simp only[bw,aS,gC h,bE,bc,true_or,fG,Bool.not_true,fa,br,X,B];rw[av D];simp only[aS,typeInfo,mW,t1,bw,bE];rw[av E];simp only[aS,bw,bE,tW];rw[av (show¬(eZ+n<=mB) by omega)];simp only[aS,mW,t1,bw,bE];rw[av A];simp only[aS,mW,t1,bw,bE];rw[av Y];simp only[aS,run_choose,H,fa,br,bw,mW,t1,bE,run_askRoom];rw[l (w.drawn+1)];simp only[bw];have q:(Sem.run C.P (if n*i.size=0 then(pure #[]:Sem (Array Value))else do pure (Builtin.zeroCells (<-zeroValue e).cells n)) { w with drawn:=w.drawn+1 })=.ok ⟨s⟩ { w with drawn:=w.drawn+1 }:=by
   rw[<-f];by_cases J:n*i.size=0
   .simp only[J,bc,bE]
   .simp only[J,br,aS,p,bw,bE]
  rw[q];simp only[bw,m];simp only[newRow,aS,run_newObj,bw,bE];rfl
end
section
variable{C:Ctx}{base:Nat}{E:G}{s:S}{w:World}{nt:Nat}{t:Tr AV}{a:Act}
theorem jO{st t e:TypeId}{i:TI}{xd:TypeDesc}(h:C.P.underlying st=some (.slice e))(j:C.P.underlying t=some xd)(o:y1 C.P e i)
  {rest:List TypeId} {rt:TypeId} {b:Option Addr} {eZ mB n:Nat} {u:Value} {p:List Value}
  (k:a11 C.P w xd i e u n p) (d:eZ+n<=mB) {M:World}
  (f:∀ad,b=some ad->(storeCells (ad.add (eZ*i.size)) p).run C.P w=.ok () M) (a:b=none->M=w):
    (Builtin.append_ ⟨st::t::rest⟩ rt #[.slice b eZ mB,u]).run C.P w=.ok (.slice b (eZ+n) mB) M:=by
 rcases k with⟨g,l,c⟩|⟨g,⟨x,rfl⟩,y,B,z,v,c⟩
 .have c:=c w.drawn;cases xd<;>first|(cases g;done)|skip
  all_goals(
   unfold Builtin.append_;simp only[mx,dj,og];rw[aS,gC h];simp only[bw];rw[aS,o.size w];simp only[bw,aS,gC j,bE,fa,br,Bool.not_false,bc,l];rw[aJ d];simp only[aS,c,bw];cases b with
   |none=>simp only[a rfl];rfl
   |some ad=>simp only[aS,f ad rfl,bw,bE])
 .obtain⟨ti,t1,t2,t3,_⟩:=o.info;cases xd<;>first|(cases g;done)|skip
  have q:IntKind.i64.wrap (n:Int)=(n:Int):=wrap_small n (by omega);have A:(Go.asInt (.int x (n:Int))).run C.P w=.ok (n:Int) w:=rfl;have r:¬((n:Int)<0):=by omega
  have s:¬((n:Int)*(ti.bytes:Int)>2^48):=by grind
  unfold Builtin.append_;simp only[mx,dj,og];rw[aS,gC h];simp only[bw];rw[aS,o.size w];simp only[bw,aS,gC j,bE,bc,true_or,fG,Bool.not_true,fa,br,A,q];rw[av r];simp only[aS,typeInfo,mW,t1,bw,bE];rw[av s];simp only[aS,bw,bE,tW];rw[aJ d];have m:(Sem.run C.P (if n*i.size=0 then(pure #[]:Sem (Array Value))else do pure (Builtin.zeroCells (<-zeroValue e).cells n)) w)=.ok ⟨p⟩ w:=by grind[Sem.run_pure,Sem.run_bind,Result.andThen_ok]
  simp only[aS,m,bw];cases b with
  |none=>simp only[a rfl];rfl
  |some ad=>simp only[aS,f ad rfl,bw,bE]
theorem Rel.drawn (a:Rel C base E s w) {M:World} (hh:M.heap=w.heap):Rel C base E s M:=
 ⟨λid b h=>by rw[hh];exact a.aO id b h,a.sep,a.new,a.gm,a.low,by rw[hh];exact a.bs,a.pc,λid l d I Y=>Dt.ej.stays (λk c=>⟨by rw[hh];exact c,by rw[hh]⟩) d (a.rd id l d I Y)⟩
theorem Rel.gV (c:Rel C base E s w) {b:Nat} {e:TypeId} {cs:Tr AV} {k fz:Nat} {gU:List Nat} {st sg:Bool} (q:s.h.get b=some (.cells e cs k fz gU st sg)):
  Rel C base E ⟨s.h.set b (.cells e cs k fz gU true sg),s.next,s.pc⟩ w:=by
 have a:∀i x,(s.h.set b (.cells e cs k fz gU true sg)).get i=some x->(i=b/\x=.cells e cs k fz gU true sg)\/(i≠b/\s.h.get i=some x):=by grind[Tr.bY]
 have m:∀i x y l O,gR x i (.cells e cs k fz gU st sg) l O->y=.cells e cs k fz gU true sg->gR x i y l O:=by intro i x y l O h p;subst p;cases x<;>simp only[gR]at h ⊢;exact⟨h.1,eI,h.2.2⟩
 have f:∀j y l O,gR (.cells e cs k fz gU st sg) j y l O->gR (.cells e cs k fz gU true sg) j y l O:=by intro j y l O h;cases y<;>exact h
 refine⟨?_,?_,c.new,c.gm,?_,c.bs,c.pc,?_⟩
 .intro i x Z;rcases a i x Z with⟨rfl,rfl⟩|⟨_,r⟩
  .obtain⟨l,o,I,Y,vs,lo,V,rfl,g1,g2,g3,g4,t⟩:=c.aO i _ q;refine⟨l,_,I,Y,vs,lo,V,rfl,g1,?_,g3,(λh=>by cases h),t⟩;exact g2
  .obtain⟨l,o,I,Y,W⟩:=c.aO i x r;exact⟨l,o,I,Y,W.mono (Grow.refl E) ⟨rfl,rfl,rfl⟩⟩
 .intro i j x y l O I Y W U g n;rcases a i x I with⟨rfl,rfl⟩|⟨_,Z⟩
  .rcases a j y Y with⟨rfl,_⟩|⟨_,p⟩
   .exact absurd rfl g
   .rcases c.sep i j _ y l O q p W U g n with h|h
    .exact .inl (f _ _ _ _ h)
    .exact .inr (m _ _ _ _ _ h rfl)
  .rcases a j y Y with⟨rfl,rfl⟩|⟨_,p⟩
   .rcases c.sep i j x _ l O Z q W U g n with h|h
    .exact .inl (m _ _ _ _ _ h rfl)
    .exact .inr (f _ _ _ _ h)
   .exact c.sep i j x y l O Z p W U g n
 .intro i x l I Y W;rcases a i x I with⟨rfl,rfl⟩|⟨_,Z⟩
  .rfl
  .exact c.low i x l Z Y W
 .refine c.rd' (bD _) (λk _ _=>rfl) (λk' _=>?_) (λid l d I Y=>⟨id,l,I,Y⟩);rintro⟨id,x,l,I,Y,W,U⟩;rcases a id x I with⟨rfl,rfl⟩|⟨_,Z⟩
  .cases Y
  .exact⟨id,x,l,Z,Y,W,U⟩
theorem Step.gV (a:Rel C base E s w) {b:Nat} {e:TypeId} {cs:Tr AV} {k fz:Nat} {gU:List Nat} {st sg:Bool} (c:s.h.get b=some (.cells e cs k fz gU st sg)):
  Step C base E s w E ⟨s.h.set b (.cells e cs k fz gU true sg),s.next,s.pc⟩ w:=by
 refine Step.of ⟨Grow.refl E,a.gV c,vp.refl _ _ _,?_,bD _,λ_ _ h=>a.lt h,λ_ l h=>.inl ⟨l,h⟩,λid x I _=>by
  simp only[Tr.bY]at I;split at I
  .next h=>subst h;exact⟨_,c⟩
  .exact⟨x,I⟩⟩
 rintro k' ⟨id,x,l,I,Y,W,U⟩ _;simp only[Tr.bY]at I;split at I
 .obtain rfl:=ae I;cases Y
 .exact⟨id,x,l,I,Y,W,U⟩
theorem Rel.alias (z:Rel C base E s w) {b:Nat} {e:TypeId} {cs:Tr AV} {k fz:Nat} {gU:List Nat} {sg:Bool} (hb:s.h.get b=some (.cells e cs k fz gU false sg))
  {B:Loc} (K:E b=some B) {arr:Array Value} {lo V:Nat} (ho:w.heap[B.aO]? =some (.cells arr e (lo,V))) {i:TI} (H:C.T.get e=some i) {e0 len n:Nat}
  (hk:(e0+len)*i.size=k) (R:e0+len+n<=B.cp) {p0 new:List AV} {P m:List Value} (hold:aN E p0=some P) (Q:aN E new=some m)
  (adA:p0.length=len*i.size) (S:new.length=n*i.size) (X:∀(j:Nat)v,P[j]? =some v->arr[B.dl+e0*i.size+j]? =some v) (_hfz:fz<=k)
  (M:World) (A:M.heap=w.heap.setIfInBounds B.aO (.cells (h1 arr (B.dl+k) m) e (lo,V))):
  Rel C base (λid=>if id=s.next then some ⟨B.aO,B.dl+e0*i.size,B.cp-e0,none⟩else E id)
   ⟨(s.h.set b (.cells e cs k fz gU true sg)).set s.next (.cells e (Tr.ofList (p0++new)) ((len+n)*i.size) (fz-e0*i.size) (b::gU) false sg),s.next+1,s.pc⟩ M:=by
 have hS:=z.gV hb;obtain⟨O,o,I,Y,vs,Xf,a3V,hoo,g1,g2,⟨ii,g3,g4,g5,qd,g7⟩,g6,glh⟩:=z.aO b _ hb;rw[K]at I;obtain rfl:=ae I;rw[ho]at Y;obtain rfl:=ae Y;cases hoo;rw[H]at g3;obtain rfl:=ae g3;have adM:b≠s.next:=gE (z.lt K);have Pv:B.aO<w.heap.size:=by grind
 have a:Grow E (λid=>if id=s.next then some ⟨B.aO,B.dl+e0*i.size,B.cp-e0,none⟩else E id):=by intro id l K;have:id≠s.next:=gE (z.lt K);exact⟨l,by simp[this,K],rfl,rfl,rfl⟩
 have hmul:(e0+len+n)*i.size<=B.cp*i.size:=kZ _ R;have ac7:(e0+len+n)*i.size=k+n*i.size:=by rw[eh,hk]
 have hcl:=bJ Q;have p:∀id x,((s.h.set b (.cells e cs k fz gU true sg)).set s.next (.cells e (Tr.ofList (p0++new)) ((len+n)*i.size) (fz-e0*i.size) (b::gU) false sg)).get id=some x->
   (id=s.next/\x=.cells e (Tr.ofList (p0++new)) ((len+n)*i.size) (fz-e0*i.size) (b::gU) false sg)\/(id≠s.next/\(s.h.set b (.cells e cs k fz gU true sg)).get id=some x):=by
  intro id x Z;rw[Tr.bY]at Z;split at Z
  .next h=>exact .inl ⟨h.symm,(ae Z).symm⟩
  .next h=>exact .inr ⟨dt h,Z⟩
 have q:∀id x lx,(s.h.set b (.cells e cs k fz gU true sg)).get id=some x->E id=some lx->lx.aO=B.aO->
   ∃e' L k' Sp r N,x=.cells e' L k' Sp r true N/\id∈b::gU/\lx.dl+k'<=B.dl+k:=by
  intro id x lx Z hγ f;by_cases D:id=b
  .subst D;rw[Tr.get_set_same]at Z;obtain rfl:=ae Z;rw[K]at hγ;obtain rfl:=ae hγ;exact⟨_,_,_,_,_,_,rfl,by simp,bD _⟩
  .have F:=Z;rw[Tr.get_set_other _ _ (dt D)]at F;rcases z.sep b id _ x B lx hb F K hγ (dt D) f.symm with h|h
   .cases x<;>simp only[gR]at h;obtain⟨I,Y,W⟩:=h;subst Y;exact⟨_,_,_,_,_,_,rfl,by simp[I],W⟩
   .cases x<;>simp only[gR]at h;exact absurd h.2.1 (by simp)
 have hin:B.dl+k+m.length<=arr.size:=by rw[hcl,S];omega
 refine⟨?_,?_,?_,?_,?_,?_,z.LB a,?_⟩
 .intro id x Z;rcases p id x Z with⟨rfl,rfl⟩|⟨G,F⟩
  .refine⟨⟨B.aO,B.dl+e0*i.size,B.cp-e0,none⟩,.cells (h1 arr (B.dl+k) m) e (lo,V),by simp,by rw[A];simp[Pv],?_⟩;have hdk:B.dl+e0*i.size+len*i.size=B.dl+k:=by rw[<-hk,eh];omega
   refine⟨_,lo,V,rfl,?_,?_,⟨i,H,?_,?_,qd+e0,by simp only;rw[g7,eh]⟩,?_,glh⟩
   .grind[dJ]
   .intro j v hj hv;rw[Tr.eP,pA]at hv;split at hv
    .next ac3=>
     obtain⟨c,hc,J⟩:=mK j v hold hv;refine⟨c,?_,.inr (gL a _ _ hc)⟩;rw[hY _ _ _ _ hin,av (by simp only;omega)];exact X j c J
    .next hge=>
     obtain⟨c,hc,J⟩:=mK _ v Q hv;refine⟨c,?_,.inr (gL a _ _ hc)⟩;have hjl:j-p0.length<m.length:=by grind
     rw[hY _ _ _ _ hin,aJ (by simp only;omega)];rw[<-J];congr 1;simp only;omega
   .simp only;exact kZ _ (by omega)
   .rw[dJ];simp only;have:B.dl+e0*i.size+(B.cp-e0)*i.size=B.dl+B.cp*i.size:=by
     rw[kf,<-eh,show e0+(B.cp-e0)=B.cp by omega]
    omega
   .grind[dJ]
  .obtain⟨l,o,q1,q2,q3⟩:=hS.aO id x F;by_cases f:l.aO=B.aO
   .obtain⟨e',L,k',Sp,r,N,rfl,_,hle⟩:=q id x l F q1 f;obtain⟨vs,lo1,hi1,rfl,f1,f2,f3,f4,flh⟩:=q3;rw[f,ho]at q2;cases q2;refine⟨l,.cells (h1 arr (B.dl+k) m) e (lo,V),by simp[G,q1],by rw[A,f];simp[Pv],?_⟩;refine⟨_,lo,V,rfl,by rw[dJ];exact f1,?_,by rw[dJ];exact f3,(λh=>by cases h),glh⟩;intro j v hj hv;obtain⟨c,hc,J⟩:=f2 j v hj hv;refine⟨c,?_,J.grow a⟩;rw[hY _ _ _ _ hin,av (by omega)];exact hc
   .refine⟨l,o,by simp[G,q1],by rw[A];simp[dt f,q2],q3.mono a ⟨rfl,rfl,rfl⟩⟩
 .intro id u x y l O I Y W U G f;rcases p id x I with⟨rfl,rfl⟩|⟨t,Z⟩
  .rcases p u y Y with⟨rfl,_⟩|⟨hn2,hy⟩
   .exact absurd rfl G
   .simp only[bc]at W;simp only[hn2,br]at U;obtain rfl:=ae W;obtain⟨e',L,k',Sp,r,N,rfl,hm,hle⟩:=q u y O hy U f.symm;left;refine⟨hm,rfl,?_⟩;simp only;have:B.dl+e0*i.size+(len+n)*i.size=B.dl+k+n*i.size:=by rw[<-hk,eh,eh];omega
    omega
  .rcases p u y Y with⟨rfl,rfl⟩|⟨hn2,hy⟩
   .simp only[bc]at U;simp only[t,br]at W;obtain rfl:=ae U;obtain⟨e',L,k',Sp,r,N,rfl,hm,hle⟩:=q id x l Z W f;right;refine⟨hm,rfl,?_⟩;simp only;have:B.dl+e0*i.size+(len+n)*i.size=B.dl+k+n*i.size:=by rw[<-hk,eh,eh];omega
    omega
   .simp only[t,br]at W;simp only[hn2,br]at U;exact hS.sep id u x y l O Z hy W U G f
 .intro id D;have adG:s.next+1<=id:=D;have:id≠s.next:=by omega
  simp only[this,br];exact z.new id (by omega)
 .intro g hg;obtain⟨l,q1,q2,q3⟩:=z.gm g hg;have:g≠s.next:=gE (z.lt q1);exact⟨l,by simp[this,q1],q2,q3⟩
 .intro id x l I Y W;rcases p id x I with⟨rfl,rfl⟩|⟨t,Z⟩
  .simp only[bc]at Y;obtain rfl:=ae Y;have:=z.low b _ B hb K W;cases this
  .simp only[t,br]at Y;exact hS.low id x l Z Y W
 .rw[A];simp;exact z.bs
 .have hlv:Live E s B.aO:=⟨b,_,B,hb,rfl,K,rfl⟩;refine z.rd' (by rw[A];simp) (λk hk hn=>?_) (λk hk=>?_) (λid O d I Y=>?_)
  .grind
  .rintro⟨id,x,l,I,Y,W,U⟩;rcases p id x I with⟨rfl,rfl⟩|⟨t,Z⟩
   .grind
   .simp only[t,br]at W;rw[Tr.bY]at Z;split at Z
    .obtain rfl:=ae Z;cases Y
    .exact⟨id,x,l,Z,Y,W,U⟩
  .grind
end
section
variable{C:Ctx}{base:Nat}{E:G}{s:S}{w:World}{nt:Nat}{t:Tr AV}{a:Act}
theorem dC.lt (a:Rel C base E s w) {id:Nat} {b:gn} {l:Loc} (h:s.h.get id=some b) (c:E id=some l):l.aO<w.heap.size:=by
 obtain⟨O,o,I,Y,_⟩:=a.aO id b h;rw[c]at I;obtain rfl:=ae I;rcases ed l.aO w.heap.size with h|h
 .exact h
 .grind
theorem Step.ghost (f:Rel C base E s w) (d:Dt) (A:∀F,d.ej C w F):
  Step C base E s w (λid=>if id=s.next then some ⟨w.heap.size,0,0,some d⟩else E id) ⟨s.h,s.next+1,s.pc⟩ w:=by
 have c:Grow E (λid=>if id=s.next then some ⟨w.heap.size,0,0,some d⟩else E id):=by intro id l t;have:id≠s.next:=gE (f.lt t);exact⟨l,by simp[this,t],rfl,rfl,rfl⟩
 have a:∀id b,s.h.get id=some b->id≠s.next:=by intro id b h;obtain⟨l,o,I,_⟩:=f.aO id b h;exact gE (f.lt I)
 have i:∀k,Live (λid=>if id=s.next then some ⟨w.heap.size,0,0,some d⟩else E id) ⟨s.h,s.next+1,s.pc⟩ k->Live E s k:=by rintro k ⟨id,b,l,I,Y,W,U⟩;have:=a id b I;simp only[this,br]at W;exact⟨id,b,l,I,Y,W,U⟩
 have j:∀Z,dD C E s w Z->dD C (λid=>if id=s.next then some ⟨w.heap.size,0,0,some d⟩else E id) ⟨s.h,s.next+1,s.pc⟩ w Z:=by
  intro Z m id l d' I Y;by_cases e:id=s.next
  .grind
  .simp only[e,br]at I;exact Dt.ej.stays (λk n=>⟨⟨n.1,λhh=>n.2.1 (i k hh),n.2.2⟩,rfl⟩) d' (m id l d' I Y)
 refine⟨c,⟨?_,?_,?_,?_,?_,f.bs,f.LB c,j _ f.rd⟩,vp.refl E s w,λk h _=>i k h,Nat.le_succ _,λ_ _ h=>f.lt h,?_,λid b h _=>⟨b,h⟩,λZ _ m=>j Z m⟩
 .intro id b h;obtain⟨l,o,I,Y,W⟩:=f.aO id b h;have:=a id b h;exact⟨l,o,by simp[this,I],Y,W.mono c ⟨rfl,rfl,rfl⟩⟩
 .intro id u b N l O I Y W U p q;have e1:=a id b I;have e2:=a u N Y;simp only[e1,br]at W;simp only[e2,br]at U;exact f.sep id u b N l O I Y W U p q
 .intro id r;have v:s.next+1<=id:=r;have:id≠s.next:=by omega
  simp only[this,br];exact f.new id (by omega)
 .intro g m;obtain⟨l,x,y,z⟩:=f.gm g m;have:g≠s.next:=gE (f.lt x);exact⟨l,by simp[this,x],y,z⟩
 .intro id b l I Y W;have:=a id b I;simp only[this,br]at Y;exact f.low id b l I Y W
 .grind
theorem Step.del (e:Rel C base E s w) (b:Nat):Step C base E s w E ⟨s.h.del b,s.next,s.pc⟩ w:=by
 have a:∀{id x},(s.h.del b).get id=some x->s.h.get id=some x:=by grind[Tr.xI]
 have c:∀k,Live E ⟨s.h.del b,s.next,s.pc⟩ k->Live E s k:=λk⟨id,x,l,I,Y,W,U⟩=>⟨id,x,l,a I,Y,W,U⟩
 refine Step.of ⟨Grow.refl E,⟨λid x h=>e.aO id x (a h),λid u x y l O I Y=>e.sep id u x y l O (a I) (a Y),e.new,e.gm,λid x l h=>e.low id x l (a h),e.bs,e.pc,?_⟩,
  vp.refl _ _ _,λk h _=>c k h,bD _,λ_ _ h=>e.lt h,λ_ l h=>.inl ⟨l,h⟩,λid x h _=>⟨x,a h⟩⟩
 exact e.rd' (bD _) (λ_ _ _=>rfl) (λk _ h=>c k h) (λid l d I Y=>⟨id,l,I,Y⟩)
theorem Step.move (j:Rel C base E s w) {b:Nat} {el:TypeId} {x:SE} {B:Loc} {T:Obj} (P:s.h.get b=some (.vec el x)) (r:E b=some B) {y:gn} {M:World}
  (N:M={ w with heap:=w.heap.setIfInBounds B.aO T }) (hy:∀A,Grow E A->dC C A B y T):
  Step C base E s w (λid=>if id=s.next then some B else E id) ⟨(s.h.del b).set s.next y,s.next+1,s.pc⟩ M:=by
 have R:=dC.lt j P r;have c:Grow E (λid=>if id=s.next then some B else E id):=by intro id l r;have:id≠s.next:=gE (j.lt r);exact⟨l,by simp[this,r],rfl,rfl,rfl⟩
 have a:∀{id z},((s.h.del b).set s.next y).get id=some z->(id=s.next/\z=y)\/(id≠s.next/\id≠b/\s.h.get id=some z):=by
  intro id z h;rw[Tr.bY]at h;split at h
  .next e=>exact .inl ⟨e.symm,(ae h).symm⟩
  .next e=>
   rw[Tr.xI]at h;split at h
   .cases h
   .next e2=>exact .inr ⟨dt e,dt e2,h⟩
 have F:∀{id z l},id≠b->s.h.get id=some z->E id=some l->l.aO≠B.aO:=by
  intro id z l t h Y m;rcases j.sep id b z _ l B h P Y r t m with h'|h'
  .cases z<;>simp[gR]at h'
  .simp[gR]at h'
 have G:Live E s B.aO:=⟨b,_,B,P,rfl,r,rfl⟩;have f:∀{k:Nat},k≠B.aO->M.heap[k]? =w.heap[k]? :=by intro k hk;rw[N];simp[dt hk]
 have H:M.heap.size=w.heap.size:=by rw[N];simp
 have n:∀k,Live (λid=>if id=s.next then some B else E id) ⟨(s.h.del b).set s.next y,s.next+1,s.pc⟩ k->Live E s k:=by
  rintro k ⟨id,z,l,I,Y,W,U⟩;rcases a I with⟨rfl,rfl⟩|⟨i,p,q⟩
  .simp only[bc]at W;obtain rfl:=ae W;exact U▸G
  .simp only[i,br]at W;exact⟨id,z,l,q,Y,W,U⟩
 have D:∀id O d,(if id=s.next then some B else E id)=some O->O.v=some d->∃id0 l,E id0=some l/\l.v=some d:=by
  intro id O d I Y;by_cases e:id=s.next
  .rw[aJ e]at I;obtain rfl:=ae I;exact⟨b,B,r,Y⟩
  .rw[av e]at I;exact⟨id,O,I,Y⟩
 have J:vp E s w M:=by refine⟨Nat.le_of_eq H.symm,by rw[N],by rw[N],by rw[N],λk o hk S=>?_⟩;rw[f λe=>S (by rw[e];exact G)];exact hk
 refine Step.of' ⟨c,⟨?_,?_,?_,?_,?_,by rw[H];exact j.bs,j.LB c,?_⟩,J,λk h _=>n k h,Nat.le_succ _,λ_ _ h=>j.lt h,?_,?_⟩ D
 .intro id z h;rcases a h with⟨rfl,rfl⟩|⟨i,p,q⟩
  .exact⟨B,T,by simp,by rw[N];simp[R],hy _ c⟩
  .obtain⟨l,o,I,Y,W⟩:=j.aO id z q;exact⟨l,o,by simp[i,I],by rw[f (F p q I)];exact Y,W.mono c ⟨rfl,rfl,rfl⟩⟩
 .intro id u z z' l O I Y W U t m;rcases a I with⟨rfl,rfl⟩|⟨i,p,q⟩
  .rcases a Y with⟨rfl,_⟩|⟨K,Q,L⟩
   .exact absurd rfl t
   .simp only[bc]at W;obtain rfl:=ae W;simp only[K,br]at U;exact absurd m.symm (F Q L U)
  .simp only[i,br]at W;rcases a Y with⟨rfl,_⟩|⟨K,Q,L⟩
   .simp only[bc]at U;obtain rfl:=ae U;exact absurd m (F p q W)
   .simp only[K,br]at U;exact j.sep id u z z' l O q L W U t m
 .intro id V;have X:s.next+1<=id:=V;have:id≠s.next:=by omega
  simp only[this,br];exact j.new id (by omega)
 .intro g hg;obtain⟨l,Z,q2,q3⟩:=j.gm g hg;have:g≠s.next:=gE (j.lt Z);exact⟨l,by simp[this,Z],q2,q3⟩
 .intro id z l I Y W;rcases a I with⟨rfl,rfl⟩|⟨i,p,q⟩
  .simp only[bc]at Y;obtain rfl:=ae Y;have:=j.low b _ B P r W;cases this
  .simp only[i,br]at Y;exact j.low id z l q Y W
 .exact j.rd' (Nat.le_of_eq H.symm) (λk _ S=>f λe=>S (e▸G)) (λk _ h=>n k h) D
 .intro id O h;by_cases e:id=s.next
  .simp only[e,bc,aD]at h;subst h;exact .inr ⟨by omega,.inr ⟨b,_,B,P,r,rfl⟩⟩
  .simp only[e,br]at h;exact .inl ⟨O,h⟩
 .intro id z h ac3;rcases a h with⟨rfl,_⟩|⟨_,_,q⟩
  .omega
  .exact⟨z,q⟩
theorem OA(hC:Good C)(hR:Rel C base E s w){st xt e:TypeId}{i:TI}{xd:TypeDesc}(t:C.P.underlying st=some (.slice e))(hxt:C.P.underlying xt=some xd)(V:C.T.get e=some i)(hT:y1 C.P e i)
  {rest:List TypeId} {rt:TypeId} {z:List AV} (hz:i.zero=some z) (hzl:z.length=i.size) {b:Nat} {n c:SE} {cb cx:Value} (hcb:ai E (.iI b n c)=some cb) {g:Nat} {new:List AV} {cs:List Value}
  (W:aN E new=some cs) (hcl:new.length=g*i.size) (Q:a11 C.P w xd i e cx g cs):
  (SR C s e i.size i.bytes b n g new).path (eY C base E s w ((VS (Builtin.append_ ⟨st::xt::rest⟩ rt ⟨[cb,cx]⟩)).run C.P w)):=by
 obtain⟨B,k,q,hl,L,hc0,hk,hq,rfl⟩:=ja hcb;unfold SR;cases hb:s.h.get b with
 |none=>trivial
 |some x0=>
  cases x0 with
  |vec el x=>
   obtain⟨O,o,I,Y,vs,lo,H,J,rfl,g1,g2,⟨i',g3,g4,g5,g6,g7⟩,g8,g9⟩:=hR.aO b _ hb;rw[hl]at I;obtain rfl:=ae I;refine R.bR _ (R.bf _ _) λ_ hg=>?_
   simp only[aM,im]at hg;obtain⟨e1,e2',e3',e4,e5,e6⟩:=hg;obtain rfl:=bj e1;rw[V]at g3;obtain rfl:=ae g3;have a7C:i.size≠0:=by intro h;rw[h]at e5;cases e5
   have hks:(aA C el).length=i.size:=g4.symm;cases hy:sW C (aA C el) new (aA C el) (.a2 (.tk i.size) x n)with
   |none=>trivial
   |some y=>
    refine R.gb hR λhn=>?_
    have hbd:k*i.size<=J.length/\(k+g)*i.bytes<=68719476736/\k+g<=68719476736:=by
     rcases EY (k*i.size<=J.length/\(k+g)*i.bytes<=68719476736/\k+g<=68719476736)with h|h
     .exact h
     .exact absurd ⟨_,_,_,rfl,λhh=>h hh.2⟩ (j6 hn (A5 g1 L))
    have htk:ax E (.a2 (.tk i.size) x n)=some (.ls (aA C el) (J.take (k*i.size))):=by grind[ax,e2]
    have X:(J.take (k*i.size)).length=k*i.size:=by rw[c8];omega
    obtain⟨ds,hys,hds⟩:=uj new (aA C el) _ y _ cs W htk ⟨0,rfl,wY _,by rw[X,hks,mT];simp⟩ hy;have F:cs.length=g*i.size:=by rw[bJ W,hcl]
    have hdl:ds.length=g*i.size:=by rw[<-F,<-hds,k8]
    have u:ax E (.a2 (.bin .add) n (.int .i64 (.ofNat g)))=some (.val (.int .i64 (.ofNat (k+g)))):=by
     simp only[ax,L,bn,e2,fj,bS,bc,bM];have:IntKind.i64.wrap (Int.ofNat k+Int.ofNat g)=Int.ofNat (k+g):=by grind[wrap_small]
     rw[this];rfl
    have I1:∀(j:Nat)d,(J.take (k*i.size)++ds)[j]? =some d->(j<k*i.size/\J[j]? =some d)\/(k*i.size<=j/\j<k*i.size+cs.length/\cs[j-k*i.size]? =some d.v):=by grind
    have S:(J.take (k*i.size)++ds).length=(k+g)*i.size:=by rw[cg,X,hdl,eh]
    have U:Int.ofNat k<Int.ofNat (k+g):=by grind
    rcases ed q (k+g)with D|D
    .
     have G:((J.take (k*i.size)).map Dt.v).length=k*i.size:=by rw[k8,X]
     have hco:∀d,(Builtin.firstCells i.size k (.slice (some ⟨B.aO,B.dl,none⟩) k q)).run C.P { w with drawn:=d }=.ok ⟨(J.take (k*i.size)).map Dt.v⟩ { w with drawn:=d }:=by
      intro d;simp only[Builtin.firstCells];refine eX (λj v Z=>?_) _ G;rw[kh,vu]at Z;split at Z
      .grind[World.cell?]
      .cases Z
     obtain⟨cap,fX,hc1,hc2,K⟩:=lh (w:=w) hC t hxt V hT (rest:=rest) (rt:=rt) (b:=some ⟨B.aO,B.dl,none⟩) (eZ:=k) (mB:=q) hz hzl Q D hbd.2.1 hbd.2.2 hco G F;have N:=Step.del hR b;have m:=Step.alloc (base:=base) N.rel (.vec el y) (.cells (⟨(J.take (k*i.size)).map Dt.v⟩++⟨cs⟩++fX) el (0,0)) 0 cap
      (M:={ w with drawn:=w.drawn+1,heap:=w.heap.push (.cells (⟨(J.take (k*i.size)).map Dt.v⟩++⟨cs⟩++fX) el (0,0)) }) rfl rfl rfl rfl
      (λA hg=>by
        refine⟨_,0,0,J.take (k*i.size)++ds,rfl,bG hg _ _ hys,λj d Z=>?_,⟨i,V,g4,?_,?_,0,by simp⟩,λoff _ h=>absurd h (qO _),bD _⟩
        .have hj2:(((J.take (k*i.size)).map Dt.v)++cs)[j]? =some d.v:=by
           rw[<-hds,<-List.map_append,kh,Z];rfl
         have Pv:j<(((J.take (k*i.size)).map Dt.v)++cs).length:=(my.1 hj2).1;rw[eD,CC (by simpa using Pv)];simpa using hj2
        .rw[S];exact kZ _ hc1
        .simp only[AJ,List.size_toArray];rw[G,F,hc2,<-eh,<-eh];rw[show k+g+(cap-(k+g))=cap by omega];simp)
     have r:=Step.ghost m.rel (.val (.int .i64 (.ofNat cap))) (λ_=>rfl);have st3:=Step.add r.rel (f:=.inr n (.a2 (.bin .add) n (.int .i64 (.ofNat g)))) rfl ⟨_,_,_,bG ((N.trans m).trans r).grow _ _ L,bG ((N.trans m).trans r).grow _ _ u,od k,U⟩;have t:=((N.trans m).trans r).trans st3;refine⟨_,.slice (some ⟨w.heap.size,0,none⟩) (k+g) cap,_,?_,?_,t⟩
     .simp only[VS,aS,K,bw];rfl
     .have e0:s.next≠s.next+1:=by omega
      have a1:=bG t.grow _ _ u;simp only[ai,cV];refine⟨⟨w.heap.size,0,cap,none⟩,?_,_,a1,.val (.int .i64 (.ofNat cap)),?_,?_⟩
      .exact(av e0).trans (aJ trivial)
      .show((if s.next+1=s.next+1 then _ else _:Option Loc).bind λl=>l.v)=_;rw[aJ rfl];rfl
      .grind[qT]
    .
     have hkk:(k+g)*i.size<=B.cp*i.size:=kZ _ (by omega);have hkm:(k+g)*i.size=k*i.size+g*i.size:=eh _ _ _;have K:=gH (P:=C.P) B.aO el lo H cs (B.dl+k*i.size) 0 vs w Y (by omega) (n5 e6 W) (by
      intro p hp1 hp2 hp;rcases g8 p hp.1 hp.2 with h|h<;>omega)
     have hap:=jO (w:=w) t hxt hT (rest:=rest) (rt:=rt) (b:=some ⟨B.aO,B.dl,none⟩) (eZ:=k) (mB:=q) Q D
      (λad h=>by obtain rfl:=ae h;rw[addr_add];exact K) (λh=>by cases h)
     have m:=Step.move hR hb hl (y:=.vec el y) (T:=.cells (h1 vs (B.dl+k*i.size+0) cs) el (lo,H)) rfl (λA hg=>by
      refine⟨_,lo,H,J.take (k*i.size)++ds,rfl,bG hg _ _ hys,λj d Z=>?_,⟨i,V,g4,by rw[S];exact hkk,by rw[dJ];exact g6,g7⟩,λoff a b=>by rw[dJ];exact g8 off a b,g9⟩;rw[hY _ _ _ _ (by omega)];rcases I1 j d Z with⟨h,hh⟩|⟨h,h',hh⟩
      .rw[av (by omega)];exact g2 j d hh
      .grind)
     have r:=Step.ghost m.rel (.val (.int .i64 (.ofNat q))) (λ_=>rfl);have st3:=Step.add r.rel (f:=.inr n (.a2 (.bin .add) n (.int .i64 (.ofNat g)))) rfl ⟨_,_,_,bG (m.trans r).grow _ _ L,bG (m.trans r).grow _ _ u,od k,U⟩;have t:=(m.trans r).trans st3;refine⟨_,.slice (some ⟨B.aO,B.dl,none⟩) (k+g) q,_,?_,?_,t⟩
     .simp only[VS,aS,hap,bw];rfl
     .have e0:s.next≠s.next+1:=by omega
      have a1:=bG t.grow _ _ u;simp only[ai,cV];refine⟨B,?_,_,a1,.val (.int .i64 (.ofNat q)),?_,?_⟩
      .exact(av e0).trans (aJ trivial)
      .show((if s.next+1=s.next+1 then _ else _:Option Loc).bind λl=>l.v)=_;rw[aJ rfl];rfl
      .exact qT D hq
  |_=>trivial
theorem OB(hC:Good C)(hR:Rel C base E s w){st xt e:TypeId}{i:TI}{xd:TypeDesc}(m:C.P.underlying st=some (.slice e))(hxt:C.P.underlying xt=some xd)(V:C.T.get e=some i)(hT:y1 C.P e i)
  {rest:List TypeId} {rt:TypeId} {z:List AV} (hz:i.zero=some z) (hzl:z.length=i.size) {b:Nat} {n c:SE} {cb cx:Value} (hcb:ai E (.iI b n c)=some cb) {X:SE} {Z:ByteArray} (hX:ax E X=some (.val (.string Z)))
  (g:i.size=1->a11 C.P w xd i e cx Z.size (Z.data.toList.map λb=>Value.int .u8 b.toNat)):
  (SS C s e i.size i.bytes b n X).path (eY C base E s w ((VS (Builtin.append_ ⟨st::xt::rest⟩ rt ⟨[cb,cx]⟩)).run C.P w)):=by
 obtain⟨B,k,q,hl,hn0,hc0,hk,hq,rfl⟩:=ja hcb;unfold SS;cases hb:s.h.get b with
 |none=>trivial
 |some x0=>
  cases x0 with
  |vec el x=>
   obtain⟨O,o,I,Y,vs,lo,H,J,rfl,g1,g2,⟨i',g3,g4,g5,g6,g7⟩,g8,g9⟩:=hR.aO b _ hb;rw[hl]at I;obtain rfl:=ae I;refine R.bR _ (R.bf _ _) λ_ hg=>?_
   simp only[aM]at hg;obtain⟨e1',e2',e3'⟩:=hg;obtain rfl:=bj e1';rw[V]at g3;obtain rfl:=ae g3;have t:i.size=1:=bj e2';have hks:=eO e3';have g:=g t;revert g;generalize K:Z.size=f;generalize D:(Z.data.toList.map λb=>Value.int .u8 b.toNat)=cs;intro g;refine R.gb hR λhn=>?_
   have hbd:k*i.size<=J.length/\(k+f)*i.bytes<=68719476736/\k+f<=68719476736:=by
    rcases EY (k<=J.length/\(k+f)*i.bytes<=68719476736/\k+f<=68719476736)with h|h
    .rw[t,Nat.mul_one];exact h
    .exact absurd ⟨_,_,_,_,rfl,λhh=>h (by rw[<-K];exact hh.2)⟩ (j6 hn (ID g1 hn0 hX))
   have htk:ax E (.a2 (.tk 1) x n)=some (.ls (aA C el) (J.take (k*i.size))):=by grind[ax,e2]
   have htl:(J.take (k*i.size)).length=k*i.size:=by rw[c8];omega
   obtain⟨ds,L⟩:∃ds,ds=fw Z.data.toList:=⟨_,rfl⟩;have hds:ds.map Dt.v=cs:=by rw[L,<-D];simp[fw,Dt.v]
   obtain⟨y,hy⟩:∃y,y=SE.a2 .cat (.a2 (.tk 1) x n) (.a1 .sb X):=⟨_,rfl⟩;have hys:ax E y=some (.ls (aA C el) (J.take (k*i.size)++ds)):=by rw[hy];show((ax E (.a2 (.tk 1) x n)).bind λu=>(ax E (.a1 .sb X)).bind (e2 .cat u))=_;rw[htk];simp[ax,hX,e1,e2,hks,L]
   rw[<-hy];have N:cs.length=f*i.size:=by rw[<-D,k8,t,Nat.mul_one,<-K];rfl
   have hdl:ds.length=f*i.size:=by rw[<-N,<-hds,k8]
   have hlX:ax E (.a1 .len X)=some (.val (.int .i64 (.ofNat f))):=by grind[ax,e1]
   have Q:ax E (.a2 (.bin .add) n (.a1 .len X))=some (.val (.int .i64 (.ofNat (k+f)))):=by
    show((ax E n).bind λu=>(ax E (.a1 .len X)).bind (e2 (.bin .add) u))=_;rw[hn0,hlX];simp only[bn,e2,fj,bS,bc,bM];have:IntKind.i64.wrap (Int.ofNat k+Int.ofNat f)=Int.ofNat (k+f):=by grind[wrap_small]
    rw[this];rfl
   have acZ:∀v∈cs,v.oneCell'=true:=by intro v hv;rw[<-D]at hv;obtain⟨b, -,rfl⟩:=List.mem_map.1 hv;rfl
   have I1:∀(j:Nat)d,(J.take (k*i.size)++ds)[j]? =some d->(j<k*i.size/\J[j]? =some d)\/(k*i.size<=j/\j<k*i.size+cs.length/\cs[j-k*i.size]? =some d.v):=by grind
   have hlen:(J.take (k*i.size)++ds).length=(k+f)*i.size:=by rw[cg,htl,hdl,eh]
   rcases ed q (k+f)with r|r
   .
    have S:((J.take (k*i.size)).map Dt.v).length=k*i.size:=by rw[k8,htl]
    have hco:∀d,(Builtin.firstCells i.size k (.slice (some ⟨B.aO,B.dl,none⟩) k q)).run C.P { w with drawn:=d }=.ok ⟨(J.take (k*i.size)).map Dt.v⟩ { w with drawn:=d }:=by
     intro d;simp only[Builtin.firstCells];refine eX (λj v U=>?_) _ S;rw[kh,vu]at U;split at U
     .grind[World.cell?]
     .cases U
    obtain⟨cap,fX,hc1,hc2,F⟩:=lh (w:=w) hC m hxt V hT (rest:=rest) (rt:=rt) (b:=some ⟨B.aO,B.dl,none⟩) (eZ:=k) (mB:=q) hz hzl g r hbd.2.1 hbd.2.2 hco S N;have st0:=Step.del hR b;have G:=Step.alloc (base:=base) st0.rel (.vec el y) (.cells (⟨(J.take (k*i.size)).map Dt.v⟩++⟨cs⟩++fX) el (0,0)) 0 cap
     (M:={ w with drawn:=w.drawn+1,heap:=w.heap.push (.cells (⟨(J.take (k*i.size)).map Dt.v⟩++⟨cs⟩++fX) el (0,0)) }) rfl rfl rfl rfl
     (λA hg=>by
       refine⟨_,0,0,J.take (k*i.size)++ds,rfl,bG hg _ _ hys,λj d U=>?_,⟨i,V,g4,?_,?_,0,by simp⟩,λoff _ h=>absurd h (qO _),bD _⟩
       .have hj2:(((J.take (k*i.size)).map Dt.v)++cs)[j]? =some d.v:=by
          rw[<-hds,<-List.map_append,kh,U];rfl
        have Pv:j<(((J.take (k*i.size)).map Dt.v)++cs).length:=(my.1 hj2).1;rw[eD,CC (by simpa using Pv)];simpa using hj2
       .grind
       .grind)
    have W:=Step.ghost G.rel (.val (.int .i64 (.ofNat cap))) (λ_=>rfl);have m:=(st0.trans G).trans W;refine⟨_,.slice (some ⟨w.heap.size,0,none⟩) (k+f) cap,_,?_,?_,m⟩
    .simp only[VS,aS,F,bw];rfl
    .have e0:s.next≠s.next+1:=by omega
     have a1:=bG m.grow _ _ Q;simp only[ai,cV];refine⟨⟨w.heap.size,0,cap,none⟩,?_,_,a1,.val (.int .i64 (.ofNat cap)),?_,?_⟩
     .exact(av e0).trans (aJ trivial)
     .show((if s.next+1=s.next+1 then _ else _:Option Loc).bind λl=>l.v)=_;rw[aJ rfl];rfl
     .exact qT (l:=⟨w.heap.size,0,cap,none⟩) hc1 (bD _)
   .
    have hkk:(k+f)*i.size<=B.cp*i.size:=kZ _ (by omega);have hkm:(k+f)*i.size=k*i.size+f*i.size:=eh _ _ _;have F:=gH (P:=C.P) B.aO el lo H cs (B.dl+k*i.size) 0 vs w Y (by omega) acZ (by
     intro p hp1 hp2 hp;rcases g8 p hp.1 hp.2 with h|h<;>omega)
    have hap:=jO (w:=w) m hxt hT (rest:=rest) (rt:=rt) (b:=some ⟨B.aO,B.dl,none⟩) (eZ:=k) (mB:=q) g r
     (λad h=>by obtain rfl:=ae h;rw[addr_add];exact F) (λh=>by cases h)
    have G:=Step.move hR hb hl (y:=.vec el y) (T:=.cells (h1 vs (B.dl+k*i.size+0) cs) el (lo,H)) rfl (λA hg=>by
     refine⟨_,lo,H,J.take (k*i.size)++ds,rfl,bG hg _ _ hys,λj d U=>?_,⟨i,V,g4,by rw[hlen];exact hkk,by rw[dJ];exact g6,g7⟩,λoff a b=>by rw[dJ];exact g8 off a b,g9⟩;rw[hY _ _ _ _ (by omega)];rcases I1 j d U with⟨h,hh⟩|⟨h,h',hh⟩
     .rw[av (by omega)];exact g2 j d hh
     .grind)
    have W:=Step.ghost G.rel (.val (.int .i64 (.ofNat q))) (λ_=>rfl);have m:=G.trans W;refine⟨_,.slice (some ⟨B.aO,B.dl,none⟩) (k+f) q,_,?_,?_,m⟩
    .simp only[VS,aS,hap,bw];rfl
    .have e0:s.next≠s.next+1:=by omega
     have a1:=bG m.grow _ _ Q;simp only[ai,cV];refine⟨B,?_,_,a1,.val (.int .i64 (.ofNat q)),?_,?_⟩
     .exact(av e0).trans (aJ trivial)
     .show((if s.next+1=s.next+1 then _ else _:Option Loc).bind λl=>l.v)=_;rw[aJ rfl];rfl
     .exact qT r hq
  |_=>trivial
end
section
variable{C:Ctx}{base:Nat}{E:G}{s:S}{w:World}{nt:Nat}{t:Tr AV}{a:Act}
theorem mH{P:Program}{n m:Nat}{x:AV}{f:Value}(Z:ai E x=some f){r:Array Value}(w:World)(d:Nat)(h:(Builtin.firstCells n m f).run P w=.ok r w)
  (s:∀aO off j v,f=.slice (some ⟨aO,off,none⟩) j v->True):(Builtin.firstCells n m f).run P { w with drawn:=d }=.ok r { w with drawn:=d }:=by
 cases f with
 |slice b l c=>
  cases b with
  |none=>simp only[Builtin.firstCells,bE,Result.ok.injEq]at h ⊢;exact⟨h.1,eI⟩
  |some ad=>
   simp only[Builtin.firstCells]at h ⊢;have key:∀(k i:Nat)(acc:Array Value)(r:Array Value),(loadCellsFrom ad i k acc).run P w=.ok r w->(loadCellsFrom ad i k acc).run P { w with drawn:=d }=.ok r { w with drawn:=d }:=by
    intro k;induction k with
    |zero=>intro i acc r h;simp only[loadCellsFrom,bE,Result.ok.injEq]at h ⊢;exact⟨h.1,eI⟩
    |succ k o=>
     intro i acc r h;simp only[loadCellsFrom,aS,run_load]at h ⊢;have a:World.cell? { w with drawn:=d } (ad.add i)=w.cell? (ad.add i):=rfl;have g:World.farLoad P { w with drawn:=d } (ad.add i) (Mode.plain==Mode.atomic)=w.farLoad P (ad.add i) (Mode.plain==Mode.atomic):=rfl;rw[a,g];cases p:w.cell? (ad.add i)with
     |some v=>rw[p]at h;simp only[bw]at h ⊢;exact o _ _ _ h
     |none=>
      rw[p]at h;cases q:w.farLoad P (ad.add i) (Mode.plain==Mode.atomic)with
      |ok x=>rw[q]at h;simp only[bw]at h ⊢;exact o _ _ _ h
      |error e=>rw[q]at h;simp only[Result.andThen_halt]at h;cases h
   exact key _ _ _ _ h
 |string F=>simp only[Builtin.firstCells,bE,Result.ok.injEq]at h ⊢;exact⟨h.1,eI⟩
 |_=>simp[Builtin.firstCells]at h
theorem OC(H:Good C)(J:Rel C base E s w){e:TypeId}{i:TI}(V:C.T.get e=some i)(K:y1 C.P e i)(xd:TypeDesc){z:List AV}(L:i.zero=some z)(t:z.length=i.size)(x:AV)(p:Value)(Z:ai E x=some p):
  (a1K s e i.size i.bytes z x (zK xd)).path (λr=>∃cs,aN E r.2=some cs/\r.2.length=r.1*i.size/\a11 C.P w xd i e p r.1 cs):=by
 cases b:zK xd with
 |false=>
  refine R.aZ ?_ (ym H J e V x p Z);rintro r ⟨cs,c,f,g,u⟩;have a:(Builtin.firstCells i.size r.1 p).run C.P w=.ok ⟨cs⟩ w:=by have:=u r.1 (bD _);rw[this];congr 2;rw[gp (by rw[bJ c,f];exact bD _)]
  exact⟨cs,c,f,.inl ⟨b,g,λd=>mH (E:=E) Z w d a (λ_ _ _ _ _=>trivial)⟩⟩
 |true=>
  show(do let n <-Ei x;cq (Nat.ble (Nat.mul n i.bytes) 68719476736&&Nat.ble n 68719476736) _;R.ok (n,N7 z n):R (Nat×List AV)).path _;refine R.bR _ (pX x) λn h=>?_
  obtain⟨k,rfl⟩:=h;refine R.bR _ (R.bf _ _) λ_ v=>?_
  simp only[aM]at v;have I:n*i.bytes<=68719476736:=bZ v.1;have Y:n<=68719476736:=bZ v.2;simp only[ai,aD]at Z;subst Z;obtain⟨zv,y,A⟩:=K.zero z L;have G:=A E;have l:zv.cells.toList.length=i.size:=by rw[bJ G,t]
  obtain⟨q,B,D,F⟩:=uW G n;refine⟨q,B,?_,.inr ⟨b,⟨k,rfl⟩,I,Y,zv,y,?_⟩⟩
  .grind[bJ,N7]
  .have h:n*i.size=n*zv.cells.toList.length:=by rw[l]
   by_cases M:n*i.size=0
   .grind
   .rw[av M];unfold Builtin.zeroCells;have o:zv.cells.size=i.size:=by simpa using l
    rw[o];have:=Xn (n:=n*i.size) (m:=n) h zv.cells (λ_=>rfl) (q:=q) (by rw[D,<-h]) (λj N=>F j (by rw[<-h];exact N));rw[o]at this;exact this
theorem NI{int:Bool}{x base:AV}{b:Nat}{n e:SE}(h:K2 int x base=some (b,n,e)):int=false/\∃c,x=.cE .str e/\base=.iI b n c:=by
 unfold K2 at h;cases int with
 |true=>cases h
 |false=>
  simp only at h;split at h
  .grind[r8,kA]
  .cases h
theorem Wm(hC:Good C)(T:Rel C base E s w)(argTypes:List TypeId)(args:List AV)(Z:List Value)(abr:aN E args=some Z)(rt:TypeId):
  (H0 C s argTypes args).path (eY C base E s w ((VS (Builtin.append_ ⟨argTypes⟩ rt ⟨Z⟩)).run C.P w)):=by
 unfold H0;split
 case h_2=>trivial
 rename_i bv x st xt rest;obtain⟨cb,cl1,a,I,rfl⟩:=aL.1 abr;obtain⟨cx,cl2,hcx,Y,rfl⟩:=aL.1 I;simp only[aN,aD]at Y;subst Y;refine R.bR _ (b9 hC st) λd hd=>?_
 cases d with
 |slice e=>
  refine R.bR _ (c6 hC e) λi V=>?_
  refine R.bR _ (b9 hC xt) λxd H=>?_
  refine R.bR _ (R.bf _ _) λ_ hg=>?_
  have a7C:Nat.beq i.size 0=false:=by simpa using hg
  have hsz:i.size≠0:=by intro h;rw[h]at a7C;cases a7C
  refine R.bR (λz=>i.zero=some z) ?_ λz hz=>?_
  .grind[R.aZ,xp]
  refine R.bR _ (R.bf _ _) λ_ hg2=>?_
  have hzl:z.length=i.size:=bj hg2;cases hss:K2 (zK xd) x bv with
  |some p=>
   obtain⟨b,n,ex⟩:=p;obtain⟨hxi,c,rfl,rfl⟩:=NI hss;obtain⟨dd,hX,⟨tx,rfl⟩,rfl⟩:=ek hcx;exact OB hC T hd H V.1 V.2 hz hzl a hX (λI=>.inl ⟨hxi,λ_=>rfl,λd=>by
    obtain⟨⟨l⟩⟩:=tx;have J:(ByteArray.mk ⟨l⟩).size=l.length:=rfl;simp only[Builtin.firstCells,Dt.v,J,u7];rw[bE];congr 1;apply Array.ext';simp⟩)
  |none=>
  simp only;refine R.bR _ (OC hC T V.1 V.2 xd hz hzl x cx hcx) λr hr=>?_
  obtain⟨cs,y,K,g⟩:=hr;have t:cs.length=r.1*i.size:=by rw[bJ y,K]
  have f:∀(b:Option Addr)(eZ mB:Nat)(G:List Value)(p0:List AV),cb=.slice b eZ mB->aN E p0=some G->p0.length=eZ*i.size->mB<eZ+r.1->
    (Builtin.firstCells i.size eZ (.slice b eZ mB)).run C.P w=.ok ⟨G⟩ w->
    (Dr s e i.size i.bytes (eZ+r.1) (p0++r.2)).path (eY C base E s w ((VS (Builtin.append_ ⟨st::xt::rest⟩ rt ⟨[cb,cx]⟩)).run C.P w)):=by
   intro b eZ mB G p0 abq u L adg hco;refine R.bR _ (R.bf _ _) λ_ hg=>?_
   simp only[aM]at hg;have hby:(eZ+r.1)*i.bytes<=68719476736:=bZ hg.1.1;have Mq:eZ+r.1<=68719476736:=bZ hg.1.2;obtain⟨cap,fX,hc1,hc2,D⟩:=lh (w:=w) hC hd H V.1 V.2 (rest:=rest) (rt:=rt) hz hzl g adg hby Mq
    (λd=>mH (E:=E) (x:=bv) (by rw[a,abq]) w d hco (λ_ _ _ _ _=>trivial))
    (by rw[bJ u,L]) t
   have I1:=eU u y;have N:=Step.alloc (base:=base) T (ic e (p0++r.2)) (.cells (⟨G⟩++⟨cs⟩++fX) e (0,0)) 0 cap
    (M:={ w with drawn:=w.drawn+1,heap:=w.heap.push (.cells (⟨G⟩++⟨cs⟩++fX) e (0,0)) }) rfl rfl rfl rfl
    (fu V.1 I1 (by rw[cg,L,K,<-eh];exact kZ _ hc1)
      (by
        simp only[AJ,List.size_toArray];rw[hc2,bJ u,L,t,<-eh,<-eh];rw[show eZ+r.1+(cap-(eZ+r.1))=cap by omega];exact bD _)
      (λj c hj=>by
        rw[CC (by
         simp only[AJ,List.size_toArray];rcases ed j (G++cs).length with h|h
         .simpa using h
         .rw[List.getElem?_eq_none h]at hj;cases hj)]
        simpa using hj) _ 0 false 0 0 (by omega))
   refine⟨_,.slice (some ⟨w.heap.size,0,none⟩) (eZ+r.1) cap,_,?_,?_,N⟩
   .rw[abq];simp only[VS,aS,D,bw];rfl
   .simp only[ai,bc,cM,aD];simp only[eD,Nat.sub_zero];congr 2;split<;>simp
  cases bv with
  |dq=>
   simp only[ai,aD]at a;show(match r.1 with|0=>R.bad _|m+1=>Dr s e i.size i.bytes (m+1) r.2).path _;cases hn:r.1 with
   |zero=>exact R.bg _ _
   |succ m=>show(Dr s e i.size i.bytes (m+1) r.2).path _;have:=f none 0 0 [] [] a.symm rfl (by simp) (by omega) (by simp[Builtin.firstCells]);rw[hn]at this;simpa using this
  |sl b off len cap=>
   simp only[ai,bk]at a;obtain⟨B,J,a⟩:=a;show(a1L s e i.size i.bytes b off len cap r.1 r.2).path _;unfold a1L;cases hle:Nat.ble (Nat.add len r.1) cap with
   |true=>
    have abi:len+r.1<=cap:=bZ hle;show(jm s b (Nat.add off (Nat.mul len i.size)) r.2>>=λF=>R.ok (Nx.val (.sl b off (Nat.add len r.1) cap) F)).path _;refine R.bR _ (uA T b _ r.2 cs y B J) λF hs'=>?_
    obtain⟨M,hw1,hw2⟩:=hs';have:=jO (w:=w) (M:=M) hd H V.2 (rest:=rest) (rt:=rt) (b:=some ⟨B.aO,B.dl+off,none⟩) (eZ:=len) (mB:=cap) g abi
     (λad h=>by obtain rfl:=ae h;rw[addr_add,kf];exact hw1) (λh=>by cases h)
    rw[<-a];refine⟨E,.slice (some ⟨B.aO,B.dl+off,none⟩) (len+r.1) cap,M,?_,?_,hw2⟩
    .simp only[VS,aS,this,bw];rfl
    .simp only[ai,J];rfl
   |false=>
    have hgt:cap<len+r.1:=by
     rcases ed cap (len+r.1)with h|h
     .exact h
     .have:=w4 h;rw[show len.add r.1=len+r.1 from rfl,this]at hle;cases hle
    show(uw s b off (Nat.mul len i.size)>>=λp0=>Dr s e i.size i.bytes (Nat.add len r.1) (p0++r.2)).path _;refine R.bR _ (oW T b off _) λp0 u=>?_
    obtain⟨lc',G,q1,q2,q3,q4⟩:=u;rw[J]at q1;obtain rfl:=ae q1;exact f (some ⟨B.aO,B.dl+off,none⟩) len cap G p0 a.symm q2 q3 hgt (by
     simp only[Builtin.firstCells];exact eX q4 _ (by rw[bJ q2];exact q3))
  |qY b pre e0 len E0=>
   have adL:=a;simp only[ai,bk]at a;obtain⟨B,J,a⟩:=a;show(match r.1 with|0=>R.bad _|m+1=>(match Nat.beq i.size E0 with|true=>H2 s e i.size i.bytes b pre e0 len (m+1) r.2|false=>R.bad _)).path _;cases hn:r.1 with
   |zero=>exact R.bg _ _
   |succ m=>
    show(match Nat.beq i.size E0 with|true=>H2 s e i.size i.bytes b pre e0 len (m+1) r.2|false=>R.bad _).path _;cases hbs:Nat.beq i.size E0 with
    |false=>trivial
    |true=>
     have acX:i.size=E0:=bj hbs;subst acX;show(H2 s e i.size i.bytes b pre e0 len (m+1) r.2).path _;rw[hn]at g t K;unfold H2;cases hb:s.h.get b with
     |none=>trivial
     |some q=>
      cases q with
      |cells el cells k fz gU st' sg=>
       cases st' with
       |true=>trivial
       |false=>
        simp only;refine R.bR _ (R.bf _ _) λ_ hg3=>?_
        have hel:el=e:=bj hg3;subst hel;obtain⟨O,o,q1,q2,vs,lo,a3V,hoo,g1,g2,⟨ii,g3,g4,g5,_,_⟩,g6,_⟩:=T.aO b _ hb;rw[J]at q1;obtain rfl:=ae q1;subst hoo;rw[V.1]at g3;obtain rfl:=ae g3;cases hin:Nat.ble (Nat.mul (Nat.add (Nat.add e0 len) (m+1)) i.size) k with
        |true=>
         have ac4:(e0+len+(m+1))*i.size<=k:=bZ hin;have Q:e0+len+(m+1)<=B.cp:=FM (iG ac4 g4) (uc hsz);show(jm s b (Nat.mul (Nat.add e0 len) i.size) r.2>>=λF=>R.ok (Nx.val (.qY b pre e0 (Nat.add len (m+1)) i.size) F)).path _;refine R.bR _ (uA T b _ r.2 cs y B J) λF hs'=>?_
         obtain⟨M,hw1,hw2⟩:=hs';have X:e0<B.cp:=by omega
         have:=jO (w:=w) (M:=M) hd H V.2 (rest:=rest) (rt:=rt) (b:=some ⟨B.aO,B.dl+(if e0<B.cp then e0 else pre)*i.size,none⟩) (eZ:=len) (mB:=B.cp-e0) g (by omega)
          (λad h=>by
            obtain rfl:=ae h;rw[aJ X,addr_add];rw[show B.dl+e0*i.size+len*i.size=B.dl+(e0+len)*i.size by rw[eh];omega];exact hw1) (λh=>by cases h)
         rw[<-a];refine⟨E,.slice (some ⟨B.aO,B.dl+(if e0<B.cp then e0 else pre)*i.size,none⟩) (len+(m+1)) (B.cp-e0),M,?_,?_,hw2⟩
         .simp only[VS,aS,this,bw];rfl
         .simp only[ai,J];rfl
        |false=>
         show(SU s el i.size i.bytes b e0 len (m+1) cells k fz gU sg r.2).path _;unfold SU;refine R.bR _ (R.bf _ _) λ_ hg4=>?_
         simp only[aM]at hg4;obtain⟨⟨⟨⟨⟨p1,p2⟩,p3⟩,p4⟩,p5⟩,p6⟩:=hg4;have hk:(e0+len)*i.size=k:=bj p1;have hfz:fz<=k:=bZ p5;have adF:e0+len<=B.cp:=FM (by rw[hk];exact g4) (uc hsz);refine R.bR _ (jT g2 (Nat.mul len i.size) (Nat.mul e0 i.size) (by show e0*i.size+len*i.size<=k;rw[<-eh,hk];exact bD _)) λp0 u=>?_
         obtain⟨G,o1,o2,o3⟩:=u;have o2':p0.length=len*i.size:=o2;have adN:b<s.next:=T.lt J;by_cases Q:e0+len+(m+1)<=B.cp
         .
          have X:e0<B.cp:=by omega
          have hmul:(e0+len+(m+1))*i.size<=B.cp*i.size:=kZ _ Q;have ac7:(e0+len+(m+1))*i.size=k+(m+1)*i.size:=by rw[eh,hk]
          have hst:=gH (P:=C.P) B.aO el lo a3V cs (B.dl+k) 0 vs w q2 (by rw[t];omega) (n5 p6 y) (by
           intro q hq1 hq2 hq;rcases g6 rfl q hq.1 hq.2 with h|⟨_,h⟩
           .omega
           .rw[t]at hq2;omega)
          have D:=jO (w:=w) (M:={ w with heap:=w.heap.setIfInBounds B.aO (.cells (h1 vs (B.dl+k+0) cs) el (lo,a3V)) }) hd H V.2 (rest:=rest) (rt:=rt)
           (b:=some ⟨B.aO,B.dl+(if e0<B.cp then e0 else pre)*i.size,none⟩) (eZ:=len) (mB:=B.cp-e0) g (by omega)
           (λad h=>by
             obtain rfl:=ae h;rw[aJ X,addr_add];rw[show B.dl+e0*i.size+len*i.size=B.dl+k by rw[<-hk,eh];omega];exact hst) (λh=>by cases h)
          have hal:=T.alias hb J q2 V.1 hk Q o1 y o2' K (λj v hj=>o3 j v hj) hfz
           { w with heap:=w.heap.setIfInBounds B.aO (.cells (h1 vs (B.dl+k+0) cs) el (lo,a3V)) } rfl
          rw[<-a];refine⟨λid=>if id=s.next then some ⟨B.aO,B.dl+e0*i.size,B.cp-e0,none⟩else E id,.slice (some ⟨B.aO,B.dl+(if e0<B.cp then e0 else pre)*i.size,none⟩) (len+(m+1)) (B.cp-e0),_,(by simp only[VS,aS,D,bw];rfl),?_,?_⟩
          .have:¬(B.cp-e0=0):=by omega
           simp only[ai,bc,cM,aD];rw[aJ X,aJ (by omega)];simp
          .refine Step.of' ⟨?_,hal,⟨by simp,rfl,rfl,rfl,?_⟩,?_,Nat.le_succ _,λ_ _ h=>T.lt h,?_,?_⟩ λid O d I Y=>(by
             by_cases e:id=s.next
             .simp only[e,bc,aD]at I;subst I;cases Y
             .simp only[e,br]at I;exact⟨id,O,I,Y⟩)
           .intro id l hl';have:id≠s.next:=gE (T.lt hl');exact⟨l,by simp[this,hl'],rfl,rfl,rfl⟩
           .intro kk ob hkk hnl;have:kk≠B.aO:=λh=>hnl ⟨b,_,B,hb,rfl,J,h.symm⟩
            simp[dt this,hkk]
           .rintro kk ⟨id,x',l,I,Y,W,U⟩ _;simp only[Tr.bY]at I;by_cases e1:s.next=id
            .subst e1;simp only[bc]at W;obtain rfl:=ae W;exact⟨b,_,B,hb,rfl,J,U⟩
            .rw[av e1]at I;have e1':id≠s.next:=dt e1;simp only[e1',br]at W;by_cases e2:b=id
             .subst e2;simp only[bc,aD]at I;subst I;cases Y
             .rw[av e2]at I;exact⟨id,x',l,I,Y,W,U⟩
           .intro id O h;by_cases e:id=s.next
            .simp only[e,bc,aD]at h;subst h;exact .inr ⟨by omega,.inr ⟨b,_,B,hb,J,rfl⟩⟩
            .simp only[e,br]at h;exact .inl ⟨O,h⟩
           .intro id x' I adE;simp only[Tr.bY]at I;rw[av (by omega)]at I;by_cases e2:b=id
            .subst e2;exact⟨_,hb⟩
            .rw[av e2]at I;exact⟨x',I⟩
         .
          have hby:(len+(m+1))*i.bytes<=68719476736:=bZ p2;have Mq:len+(m+1)<=68719476736:=bZ p3;have S:G.length=len*i.size:=by rw[bJ o1,o2']
          have hco:(Builtin.firstCells i.size len (.slice (some ⟨B.aO,B.dl+(if e0<B.cp then e0 else pre)*i.size,none⟩) len (B.cp-e0))).run C.P w=.ok ⟨G⟩ w:=by
           simp only[Builtin.firstCells];by_cases abh:len=0
           .subst abh;have:G=[]:=FN (by rw[S];simp);subst this;simp only[mr];rfl
           .have X:e0<B.cp:=by omega
            rw[aJ X];refine eX (λj v hj=>?_) _ S;have hv:=o3 j v hj;have hv':vs[B.dl+e0*i.size+j]? =some v:=hv;simp only[World.cell?,q2];simpa using hv'
          obtain⟨cap,fX,hc1,hc2,D⟩:=lh (w:=w) hC hd H V.1 V.2 (rest:=rest) (rt:=rt) (b:=some ⟨B.aO,B.dl+(if e0<B.cp then e0 else pre)*i.size,none⟩) (mB:=B.cp-e0) hz hzl g (by omega) hby Mq
           (λd=>mH (E:=E) (x:=.qY b pre e0 len i.size) (by simp only[ai,J];rfl) w d hco (λ_ _ _ _ _=>trivial))
           S t
          have I1:=eU o1 y;have hst:=Step.gV T hb;have N:=Step.alloc (base:=base) hst.rel (.cells el (Tr.ofList (p0++r.2)) ((len+(m+1))*i.size) (fz-e0*i.size) (b::gU) false sg) (.cells (⟨G⟩++⟨cs⟩++fX) el (0,0)) 0 cap
           (M:={ w with drawn:=w.drawn+1,heap:=w.heap.push (.cells (⟨G⟩++⟨cs⟩++fX) el (0,0)) }) rfl rfl rfl rfl
           (by
             intro A g1;have:=fu (C:=C) V.1 I1 (by rw[cg,o2',K,<-eh];exact kZ _ hc1) (arr:=⟨G⟩++⟨cs⟩++fX)
              (by
                simp only[AJ,List.size_toArray];rw[hc2,S,t,<-eh,<-eh];rw[show len+(m+1)+(cap-(len+(m+1)))=cap by omega];exact bD _)
              (λj c hj=>by
                rw[CC (by
                 simp only[AJ,List.size_toArray];rcases ed j (G++cs).length with h|h
                 .simpa using h
                 .rw[List.getElem?_eq_none h]at hj;cases hj)]
                simpa using hj) w.heap.size (fz-e0*i.size) sg 0 0 (by omega) (by omega) A g1
             rw[cg,o2',K,<-eh]at this;exact this)
          refine⟨_,.slice (some ⟨w.heap.size,0,none⟩) (len+(m+1)) cap,_,?_,?_,hst.trans N⟩
          .rw[<-a];simp only[VS,aS,D,bw];rfl
          .simp only[ai,bc,cM,aD];simp only[eD,Nat.sub_zero];congr 2;split<;>simp
      |_=>trivial
  |iI b n c=>exact OA hC T hd H V.1 V.2 hz hzl a y K g
  |_=>trivial
 |_=>trivial
end
section
variable{C:Ctx}{base:Nat}{E:G}{s:S}{w:World}{nt:Nat}{t:Tr AV}{a:Act}
def a1Y(E:G)(s:S)(w:World)(x:AV)(a:Value)(m:List ME×Nat):Prop:=
 (x=.ko/\a=.map none/\m=([],0))\/
 (∃r B iZ,x=.qf r/\E r=some B/\a=.map (some B.aO)/\s.h.get r=some (.map m.1 m.2)/\w.heap[B.aO]? =some (.map iZ m.2)/\
   ep E m.1 iZ.toList/\(∃d,∀e∈m.1,keyOf d e.k=true))
theorem DQ(f:Rel C base E s w)(x:AV)(a:Value)(Z:ai E x=some a):(Sn s x).path (a1Y E s w x a):=by
 cases x with
 |ko=>simp only[ai,aD]at Z;exact .inl ⟨rfl,Z.symm,rfl⟩
 |qf r=>
  simp only[ai,bk]at Z;obtain⟨B,d,rfl⟩:=Z;show(match s.h.get r with|some (.map J c)=>R.ok (J,c)|_=>R.bad _).path _;cases e:s.h.get r with
  |none=>trivial
  |some b=>
   cases b with
   |map J c=>obtain⟨O,o,I,Y,iZ,rfl,W,U⟩:=f.aO r _ e;rw[d]at I;obtain rfl:=ae I;exact .inr ⟨r,B,iZ,rfl,d,rfl,e,Y,W,U⟩
   |_=>trivial
 |_=>trivial
theorem JF{P:Program}{r c:Nat}{J:Array MapEntry}{w:World}(h:w.heap[r]? =some (.map J c)):(getObj r).run P w=.ok (.map J c) w:=by simp[getObj,Sem.run,h]
theorem yi{P:Program}{x:Array TypeId}{rt:TypeId}{ad:Addr}{l c:Nat}{w:World}(h:c≠0):
  (Builtin.unsafeSliceData_ x rt ⟨[.slice (some ad) l c]⟩).run P w=.ok (.pointer (some ad)) w:=by
 have:Builtin.unsafeSliceData_ x rt ⟨[.slice (some ad) l c]⟩=(if c≠0 then pure (.pointer (some ad))else _):=rfl;rw[this,aJ h];rfl
theorem ep.len:∀{J:List ME}{L:List MapEntry},ep E J L->J.length=L.length
 | [],[],_=>rfl
 |_::_,_::_,h=>by simp[ep.len h.2]
 | [],_::_,h=>h.elim
 |_::_,[],h=>h.elim
theorem a7c(D:Good C)(p:Rel C base E s w)(argTypes:List TypeId)(args:List AV)(f:List Value)(j:aN E args=some f)(rt:TypeId):
  (P7 C s argTypes args).path (eY C base E s w ((VS (Builtin.len_ ⟨argTypes⟩ rt ⟨f⟩)).run C.P w)):=by
 unfold P7;split
 case h_2=>trivial
 rename_i x t rest;obtain⟨r,F,a,I,rfl⟩:=aL.1 j;simp only[aN,aD]at I;subst I;refine R.bR _ (b9 D t) λd m=>?_
 have key:∀n:Nat,((Builtin.len_ ⟨t::rest⟩ rt ⟨[r]⟩).run C.P w=.ok (goInt n) w)->(R.ok (Nx.val (.int .i64 (.ofNat n)) s)).path (eY C base E s w ((VS (Builtin.len_ ⟨t::rest⟩ rt ⟨[r]⟩)).run C.P w)):=
  λn h=>fh p h rfl
 have o:∀v,Hc d x=some v->(R.ok (Nx.val v s)).path (eY C base E s w ((VS (Builtin.len_ ⟨t::rest⟩ rt ⟨[r]⟩)).run C.P w)):=by
  intro v i;unfold Hc at i;cases d<;>first|(cases i;done)|skip
  .cases x<;>first|(cases i;done)|skip
   rename_i k e;cases k<;>first|(cases i;done)|skip
   obtain rfl:=ae i;obtain⟨d',I,⟨z,rfl⟩,rfl⟩:=ek a;refine fh p (c:=goInt z.size) ?_ (eA (d:=.val (.int .i64 z.size)) (by simp only[ax,I,bn,e1]) ⟨_,rfl⟩ rfl);simp only[Builtin.len_,mx,dj];rw[bb m];rfl
  .cases x<;>first|(cases i;done)|skip
   .rename_i k e;cases k<;>first|(cases i;done)|skip
    obtain rfl:=ae i;obtain⟨d',I,⟨H,sn,K,g,J,rfl⟩,rfl⟩:=ek a;refine fh p (c:=goInt sn) ?_ (eA (d:=.val (.int .i64 sn)) (by simp only[ax,I,bn,e1]) ⟨_,rfl⟩ rfl);simp only[Builtin.len_,mx,dj];rw[bb m];rfl
   .rename_i b n c;obtain rfl:=ae i;obtain⟨B,k,q,A,u,G,hk,L,rfl⟩:=ja a;refine fh p (c:=goInt k) ?_ (by rw[Ad];exact eA (d:=.val (.int .i64 k)) u ⟨_,rfl⟩ rfl);simp only[Builtin.len_,mx,dj];rw[bb m];rfl
 show(match Hc d x with|some v=>R.ok (Nx.val v s)|none=>(a0e C s d x>>=λn=>R.ok (Nx.val (.int .i64 (.ofNat n)) s))).path _;cases y:Hc d x with
 |some v=>exact o v y
 |none=>
 simp only;cases d with
 |string=>
  cases x with
  |str l=>simp only[ai,aD]at a;subst a;refine key _ ?_;simp only[Builtin.len_,mx,dj];rw[bb m];rfl
  |_=>trivial
 |slice e=>
  cases x with
  |dq=>simp only[ai,aD]at a;subst a;refine key _ ?_;simp only[Builtin.len_,mx,dj];rw[bb m];rfl
  |sl b off len cap=>simp only[ai,bk]at a;obtain⟨B,A,rfl⟩:=a;refine key _ ?_;simp only[Builtin.len_,mx,dj];rw[bb m];rfl
  |qY b pre e0 len g=>simp only[ai,bk]at a;obtain⟨B,A,rfl⟩:=a;refine key _ ?_;simp only[Builtin.len_,mx,dj];rw[bb m];rfl
  |_=>trivial
 |_=>trivial
theorem LU(v:Good C)(l:Rel C base E s w)(argTypes:List TypeId)(args:List AV)(a:List Value)(f:aN E args=some a)(rt:TypeId):
  (wK C s argTypes args).path (eY C base E s w ((VS (Builtin.unsafeSliceData_ ⟨argTypes⟩ rt ⟨a⟩)).run C.P w)):=by
 unfold wK;split
 .rename_i b pre e0 len g;obtain⟨z,o,j,I,rfl⟩:=aL.1 f;simp only[aN,aD]at I;subst I;simp only[ai,bk]at j;obtain⟨B,m,rfl⟩:=j;split
  .rename_i st rest n;refine R.bR _ (b9 v st) λd G=>?_
   cases d with
   |slice e=>
    refine R.bR _ (c6 v e) λi V=>?_
    refine R.bR _ (R.bf _ _) λ_ A=>?_
    obtain⟨_,_,p⟩:=BD l V.1 m A;have x:e0+(n+1)<=B.cp:=p;refine fh l (c:=.pointer (some ⟨B.aO,B.dl+e0*g,none⟩)) ?_ (by simp[ai,m]);have r:e0<B.cp:=by omega
    have t:B.cp-e0≠0:=by omega
    rw[aJ r];exact yi t
   |_=>trivial
  .trivial
 .rename_i b n c;obtain⟨z,o,j,I,rfl⟩:=aL.1 f;simp only[aN,aD]at I;subst I;obtain⟨B,k,q,m,u,D,hk,H,rfl⟩:=ja j;refine R.gb l λF=>?_
  have y:0<k:=by
   rcases Nat.eq_zero_or_pos k with h|h
   .subst h;exact absurd ⟨_,_,rfl,by decide⟩ (j6 F (a6V u))
   .exact h
  refine fh l (c:=.pointer (some ⟨B.aO,B.dl,none⟩)) (yi (by omega)) ?_;simp only[ai,m,bn,ax];show(if 0<B.cp then some (Value.pointer (some ⟨B.aO,B.dl+(0*1+0),none⟩))else none)=_;rw[aJ (by omega)];simp
 .trivial
end
section
variable{C:Ctx}{base:Nat}{E:G}{s:S}{w:World}{nt:Nat}{t:Tr AV}{a:Act}
theorem N0{P:Program}(k:IntKind)(n:Int)(w:World):(Go.asInt (.int k n)).run P w=.ok n w:=rfl
theorem JE{P:Program}{r c:Nat}{J lS:Array MapEntry}{c':Nat}{w:World}(h:w.heap[r]? =some (.map J c)):
  (setObj r (.map lS c')).run P w=.ok () { w with heap:=w.heap.setIfInBounds r (.map lS c') }:=by
 have a:r<w.heap.size:=by grind
 simp only[setObj,Sem.run,h]
theorem Step.YK (m:Rel C base E s w) {r c:Nat} {J:List ME} {iZ:Array MapEntry} {B:Loc} (g:s.h.get r=some (.map J c)) (f:E r=some B) (ho:w.heap[B.aO]? =some (.map iZ c))
  {lS:List ME} {c':Nat} {b:Array MapEntry} (I:ep E lS b.toList) (Y:∃d,∀e∈lS,keyOf d e.k=true):
  Step C base E s w E ⟨s.h.set r (.map lS c'),s.next,s.pc⟩ { w with heap:=w.heap.setIfInBounds B.aO (.map b c') }:=by
 have n:B.aO<w.heap.size:=by grind
 have a:∀i x li,i≠r->(s.h.set r (.map lS c')).get i=some x->E i=some li->li.aO=B.aO->False:=by
  intro i x li V Z j p;rw[Tr.get_set_other _ _ (dt V)]at Z;rcases m.sep i r x _ li B Z g j f V p with h|h
  .cases x<;>simp[gR]at h
  .simp[gR]at h
 refine Step.of ⟨Grow.refl E,?_,⟨by simp,rfl,rfl,rfl,?_⟩,?_,bD _,λ_ _ h=>m.lt h,λ_ l h=>.inl ⟨l,h⟩,λid x I _=>by
  simp only[Tr.bY]at I;split at I
  .next h=>subst h;exact⟨_,g⟩
  .exact⟨x,I⟩⟩
 .refine m.CN (N:=.map lS c') (T:=.map b c') g f f ⟨rfl,rfl,rfl⟩ rfl (λ_ _=>rfl) ?_ (Tr.get_set_same _ _ _) ?_ ?_ (by simp) ⟨b,rfl,I,Y⟩
    (λi x li V Z W U=>(a i x li V Z W U).elim) (λi x li V Z W U=>(a i x li V Z W U).elim)
  .grind[Tr.get_set_other]
  .intro k hk;simp[dt hk]
  .simp[n]
 .intro k o hk v;have:k≠B.aO:=λh=>v ⟨r,_,B,g,rfl,f,h.symm⟩
  simp[dt this,hk]
 .rintro k ⟨id,x,l,q,y,t,u⟩ _;simp only[Tr.bY]at q;split at q
  .next h=>subst h;exact⟨_,_,B,g,rfl,f,by rw[f]at t;obtain rfl:=ae t;exact u⟩
  .exact⟨id,x,l,q,y,t,u⟩
theorem R5{d d':TypeDesc}{x y:AV}(I:keyOf d x=true)(Y:keyOf d' x=true)(W:keyOf d' y=true):keyOf d y=true:=by cases d<;>cases d'<;>cases x<;>simp[keyOf]at I Y<;>cases y<;>simp[keyOf]at W ⊢;rw[I,<-Y,W]
theorem D1{d:TypeDesc}{k:AV}{J:List ME}(h:xF d k J=true)(hk:∃d',∀e∈J,keyOf d' e.k=true):keyOf d k=true/\∀e∈J,keyOf d e.k=true:=by
 simp only[xF,aM]at h;refine⟨h.1,?_⟩;obtain⟨d',a⟩:=hk;cases J with
 |nil=>intro e b;cases b
 |cons e0 J=>intro e b;exact R5 h.2 (a e0 (by simp)) (a e b)
theorem Gd{d:TypeDesc}{x y:AV}{b c:Value}(Z:ai E x=some b)(e:ai E y=some c)(I:keyOf d x=true)(Y:keyOf d y=true):
  Instr.sameNow d b c=some (mj x y)/\(mj x y=true->x=y)/\(mj x y=true->Instr.sameBits 10000 c b=true):=by
 cases d<;>cases x<;>simp[keyOf]at I<;>cases y<;>simp[keyOf]at Y<;>simp only[ai,aD]at Z e<;>subst Z<;>subst e
 .simp only[Instr.sameNow,mj,Instr.sameBits,Bool.beq_eq_decide_eq,rC,fp];exact⟨λh=>by rw[h],λh=>h.symm⟩
 .grind[mj,Instr.sameNow,Instr.sameBits]
 .rename_i l m;simp only[Instr.sameNow,mj,Instr.sameBits,Ef];have this:((ByteArray.mk ⟨l⟩:ByteArray)==ByteArray.mk ⟨m⟩)=(l==m):=by
   show((Array.mk l)==Array.mk m)=_;simp
  have a:((ByteArray.mk ⟨m⟩:ByteArray)==ByteArray.mk ⟨l⟩)=(m==l):=by show((Array.mk m)==Array.mk l)=_;simp
  refine⟨by rw[this],λh=>by rw[eq_of_beq h],λh=>by rw[a,eq_of_beq h];simp⟩
def Found(E:G)(d:TypeDesc)(k:AV)(a:Value)(J:List ME)(l:List MapEntry)(b:Nat):Prop:=
 (vg k J=none/\Instr.findNow d a l b=some none)\/
 (∃e i m,vg k J=some e/\Instr.findNow d a l b=some (some (b+i,m.val))/\l[i]? =some m/\xP E e m/\e.k=k/\mj k e.k=true/\e∈J/\
   (∀(v:AV)(c:Value),ai E v=some c->ep E (NU k v J) (l.modify i λx=>{ x with key:=a,val:=c }))/\
   ep E (a4m k J) (l.eraseIdx i))
theorem found(d:TypeDesc)(k:AV)(f:Value)(hk:ai E k=some f)(a:keyOf d k=true):∀(J:List ME)(l:List MapEntry)(c:Nat),ep E J l->(∀e∈J,keyOf d e.k=true)->Found E d k f J l c
 | [],[],c,_,_=>.inl ⟨rfl,rfl⟩
 |e::J,m::l,c,⟨I,Y⟩,j=>by
  obtain⟨s1,s2,r⟩:=Gd hk I.1 a (j e (by simp));unfold Found vg Instr.findNow;rw[s1];cases b:mj k e.k with
  |true=>
   right;refine⟨e,0,m,rfl,rfl,rfl,I,(s2 b).symm,b,by simp,λv n g=>?_,?_⟩
   .simp only[NU,b,List.modify_zero_cons];exact⟨⟨hk,g,I.2.2⟩,Y⟩
   .grind[a4m]
  |false=>
   simp only;rcases found d k f hk a J l (c+1) Y (λe o=>j e (by simp[o]))with⟨a1,a2⟩|⟨p,i,m',a1,a2,a3,a4,a5,a6,a7,q,a9⟩
   .exact .inl ⟨a1,a2⟩
   .right;refine⟨p,i+1,m',a1,?_,by simpa using a3,a4,a5,a6,by simp[a7],λv n g=>?_,?_⟩
    .rw[a2];congr 3;omega
    .simp only[NU,b,List.modify_succ_cons];exact⟨I,q v n g⟩
    .simp only[a4m,b,List.eraseIdx_cons_succ];exact⟨I,a9⟩
 | [],_::_,_,h,_=>h.elim
 |_::_,[],_,h,_=>h.elim
theorem run_findKey{a:TypeId}{d:TypeDesc}(c:C.P.underlying a=some d){b:Value}{l:List MapEntry}{r:Option (Nat×Value)}(h:Instr.findNow d b l 0=some r):
  (Instr.findKey a b l).run C.P w=.ok r w:=by
 unfold Instr.findKey;rw[bb c,h];rfl
theorem run_checkKey{a:TypeId}{d:TypeDesc}(f:C.P.underlying a=some d){k:AV}{c:Value}(hk:ai E k=some c)(e:keyOf d k=true)(b:Bool)(w:World):
  (Instr.checkKey b 10000 a c).run C.P w=.ok () w:=by
 show(Instr.checkKey b (9999+1) a c).run C.P w=.ok () w;unfold Instr.checkKey;rw[bb f];cases d<;>cases k<;>simp[keyOf]at e<;>simp only[ai,aD]at hk<;>subst hk<;>rfl
theorem J6{d:TypeDesc}{k v:AV}(hk:keyOf d k=true):∀{J:List ME},(∀e∈J,keyOf d e.k=true)->∀e∈NU k v J,keyOf d e.k=true
 | [],_,e,a=>by simp[NU]at a
 |x::J,h,e,a=>by
  unfold NU at a;cases b:mj k x.k with
  |true=>
   rw[b]at a;rcases cC.1 a with rfl|a
   .exact hk
   .exact h e (by simp[a])
  |false=>
   rw[b]at a;rcases cC.1 a with rfl|a
   .exact h _ (by simp)
   .exact J6 hk (λe a=>h e (by simp[a])) e a
theorem ep.push:∀{J:List ME}{l:List MapEntry}{e:ME}{m:MapEntry},ep E J l->xP E e m->ep E (J++[e]) (l++[m])
 | [],[],_,_,_,h=>⟨h,eI⟩
 |_::_,_::_,_,_,h,h'=>⟨h.1,ep.push h.2 h'⟩
 | [],_::_,_,_,h,_=>h.elim
 |_::_,[],_,_,h,_=>h.elim
theorem a29(o:Rel C base E s w){r:Nat}{B:Loc}{m:List ME×Nat}{iZ:Array MapEntry}(p:s.h.get r=some (.map m.1 m.2))(q:E r=some B)(ho:w.heap[B.aO]? =some (.map iZ m.2))
  (t:ep E m.1 iZ.toList) (g:∃d,∀e∈m.1,keyOf d e.k=true) {u ty z:TypeId} {d:TypeDesc} (j:C.P.underlying ty=some (.map u z)) (l:C.P.underlying u=some d)
  {k v:AV} {f n:Value} (hk:ai E k=some f) (y:ai E v=some n) (A:xF d k m.1=true):
  ∃M,(Instr.mapUpdate ty (.map (some B.aO)) f n).run C.P w=.ok () M/\Step C base E s w E (a3b s r k v m) M:=by
 obtain⟨b,a⟩:=D1 A g;unfold Instr.mapUpdate;rw[bb j];simp only[aS,JF ho,bw,run_checkKey l hk b];rcases found d k f hk b m.1 iZ.toList 0 t a with⟨a1,a2⟩|⟨e,i,x,a1,a2,a3,a4,a5,a6,a7,D,a9⟩
 .simp only[run_findKey l a2,bw,JE ho];refine⟨_,rfl,?_⟩;unfold a3b;rw[a1];refine Step.YK o p q ho ?_ ⟨d,?_⟩
  .rw[Array.toList_push];exact t.push ⟨hk,y,rfl⟩
  .grind
 .rw[eD]at a2;have Z:iZ[i]? =some x:=by simpa using a3
  have c:Instr.sameBits 10000 (((iZ[i]?).map (·.key)).getD f) f=true:=by rw[Z];have:=(Gd hk a4.1 b (a e a7)).2.2 a6;simpa using this
  simp only[run_findKey l a2,bw,Instr.keyThatStays,c,bc,aS,bE,JE ho];refine⟨_,rfl,?_⟩;unfold a3b;rw[a1];refine Step.YK o p q ho ?_ ⟨d,J6 b a⟩;rw[Array.toList_modify];exact D v n y
theorem BB(g:Good C)(b:Rel C base E s w)(c:aW E nt t a.tmps)(ty:TypeId)(x y z:Operand)(rt:TypeId):
  (gl ty x y z rt C t s).path (eY C base E s w ((US (Instr.mapUpdate ty (a.eval x) (a.eval y) (a.eval z))).run C.P w)):=by
 refine R.bR _ (b9 g ty) λd0 e=>?_
 cases d0 with
 |map i A=>
  refine R.bR _ (b9 g i) λd j=>?_
  refine R.bR _ (bO b c x) λv l=>?_
  cases v with
  |qf r=>
   refine R.bR _ (DQ b _ _ l) λm n=>?_
   refine R.bR _ (bO b c y) λk hk=>?_
   refine R.bR _ (bO b c z) λD f=>?_
   refine R.bR _ (R.bf _ _) λ_ o=>?_
   rcases n with⟨h,_⟩|⟨r',B,iZ,p,q,u,I,Y,W,U⟩
   .cases h
   .cases p;obtain⟨M,g1,g2⟩:=a29 b I q Y W U e j hk f o;rw[u];exact⟨E,M,by simp[US,g1],g2⟩
  |_=>trivial
 |_=>trivial
theorem ur{i ty j:TypeId}{d:TypeDesc}(f:C.P.underlying ty=some (.map i j))(e:C.P.underlying i=some d){g h z:Value}{k:AV}(hk:ai E k=some h)(a:keyOf d k=true)
  {iZ:Array MapEntry} (n:(g=.map none/\iZ=#[])\/∃b c,g=.map (some b)/\w.heap[b]? =some (.map iZ c)) {r:Option (Nat×Value)} (l:Instr.findNow d h iZ.toList 0=some r)
  (m:r=none->∀w,(zeroValue j).run C.P w=.ok z w) (ok:Bool):
  (Instr.lookup ty g h ok).run C.P w=.ok (match r with|some (_,v)=>(if ok then .tuple #[v,.bool true]else v)|none=>(if ok then .tuple #[z,.bool false]else z)) w:=by
 unfold Instr.lookup;rw[bb f];rcases n with⟨rfl,rfl⟩|⟨b,c,rfl,o⟩
 .simp only[aS,bE,bw,run_checkKey e hk a,run_findKey e l];cases r with
  |none=>simp only[aS,m rfl,bw,bE]
  |some p=>rfl
 .simp only[aS,JF o,bE,bw,run_checkKey e hk a,run_findKey e l];cases r with
  |none=>simp only[aS,m rfl,bw,bE]
  |some p=>rfl
theorem a1Y.iZ {m:List ME×Nat} {x:AV} {a:Value} (g:a1Y E s w x a m):∃iZ:Array MapEntry,((a=.map none/\iZ=#[])\/∃b c,a=.map (some b)/\w.heap[b]? =some (.map iZ c))/\
  ep E m.1 iZ.toList/\(∃d,∀e∈m.1,keyOf d e.k=true):=by
 rcases g with⟨_,f,rfl⟩|⟨r',B,iZ,i,j,f,I,Y,W,U⟩
 .exact⟨#[],.inl ⟨f,rfl⟩,eI,.bool,λe h=>by cases h⟩
 .exact⟨iZ,.inr ⟨_,_,f,Y⟩,W,U⟩
theorem rs{v:AV}{c:Value}(h:ai E v=some c)(ok b:Bool):ai E (la ok b v)=some (if ok then .tuple #[c,.bool b]else c):=by
 cases ok
 .exact h
 .simp[la,ai,aN,h]
theorem NF{d:TypeDesc}{k:AV}{f:Value}{J:List ME}{e:SE}(hk:ai E k=some f)(h:F4 d k J=some e):
  ∃b,ai E b=some f/\keyOf d b=true/\jV d J=true/\∀x,keyOf d x=true->ax E (.a2 (.bin .eql) e (ea x))=some (.val (.bool (mj b x))):=by
 unfold F4 at h;cases d<;>first|(cases h;done)|skip
 .cases k<;>first|(cases h;done)|skip
  rename_i q c se;cases c<;>first|(cases h;done)|skip
  rename_i g;simp only at h;cases a:th q g&&jV (.int q) J with
  |false=>rw[a]at h;cases h
  |true=>rw[a]at h;obtain rfl:=ae h;simp only[aM]at a;obtain rfl:=e8 a.1;obtain⟨d',I,⟨n,rfl⟩,rfl⟩:=ek hk;refine⟨.int q n,rfl,by simp[keyOf],a.2,λx Z=>?_⟩;cases x<;>simp only[keyOf,fa]at Z;rename_i i m;have:=b7 Z;subst this;simp only[ax,ea,I,bn,e2,fj,bS,bc,bM,okV,mj]
 .cases k<;>first|(cases h;done)|skip
  rename_i c se;cases c<;>first|(cases h;done)|skip
  simp only at h;cases a:jV .string J with
  |false=>rw[a]at h;cases h
  |true=>rw[a]at h;obtain rfl:=ae h;obtain⟨d',I,⟨z,rfl⟩,rfl⟩:=ek hk;refine⟨.str z.data.toList,by simp only[ai,Dt.v],rfl,rfl,λx Z=>?_⟩;cases x<;>simp only[keyOf,fa]at Z;simp only[ax,ea,I,bn,e2,fj,mb,okV,mj]
theorem yB{d:TypeDesc}:∀{J:List ME},jV d J=true->∀e∈J,keyOf d e.k=true
 | [],_,e,a=>by cases a
 |x::J,h,e,a=>by
  simp only[jV,aM]at h;cases a with
  |head=>exact h.1
  |tail _ a=>exact yB h.2 e a
theorem Br{d:TypeDesc}{a:AV}{e:SE}(c:∀x,keyOf d x=true->ax E (.a2 (.bin .eql) e (ea x))=some (.val (.bool (mj a x)))):∀(J:List ME)(s:S),Rel C base E s w->jV d J=true->
  (uS s e J).path (λr=>r.1=vg a J/\Step C base E s w E r.2 w)
 | [],s,b,_=>⟨rfl,Step.refl b⟩
 |x::J,s,b,hk=>by
  simp only[jV,aM]at hk;refine R.bR _ (uB b (c x.k hk.1)) λr f=>?_
  obtain⟨I,Y, -⟩:=f;show(match r.1 with|true=>R.ok (some x,r.2)|false=>uS r.2 e J).path _;have g:vg a (x::J)=match mj a x.k with|true=>some x|false=>vg a J:=rfl
  rw[g,I];cases mj a x.k with
  |true=>exact⟨rfl,Y⟩
  |false=>refine R.aZ ?_ (Br c J r.2 Y.rel hk.2);rintro r2 ⟨g1,g2⟩;exact⟨g1,Y.trans g2⟩
theorem ZP{x:Sem Value}{v:AV}{c:Value}{F:S}(Z:x.run C.P w=.ok c w)(a:ai E v=some c)(b:Step C base E s w E F w):eY C base E s w ((VS x).run C.P w) (.val v F):=
 ⟨E,c,w,by simp[VS,Z],a,b⟩
theorem Wk(F:Good C)(p:Rel C base E s w)(K:aW E nt t a.tmps)(ty:TypeId)(x y:Operand)(ok:Bool)(rt:TypeId):
  (tb ty x y ok rt C t s).path (eY C base E s w ((VS (Instr.lookup ty (a.eval x) (a.eval y) ok)).run C.P w)):=by
 refine R.bR _ (b9 F ty) λd0 g=>?_
 cases d0 with
 |map L q=>
  refine R.bR _ (b9 F L) λd G=>?_
  refine R.bR _ (bO p K x) λv M=>?_
  refine R.bR _ (DQ p _ _ M) λm N=>?_
  refine R.bR _ (bO p K y) λk hk=>?_
  obtain⟨iZ,b,u,H⟩:=N.iZ;show(match F4 d k m.1 with|some se=>(uS s se m.1>>=λr=>match r.1 with|some e=>R.ok (Nx.val (la ok true e.v) r.2)|none=>(qL C q>>=λv=>R.ok (Nx.val (la ok false v) r.2)))|none=>(cq (xF d k m.1) "lookup: key" >>= λ_=>match vg k m.1 with|some e=>R.ok (Nx.val (la ok true e.v) s)|none=>(qL C q>>=λv=>R.ok (Nx.val (la ok false v) s)))).path _;cases I:F4 d k m.1 with
  |some se=>
   obtain⟨O,l,f,j,Q⟩:=NF hk I;refine R.bR _ (Br Q m.1 s p j) λr S=>?_
   obtain⟨A,B⟩:=S;rcases found d O _ l f m.1 iZ.toList 0 u (yB j)with⟨a1,a2⟩|⟨e,i,T,a1,a2,a3,a4,a5,a6,a7,U,a9⟩
   .rw[A,a1];refine R.bR _ (Bm F q) λz J=>?_
    obtain⟨c,n,o⟩:=J;exact ZP (ur g G l f b a2 (λ_=>n) ok) (rs (o E) ok false) B
   .rw[A,a1];exact ZP (ur (z:=.nilIface) g G l f b a2 (λh=>by cases h) ok) (rs a4.2.1 ok true) B
  |none=>
  simp only;refine R.bR _ (R.bf _ _) λ_ V=>?_
  obtain⟨f,D⟩:=D1 V H;rcases found d k _ hk f m.1 iZ.toList 0 u D with⟨a1,a2⟩|⟨e,i,T,a1,a2,a3,a4,a5,a6,a7,U,a9⟩
  .show(match vg k m.1 with|some e=>R.ok (Nx.val (la ok true e.v) s)|none=>(qL C q>>=λv=>R.ok (Nx.val (la ok false v) s))).path _;rw[a1];refine R.bR _ (Bm F q) λz J=>?_
   obtain⟨c,n,o⟩:=J;exact fh p (ur g G hk f b a2 (λ_=>n) ok) (rs (o E) ok false)
  .show(match vg k m.1 with|some e=>R.ok (Nx.val (la ok true e.v) s)|none=>(qL C q>>=λv=>R.ok (Nx.val (la ok false v) s))).path _;rw[a1];exact fh p (ur (z:=.nilIface) g G hk f b a2 (λh=>by cases h) ok) (rs a4.2.1 ok true)
 |_=>trivial
theorem RD(g:Good C)(c:Rel C base E s w)(h:aW E nt t a.tmps)(ty:TypeId)(x:Option Operand)(rt:TypeId):
  (OP ty x rt C t s).path (eY C base E s w ((VS (Instr.makeMap ty (x.map a.eval))).run C.P w)):=by
 have b:=Step.alloc (base:=base) c (.map [] 0) (.map #[] 0) 0 1 (M:=w.alloc (.map #[] 0)) rfl rfl rfl rfl
  (λA _=>⟨#[],rfl,eI,.bool,λe i=>by cases i⟩)
 cases x with
 |none=>
  refine⟨_,.map (some w.heap.size),_,?_,?_,b⟩
  .rfl
  .simp[ai]
 |some x=>
  refine R.bR _ (b9 g ty) λd j=>?_
  cases d with
  |map l m=>
   refine R.bR _ (bO c h x) λv f=>?_
   cases v with
   |int k n=>
    simp only[ai,aD]at f;refine⟨_,.map (some w.heap.size),_,?_,?_,b⟩
    .simp only[cM,VS,Instr.makeMap,aS];rw[<-f];rw[gC j];rfl
    .simp[ai]
   |_=>trivial
  |_=>trivial
end
section
variable{C:Ctx}{base:Nat}{E:G}{s:S}{w:World}{nt:Nat}{t:Tr AV}{a:Act}
def UE:gn->Bool
 | .cells ..=>true
 | .Ie ..=>true
 |_=>false
theorem Step.sX (m:Rel C base E s w) {r:Nat} {b N:gn} {o T:Obj} {B:Loc} (e:s.h.get r=some b) (d:E r=some B) (ho:w.heap[B.aO]? =some o)
  (I:UE b=false) (y:UE N=false) (z:dC C E B N T) {M:World} (f:M.heap=w.heap.setIfInBounds B.aO T) (A:M.tape=w.tape) (n:M.os=w.os) (g:M.output=w.output):
  Step C base E s w E ⟨s.h.set r N,s.next,s.pc⟩ M:=by
 have p:B.aO<w.heap.size:=by grind
 have c:ez b=false:=by cases b<;>first|rfl|cases I
 have a:∀i x li,i≠r->(s.h.set r N).get i=some x->E i=some li->li.aO=B.aO->False:=by
  intro i x li V Z j q;rw[Tr.get_set_other _ _ (dt V)]at Z;rcases m.sep i r x _ li B Z e j d V q with h|h
  .cases b<;>first|(cases I;done)|(cases x<;>simp[gR]at h)
  .cases b<;>first|(cases I;done)|simp[gR]at h
 refine Step.of ⟨Grow.refl E,?_,⟨by rw[f];simp,A,n,g,?_⟩,?_,bD _,λ_ _ h=>m.lt h,λ_ l h=>.inl ⟨l,h⟩,λid x I _=>by
  simp only[Tr.bY]at I;split at I
  .next h=>subst h;exact⟨_,e⟩
  .exact⟨x,I⟩⟩
 .refine m.CN (N:=N) (T:=T) e d d ⟨rfl,rfl,rfl⟩ c (λ_ _=>rfl) ?_ (Tr.get_set_same _ _ _) ?_ ?_ (by rw[f];simp) z
    (λi x li V Z W U=>(a i x li V Z W U).elim) (λi x li V Z W U=>(a i x li V Z W U).elim)
  .grind[Tr.get_set_other]
  .intro k hk;rw[f];simp[dt hk]
  .rw[f];simp[p]
 .intro k o hk D;have:k≠B.aO:=λh=>D ⟨r,_,B,e,c,d,h.symm⟩
  rw[f];simp[dt this,hk]
 .rintro k ⟨id,x,l,t,F,u,v⟩ _;simp only[Tr.bY]at t;split at t
  .next h=>subst h;exact⟨_,_,B,e,c,d,by rw[d]at u;obtain rfl:=ae u;exact v⟩
  .exact⟨id,x,l,t,F,u,v⟩
theorem sY{P:Program}{r:Nat}{o T:Obj}{w:World}(h:w.heap[r]? =some o)(a:∀x y z,o≠.cells x y z):
  (setObj r T).run P w=.ok () { w with heap:=w.heap.setIfInBounds r T }:=by
 simp only[setObj,Sem.run,h]
theorem o7{P:Program}{r:Nat}{o:Obj}{w:World}(h:w.heap[r]? =some o)(a:∀x y z,o≠.cells x y z):(getObj r).run P w=.ok o w:=by simp only[getObj,Sem.run,h]
theorem ep.get:∀{J:List ME}{l:List MapEntry}(i:Nat)(e:ME),ep E J l->J[i]? =some e->∃m,l[i]? =some m/\xP E e m
 | [],[],i,e,_,h=>by simp at h
 |x::J,m::l,0,e,⟨I,Y⟩,h=>by simp at h;subst h;exact⟨m,by simp,I⟩
 |x::J,m::l,i+1,e,⟨I,Y⟩,h=>by simpa using ep.get i e Y (by simpa using h)
 | [],_::_,_,_,h,_=>h.elim
 |_::_,[],_,_,h,_=>h.elim
end
section
variable{C:Ctx}{base:Nat}{E:G}{s:S}{w:World}{nt:Nat}{t:Tr AV}{a:Act}
theorem aaD(i:Good C)(h:Rel C base E s w)(j:aW E nt t a.tmps)(x:Operand)(e b:TypeId)(ok:Bool)(rt:TypeId):
  (We x b ok rt C t s).path (eY C base E s w ((VS (Instr.typeAssert (a.eval x) e b ok)).run C.P w)):=by
 refine R.bR _ (bO h j x) λv f=>?_
 refine R.bR (λr=>∃c,ai E r=some c/\(Instr.typeAssert (a.eval x) e b ok).run C.P w=.ok c w) ?_ (λr k=>by obtain⟨c,I,Y⟩:=k;exact fh h Y I);refine R.bR _ (b9 i b) λd l=>?_
 have holds:∀(v:AV)(c:Value),ai E v=some c->(Instr.typeAssert (a.eval x) e b ok).run C.P w=.ok (if ok then .tuple #[c,.bool true]else c) w->
   (K0 ok v).path (λr=>∃c,ai E r=some c/\(Instr.typeAssert (a.eval x) e b ok).run C.P w=.ok c w):=by
  intro v c I Y;cases ok with
  |true=>exact⟨_,by simp[ai,aN,I],Y⟩
  |false=>exact⟨_,I,Y⟩
 cases v with
 |iface t v=>
  simp only[ai,bk]at f;obtain⟨n,g,f⟩:=f;rw[<-f]at holds ⊢;cases d with
  |interface want=>exact R.bg _ _
  |_=>
   show(match Nat.beq t b with|true=>K0 ok v|false=>R.bad _).path _;cases m:Nat.beq t b with
   |true=>have:t=b:=bj m;refine holds _ _ g ?_;unfold Instr.typeAssert;rw[bb l];simp only[this,bc];rfl
   |false=>trivial
 |_=>exact R.bg _ _
theorem FC(l:List UInt8)(b:UInt8):(ByteArray.mk ⟨l⟩).push b=⟨⟨l++[b]⟩⟩:=by grind[ByteArray.push]
theorem Bt:∀(l:List AV)(a:List Value),aN E l=some a->
  (u9 l).path (λbs=>∀(acc:List UInt8)(w:World),(forIn a (ByteArray.mk ⟨acc⟩) (λc s=>(match c with| .int .u8 n=>pure (ForInStep.yield (s.push (UInt8.ofNat n.toNat)))|_=>do{ stuck "bytesToString: byte expected";pure (ForInStep.yield s) }:Sem (ForInStep ByteArray)))).run C.P w=.ok (ByteArray.mk ⟨acc++bs⟩) w)
 | [],a,h=>by
   simp only[aN,aD]at h;subst h;intro acc w;simp
 |v::l,a,h=>by
  obtain⟨c,b,f,d,rfl⟩:=aL.1 h;cases v with
  |int k n=>
   cases k with
   |u8=>
    cases n with
    |ofNat n=>
     simp only[ai,aD]at f;subst f;refine R.bR _ (Bt l b d) λbs e=>?_
     intro acc w;simp only[List.forIn_cons,aS,bE,bw,FC];have:=e (acc++[UInt8.ofNat n]) w;rw[show acc++UInt8.ofNat n::bs=acc++[UInt8.ofNat n]++bs by simp];exact this
    |negSucc n=>trivial
   |_=>trivial
  |_=>trivial
theorem Gh(P:Program)(fits:TypeId->Bool)(e:TypeId)(d count a off b n q:Nat)(I:b=q*P.cellsOf e+off)(Y:q+count<=a)
  (h:rowAt P fits d e count off n=true):rowAt P fits d e a b n=true:=by
 cases d with
 |zero=>cases h
 |succ d=>
  unfold rowAt at h ⊢;simp only at h ⊢;split at h
  .cases h
  .next f=>
   rw[av f];have c:0<P.cellsOf e:=uc f;have e1:b/P.cellsOf e=q+off/P.cellsOf e:=by rw[I,Nat.add_comm (q*P.cellsOf e),Nat.add_mul_div_right _ _ c,Nat.add_comm]
   have e2:b%P.cellsOf e=off%P.cellsOf e:=by grind[Nat.add_mul_mod_self_right]
   rw[e1,e2];simp only[il,aM,rC]at h ⊢;rcases h with⟨⟨W,U⟩,h5⟩|⟨W,U⟩
   .exact .inl ⟨⟨W,by omega⟩,h5⟩
   .exact .inr ⟨by omega,U⟩
end
section
variable{C:Ctx}{base:Nat}{E:G}{s:S}{w:World}{nt:Nat}{t:Tr AV}{a:Act}
theorem Ah{e:TypeId}{i:TI}(h:y1 C.P e i):C.P.cellsOf e=i.size:=by obtain⟨ti,I,Y,W,_⟩:=h.info;simp[Program.cellsOf,I,W]
theorem Lz(f:Good C)(g:Rel C base E s w){b off:Nat}{u:TypeId}{B:Loc}(j:E b=some B)(h:LA C s b off u=true):
  ∃el cells,w.shape? B.aO=some (el,cells)/\B.dl+off<cells/\liesAt C.P C.P.depth el (cells/C.P.cellsOf el) (B.dl+off) u 1=true:=by
 unfold LA at h;cases c:s.h.get b with
 |none=>rw[c]at h;cases h
 |some q=>
  rw[c]at h;cases q with
  |cells el cs n fz gU st sg=>
   simp only[aM]at h;obtain⟨O,o,I,Y,vs,lo,V,rfl,g1,g2,⟨i,g3,g4,g5,e,g7⟩,g6⟩:=g.aO b _ c;rw[j]at I;obtain rfl:=ae I;have k:off<n:=bZ h.1;refine⟨el,vs.size,by simp[World.shape?,Y],by omega,?_⟩;have l:C.P.depth=(2*(C.P.types.size+Made.depth)+1)+1:=rfl;rw[l];unfold liesAt;rw[il];left;have a:=Ah (ND f g3);refine Gh C.P _ el C.P.depth (n/C.P.cellsOf el) _ off _ 1 e (by rw[a,g7]) ?_ h.2;rw[a];rcases Nat.eq_zero_or_pos i.size with d|d
   .exfalso;rw[d]at g4;omega
   .have:(n+e*i.size)/i.size<=vs.size/i.size:=Nat.div_le_div_right (by omega);rw[Nat.add_mul_div_right _ _ d]at this;omega
  |_=>cases h
theorem Ge{P:Program}{ad:Addr}{el:TypeId}{n:Nat}(h:w.shape? ad.block=some (el,n)):(Conv.seenAt ad).run P w=.ok ad w:=by simp[Conv.seenAt,viewAt,h]
theorem GO(n:Good C)(k:Rel C base E s w)(a dst u:TypeId)(x:AV)(d:Value)(Z:ai E x=some d)
  (l:(C.P.underlying a=some (.pointer u)/\C.P.underlying dst=some .unsafePointer)\/(C.P.underlying a=some .unsafePointer/\C.P.underlying dst=some (.pointer u))):
  (B9 C s u x).path (eY C base E s w ((VS (convert a dst d)).run C.P w)):=by
 have e:∀p,d=.pointer p->(convert a dst d).run C.P w=(Conv.unsafePointer a dst d).run C.P w:=by
  intro p h;subst h;unfold convert;rcases l with⟨I,Y⟩|⟨I,Y⟩
  .rw[bb I,bb Y]
  .rw[bb I,bb Y]
 cases x with
 |uH=>
  simp only[ai,aD]at Z;refine fh k (c:=.pointer none) ?_ rfl;rw[e none Z.symm,<-Z];unfold Conv.unsafePointer;rcases l with⟨I,Y⟩|⟨I,Y⟩
  .rw[bb I,bb Y];rfl
  .rw[bb I,bb Y];rfl
 |ptr b off=>
  have m:=Z;simp only[ai,bk]at Z;obtain⟨B,o,Z⟩:=Z;refine R.bR _ (c6 n u) λi V=>?_
  refine R.bR _ (R.bf _ _) λ_ g=>?_
  simp only[aM,im]at g;have f:i.size≠0:=by intro h;rw[h]at g;exact absurd g.1 (by simp)
  obtain⟨el,cells,j,r,q⟩:=Lz n k o g.2;refine fh k (c:=d) ?_ m;rw[e _ Z.symm,<-Z];unfold Conv.unsafePointer;rcases l with⟨I,Y⟩|⟨I,Y⟩
  .rw[bb I,bb Y];simp only[aS];rw[Ge (ad:=⟨B.aO,B.dl+off,none⟩) j];have:¬(B.dl+off ≥ cells):=by omega
   simp[cellsIn,j,V.2.size w,f];intro h;omega
  .rw[bb I,bb Y];simp only[aS];rw[Ge (ad:=⟨B.aO,B.dl+off,none⟩) j];simp[variablesAt,j,V.2.size w,f,q]
 |_=>trivial
theorem LX(D:Good C)(F:Rel C base E s w)(g dst e:TypeId)(x:AV)(u:Value)(Z:ai E x=some u)
  (I:C.P.underlying g=some (.slice e)) (Y:C.P.underlying dst=some .string) (v:∀l,x≠.str l):
  (xL C s e x).path (eY C base E s w ((VS (convert g dst u)).run C.P w)):=by
 refine R.bR _ (c6 D e) λi V=>?_
 have d:=V.2.und;cases m:i.desc with
 |int k=>
  cases k with
  |u8=>
   show(cq (Nat.beq i.size 1) _>>=λ_=>vE s e i.size x>>=λr=>u9 r.2>>=λbs=>R.ok (Nx.val (.str bs) s)).path _;refine R.bR _ (R.bf _ _) λ_ G=>?_
   have y:i.size=1:=bj G;rw[m]at d;have fin:∀b n c,u=.slice b n c->(vE s e i.size x>>=λr=>u9 r.2>>=λbs=>R.ok (Nx.val (.str bs) s)).path (eY C base E s w ((VS (convert g dst u)).run C.P w)):=by
    intro b n c z;subst z;refine R.bR _ (ym D F e V.1 x _ Z) λr H=>?_
    obtain⟨j,o,A,p,B⟩:=H;refine R.bR _ (Bt (C:=C) r.2 j o) λbs q=>?_
    refine fh F (c:=.string ⟨⟨bs⟩⟩) ?_ rfl;unfold convert;rw[bb I,bb Y];simp only;rw[bb d];simp only[Conv.bytesToString];have J:n=r.1:=by have:=p w;simp only[Builtin.lenOf,bE,Result.ok.injEq]at this;exact this.1
    have a:=B r.1 (bD _);have h:j.take (r.1*i.size)=j:=gp (by rw[bJ o,A];exact bD _);rw[h]at a;cases b with
    |none=>
     simp only[Builtin.firstCells,bE,Result.ok.injEq]at a;have t:j=[]:=by grind
     subst t;have:=q [] w;simp at this;subst this;rfl
    |some ad=>
     simp only[Builtin.firstCells,y,Nat.mul_one]at a;rw[J];simp only[aS,a,bw];have:=q [] w;refine(fo (λr=>Result.andThen r _) (?_:_=Result.ok (ByteArray.mk ⟨bs⟩) w)).trans rfl;have e:∀(f:Value->ByteArray->Sem (ForInStep ByteArray)),forIn (⟨j⟩:Array Value) ByteArray.empty f=forIn j (ByteArray.mk ⟨[]⟩) f:=by intro f;simp;rfl
     rw[e];exact this
   cases x with
   |dq=>simp only[ai,aD]at Z;exact fin _ _ _ Z.symm
   |sl=>simp only[ai,bk]at Z;obtain⟨_,_,Z⟩:=Z;exact fin _ _ _ Z.symm
   |qY=>simp only[ai,bk]at Z;obtain⟨_,_,Z⟩:=Z;exact fin _ _ _ Z.symm
   |str l=>exact absurd rfl (v l)
   |_=>trivial
  |_=>trivial
 |_=>trivial
theorem O5{α:Type}(h:Array α)(o:α)(f:α->α):(h.push o).modify h.size f=h.push (f o):=by grind
theorem run_mark(P:Program)(w:World)(arr:Array Value)(e:TypeId):
  (markStringish ⟨w.heap.size,0,none⟩).run P (w.alloc (.cells arr e (0,0)))=.ok () { w with heap:=w.heap.push (.cells arr e (arr.size,arr.size+1)) }:=by
 have a:World.shape? (w.alloc (.cells arr e (0,0))) w.heap.size=some (e,arr.size):=by show(match(w.heap.push (.cells arr e (0,0)))[w.heap.size]? with|some (.cells c elem _)=>some (elem,c.size)|_=>none)=_;rw[Array.getElem?_push_size]
 simp only[markStringish,aS,run_shape,bw,a,run_freeze];congr 1;show World.freeze _ ⟨w.heap.size,arr.size,none⟩ 1=_;unfold World.freeze;rw[av (by omega)];show World.mk ((w.heap.push (.cells arr e (0,0))).modify w.heap.size _) _ _ _ _=_;rw[O5];rfl
theorem vI(P:Program)(e:TypeId)(l:List UInt8)(w:World):∃(cap:Nat)(arr:Array Value),arr.size=cap/\l.length<=cap/\
  (∀(j:Nat)c,(l.map λb=>Value.int .u8 b.toNat)[j]? =some c->arr[j]? =some c)/\
  (Conv.stringToBytes e ⟨⟨l⟩⟩).run P w=.ok (.slice (some ⟨w.heap.size,0,none⟩) l.length cap)
    { w with drawn:=w.drawn+1,heap:=w.heap.push (.cells arr e (arr.size,arr.size+1)) }:=by
 let cap:=(Question.appendCap l.length 0 e).cut (w.tape w.drawn (.appendCap l.length 0 e))
 have a:l.length<=cap:=by show l.length<=l.length+_;omega
 refine⟨cap,(⟨l⟩:Array UInt8).map (λb=>Value.int .u8 b.toNat)++Array.replicate (cap-l.length) (.int .u8 0),by simp;omega,a,?_,?_⟩
 .grind
 have d:(ByteArray.mk ⟨l⟩).size=l.length:=rfl;unfold Conv.stringToBytes;rw[d];simp only[aS,run_choose];have f:(Question.appendCap l.length 0 e).forced=false:=rfl;simp only[f,fa,br,bw,hJ];have:=run_mark P { w with drawn:=w.drawn+1 } ((⟨l⟩:Array UInt8).map (λb=>Value.int .u8 b.toNat)++Array.replicate (cap-l.length) (.int .u8 0)) e;exact(fo (λr=>Result.andThen r _) this).trans rfl
theorem RI(t:Good C)(u:Rel C base E s w)(j dst e:TypeId)(l:List UInt8){d:TypeDesc}(I:C.P.underlying j=some d)(Y:C.P.underlying dst=some (.slice e)):
  (MJ C s e l).path (eY C base E s w ((VS (convert j dst (.string ⟨⟨l⟩⟩))).run C.P w)):=by
 refine R.bR _ (c6 t e) λi V=>?_
 have c:=V.2.und;cases n:i.desc with
 |int k=>
  cases k with
  |u8=>
   rw[n]at c;show(cq (Nat.beq i.size 1) _>>=λ_=>R.ok (Nx.val (.qY s.next 0 0 l.length 1) (s.new (.cells e (Tr.ofList (nE l)) l.length 0 [] false true)))).path _;refine R.bR _ (R.bf _ _) λ_ v=>?_
   have o:i.size=1:=bj v;obtain⟨cap,arr,y,z,q,p⟩:=vI C.P e l w;have m:=Step.alloc (base:=base) u (.cells e (Tr.ofList (nE l)) l.length 0 [] false true) (.cells arr e (arr.size,arr.size+1)) 0 cap
    (M:={ w with drawn:=w.drawn+1,heap:=w.heap.push (.cells arr e (arr.size,arr.size+1)) }) rfl rfl rfl rfl
    (by
      intro A r;have:=fu (C:=C) (E:=E) V.1 (wD E l) (arr:=arr) (cp:=cap) (by rw[rv,o];omega) (by rw[o];omega) q w.heap.size 0 true arr.size (arr.size+1)
       (λoff a b=>.inr ⟨rfl,a⟩) (by omega) A r
      rw[rv]at this;exact this)
   refine⟨_,.slice (some ⟨w.heap.size,0,none⟩) l.length cap,_,?_,?_,m⟩
   .have:(convert j dst (.string ⟨⟨l⟩⟩)).run C.P w=(Conv.stringToBytes e ⟨⟨l⟩⟩).run C.P w:=by
      unfold convert;rw[bb I,bb Y];have W:∀(f g h:Sem Value),((underlying e>>=λx=>match x with| .int .u8=>f| .int .i32=>g|_=>h):Sem Value).run C.P w=f.run C.P w:=by intro f g h;rw[bb c]
      cases d<;>exact W _ _ _
    simp only[VS,aS,this,p,bw,bE]
   .grind[ai]
  |_=>trivial
 |_=>trivial
theorem RH(F:Good C)(G:Rel C base E s w)(c dst e:TypeId){x:SE}{st:ByteArray}(Z:ax E x=some (.val (.string st))){d:TypeDesc}(I:C.P.underlying c=some d)(Y:C.P.underlying dst=some (.slice e)):
  (MI C s e x).path (eY C base E s w ((VS (convert c dst (.string st))).run C.P w)):=by
 refine R.bR _ (c6 F e) λi V=>?_
 have a:=V.2.und;cases m:i.desc with
 |int k=>
  cases k with
  |u8=>
   rw[m]at a;show(cq (Nat.beq i.size 1&&oI (aA C e) [.int .u8]) _>>=λ_=>R.ok (Nx.val (.iI s.next (.a1 .len x) (.var (Nat.add s.next 1))) ⟨s.h.set s.next (.vec e (.a1 .sb x)),Nat.add (Nat.add s.next 1) 1,s.pc⟩)).path _;refine R.bR _ (R.bf _ _) λ_ n=>?_
   simp only[aM]at n;have u:i.size=1:=bj n.1;have y:=eO n.2;obtain⟨cap,arr,H,J,z,o⟩:=vI C.P e st.data.toList w;have p:ax E (.a1 .len x)=some (.val (.int .i64 (.ofNat st.data.toList.length))):=by simp only[ax,Z,bn,e1];rfl
   have q:ax E (.a1 .sb x)=some (.ls (aA C e) (fw st.data.toList)):=by grind[ax,e1]
   have r:=Step.alloc (base:=base) G (.vec e (.a1 .sb x)) (.cells arr e (arr.size,arr.size+1)) 0 cap
    (M:={ w with drawn:=w.drawn+1,heap:=w.heap.push (.cells arr e (arr.size,arr.size+1)) }) rfl rfl rfl rfl
    (λA n=>by
      refine⟨arr,arr.size,arr.size+1,fw st.data.toList,rfl,bG n _ _ q,λj L D=>?_,⟨i,V.1,?_,?_,?_,0,by simp⟩,λoff h _=>.inr h,Nat.le_succ _⟩
      .show arr[0+j]? =_;rw[eD];simp only[fw,kh,bk]at D;obtain⟨b,K,rfl⟩:=D;exact z j _ (by simp only[kh,K,cM];rfl)
      .show i.size=(aA C e).length;rw[u,y];rfl
      .grind[fw]
      .grind)
   have B:=Step.ghost r.rel (.val (.int .i64 (.ofNat cap))) (λ_=>rfl);have t:=r.trans B;refine⟨_,.slice (some ⟨w.heap.size,0,none⟩) st.data.toList.length cap,_,?_,?_,t⟩
   .have:(convert c dst (.string st)).run C.P w=(Conv.stringToBytes e ⟨⟨st.data.toList⟩⟩).run C.P w:=by
      unfold convert;rw[bb I,bb Y];have W:∀(f g h:Sem Value),((underlying e>>=λx=>match x with| .int .u8=>f| .int .i32=>g|_=>h):Sem Value).run C.P w=f.run C.P w:=by intro f g h;rw[bb a]
      cases d<;>exact W _ _ _
    simp only[VS,aS,this,o,bw];rfl
   .have e0:s.next≠s.next+1:=by omega
    have a1:=bG t.grow _ _ p;simp only[ai,cV];refine⟨⟨w.heap.size,0,cap,none⟩,?_,_,a1,.val (.int .i64 (.ofNat cap)),?_,?_⟩
    .exact(av e0).trans (aJ trivial)
    .show((if s.next+1=s.next+1 then _ else _:Option Loc).bind λl=>l.v)=_;rw[aJ rfl];rfl
    .grind[qT]
  |_=>trivial
 |_=>trivial
theorem JD{P:Program}:∀(l:List Dt)(acc:List UInt8)(w:World),(∀d∈l,∃n,d=.val (.int .u8 n))->∃bs,lK l=some bs/\
  (forIn (l.map Dt.v) (ByteArray.mk ⟨acc⟩) (λc s=>(match c with| .int .u8 n=>pure (ForInStep.yield (s.push (UInt8.ofNat n.toNat)))|_=>do{ stuck "bytesToString: byte expected";pure (ForInStep.yield s) }:Sem (ForInStep ByteArray)))).run P w=.ok (ByteArray.mk ⟨acc++bs⟩) w
 | [],acc,w,_=>⟨[],rfl,by simp⟩
 |d::l,acc,w,h=>by
  obtain⟨n,rfl⟩:=h d bB;obtain⟨bs,I,Y⟩:=JD l (acc++[UInt8.ofNat n.toNat]) w λx Z=>h x (bQ _ Z)
  refine⟨UInt8.ofNat n.toNat::bs,by simp only[lK,I,cM],?_⟩;simp only[kP,Dt.v,List.forIn_cons,aS,bE,bw,FC];rw[show acc++UInt8.ofNat n.toNat::bs=acc++[UInt8.ofNat n.toNat]++bs by simp];exact Y
theorem RF(Q:Good C)(z:Rel C base E s w)(m dst e:TypeId){b:Nat}{n c:SE}{L:Value}(Z:ai E (.iI b n c)=some L)(I:C.P.underlying m=some (.slice e))(Y:C.P.underlying dst=some .string):
  (MH C s e b n).path (eY C base E s w ((VS (convert m dst L)).run C.P w)):=by
 obtain⟨B,k,q,S,A,T,hk,hq,rfl⟩:=ja Z;refine R.bR _ (c6 Q e) λi V=>?_
 have a:=V.2.und;cases p:i.desc with
 |int U=>
  cases U with
  |u8=>
   rw[p]at a;show(match s.h.get b with|some (.vec el v)=>_|_=>_:R Nx).path _;cases W:s.h.get b with
   |none=>trivial
   |some X=>
    cases X with
    |vec el v=>
     obtain⟨O,o,M,q2,vs,lo,H,J,rfl,g1,g2,⟨i',g3,g4,g5,g6,g7⟩,g8,g9⟩:=z.aO b _ W;rw[S]at M;obtain rfl:=ae M;refine R.bR _ (R.bf _ _) λ_ N=>?_
     simp only[aM]at N;obtain⟨e1',D,F⟩:=N;obtain rfl:=bj D;have G:=eO F;refine R.gb z λhn=>?_
     have hbd:k<=J.length:=by
      rcases ed J.length k with h|h
      .exact absurd ⟨_,_,_,rfl,λhh=>absurd hh.2 (by simp only[cN,tW];omega)⟩ (j6 hn (A5 g1 A))
      .exact h
     have t:ax E (.a2 (.tk 1) v n)=some (.ls (aA C el) (J.take k)):=by grind[ax,e2]
     have u:∀d∈J.take k,∃n,d=.val (.int .u8 n):=by intro d hd;obtain⟨j,hj⟩:=List.getElem?_of_mem hd;have g:=fL z.rd _ _ t;have:=(Dt.cu.get (show Dt.cu C w _ (aA C el) 0 (J.take k)from g) hj).1;rw[G]at this;obtain⟨kd,x,hf⟩:=this;simp only[cD,c7,eD,Nat.mod_one,dj,aD]at x;subst x;exact hf
     obtain⟨bs,K,y⟩:=JD (P:=C.P) (J.take k) [] w u;refine fh z (c:=.string ⟨⟨bs⟩⟩) ?_ (eA (d:=.val (.string ⟨⟨bs⟩⟩)) (by
      show((ax E (.a2 (.tk 1) v n)).bind (e1 .bs))=_;rw[t];simp only[bn,e1,K,cM]) ⟨_,rfl⟩ rfl)
     unfold convert;rw[bb I,bb Y];simp only;rw[bb a];simp only[Conv.bytesToString];have l:(loadCells ⟨B.aO,B.dl,none⟩ k).run C.P w=.ok ⟨(J.take k).map Dt.v⟩ w:=by grind[eX,List.length_map,List.length_take,World.cell?]
     simp only[aS,l,bw];refine(fo (λr=>Result.andThen r _) (?_:_=Result.ok (ByteArray.mk ⟨bs⟩) w)).trans rfl;have e:∀(f:Value->ByteArray->Sem (ForInStep ByteArray)),forIn (⟨(J.take k).map Dt.v⟩:Array Value) ByteArray.empty f=forIn ((J.take k).map Dt.v) (ByteArray.mk ⟨[]⟩) f:=by intro f;simp;rfl
     rw[e];exact y
    |_=>trivial
  |_=>trivial
 |_=>trivial
theorem a3n(o:Good C)(j:Rel C base E s w)(z:aW E nt t a.tmps)(g dst:TypeId)(x:Operand)(rt:TypeId):
  (CZ g dst x rt C t s).path (eY C base E s w ((VS (convert g dst (a.eval x))).run C.P w)):=by
 refine R.bR _ (bO j z x) λv m=>?_
 refine R.bR _ (b9 o g) λp h=>?_
 refine R.bR _ (b9 o dst) λA i=>?_
 cases A with
 |int k=>
  cases v with
  |int k' n=>simp only[ai,aD]at m;rw[<-m];refine fh j (c:=.int k (k.wrap n)) ?_ rfl;unfold convert;rw[bb h,bb i];cases p<;>rfl
  |cE q e=>
   cases q<;>first|exact R.bg _ _|skip
   rename_i k';obtain⟨d,I,⟨n,rfl⟩,W⟩:=ek m;rw[W];refine fh j (c:=.int k (k.wrap n)) ?_ ?_
   rotate_left
   .split
    .next y=>
     simp only[aM]at y;obtain⟨B,D,F⟩:=y;obtain rfl:=e8 B;obtain⟨a,g1,g2,g3⟩:=Pr (E:=E) (λf G=>(j.pc f G).2) F;rw[I]at g1;have g1:=ae g1;injection g1 with g1;injection g1 with _ g1;subst g1;rw[wrap64 (by omega) (by omega)];rw[e8 D]at I;exact eA (d:=.val (.int .i64 n)) I ⟨_,rfl⟩ rfl
    .exact eA (d:=.val (.int k (k.wrap n))) (by simp only[ax,I,bn,e1]) ⟨_,rfl⟩ rfl
   unfold convert;rw[bb h,bb i];cases p<;>rfl
  |_=>trivial
 |string=>
  have other:(∀l,v≠.str l)->(match p with| .slice e=>xL C s e v|_=>R.bad "").path (eY C base E s w ((VS (convert g dst (a.eval x))).run C.P w)):=by
   intro r;cases p with
   |slice e=>exact LX o j g dst e v _ m h i r
   |_=>trivial
  cases v with
  |str _|int _ _|cE _ _=>exact R.bg _ _
  |iI b n c=>
   cases p with
   |slice e=>exact RF o j g dst e m h i
   |_=>trivial
  |_=>exact other (λl=>by simp)
 |slice e=>
  cases v with
  |str l=>simp only[ai,aD]at m;rw[<-m];exact RI o j g dst e l h i
  |cE q ex=>
   cases q<;>first|exact R.bg _ _|skip
   obtain⟨d,I,⟨st,rfl⟩,W⟩:=ek m;rw[W];exact RH o j g dst e I h i
  |_=>trivial
 |unsafePointer=>
  cases p with
  |pointer u=>exact GO o j g dst u v _ m (.inl ⟨h,i⟩)
  |_=>trivial
 |pointer u=>
  cases p with
  |unsafePointer=>exact GO o j g dst u v _ m (.inr ⟨h,i⟩)
  |_=>trivial
 |_=>trivial
end
end Go.Proofs.YtokipodjggomfaaGreatDoor.Abs
