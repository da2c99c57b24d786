/- Part 4 of an abstract machine that evaluates programs of the model in the kernel, and of the proofs that its run is the model's. Conditions: those of each theorem. -/
import Derived.Test.YtokipodjggomfaaGreatDoorAbs3
set_option linter.unusedVariables false
set_option linter.unusedSimpArgs false
namespace Go.Proofs.YtokipodjggomfaaGreatDoor.Abs
open Go
section
variable{C:Ctx}{base:Nat}{E:G}{s:S}{w:World}{nt:Nat}{t:Tr AV}{a:Act}
theorem dZ{elem:TypeId}{i:TI}(V:C.T.get elem=some i){vs:List AV}{cs:List Value}(d:ax E vs=some cs){arr:Array Value}{cp:Nat}
  (A:vs.length<=cp*i.size) (I:cp*i.size<=arr.size) (W:∀(j:Nat)c,cs[j]? =some c->arr[j]? =some c) (ay:Nat) (fz:Nat) (sg:Bool) (lo K:Nat)
  (e:∀off,lo<=off->off<K->off<fz\/(sg=true/\arr.size<=off)) (f:lo<=K:=by omega):
  ∀B,Grow E B->cw C B ⟨ay,0,cp,none⟩ (.cells elem (Tr.ofList vs) vs.length fz [] false sg) (.cells arr elem (lo,K)):=by
 intro B k;refine⟨arr,lo,K,rfl,by simp;omega,?_,⟨i,V,A,by simp only[du];omega,0,by simp⟩,λ_ off a b=>by simpa using e off a b,f⟩;intro j v m h;rw[Tr.dG]at h;obtain⟨c,l,g⟩:=jT j v d h;exact⟨c,by simpa using W j c g,.inr (e9 k _ _ l)⟩
theorem fA(P:Program)(elem:TypeId)(arr:Array Value)(w:World):(newRow elem arr).run P w=.ok ⟨w.heap.size,0,none⟩ (w.alloc (.cells arr elem (0,0))):=by simp[newRow]
theorem Vg(f:Good C)(g:Rel C base E s w)(e:TypeId)(rt:TypeId):
  (OW e rt C t s).path (dM C base E s w ((VS (Instr.alloc e true (.tuple #[]))).run C.P w)):=by
 refine R.bh _ (bY f e) λi V=>?_
 refine R.bh _ (R.fD _ _) λz h=>?_
 refine R.bh _ (R.aI _ _) λ_ k=>?_
 obtain⟨v,A,I⟩:=V.2.zero z h;have d:z.length=i.size:=aL k;have b:=I E;have a:=Step.alloc (base:=base) g (fQ e z) (.cells v.cells e (0,0)) 0 1 (M:=w.alloc (.cells v.cells e (0,0))) rfl rfl rfl rfl
  (dZ V.1 b (by omega) (by have:=ba b;simp at this;omega) (λj c l=>by simpa using l) _ 0 false 0 0 (by omega))
 refine⟨_,.pointer (some ⟨w.heap.size,0,none⟩),_,?_,?_,a⟩
 .simp[VS,Instr.alloc,A,newVar,fA]
 .simp[ag]
theorem a2L(h:Good C)(d:Rel C base E s w)(k:aD E nt t a.tmps)(e:TypeId)(x:Operand)(rt:TypeId):
  (JR e x rt C t s).path (dM C base E s w ((VS (Instr.box e (a.eval x))).run C.P w)):=by
 refine R.bh _ (bf d k x) λv l=>?_
 refine R.bh _ (lQ v _ l) λz f=>?_
 refine R.bh _ (bY h e) λi V=>?_
 refine R.bh _ (R.aI _ _) λ_ m=>?_
 have g:z.length=i.size:=aL m;have b:=Step.alloc (base:=base) d (fQ e z) (.cells (a.eval x).cells e (0,0)) 0 1 (M:=w.alloc (.cells (a.eval x).cells e (0,0))) rfl rfl rfl rfl
  (dZ V.1 f (by omega) (by have:=ba f;simp at this;omega) (λj c n=>by simpa using n) _ 0 false 0 0 (by omega))
 refine⟨_,.pointer (some ⟨w.heap.size,0,none⟩),_,?_,?_,b⟩
 .simp[VS,Instr.box,newVar,fA]
 .simp[ag]
theorem EP(off:Nat):∀(l:List Value)(k:Nat)(arr:Array Value),off+k+l.length<=arr.size->
  ((l.zipIdx k).foldl (λcs(c,j)=>cs.setIfInBounds (off+j) c) arr).toList=arr.toList.take (off+k)++l++arr.toList.drop (off+k+l.length)
 | [],k,arr,h=>by simp
 |v::l,k,arr,h=>by
  simp only[bZ]at h;rw[List.zipIdx_cons,List.foldl_cons,EP off l (k+1) _ (by simp;omega)];simp only[Array.toList_setIfInBounds,bZ];apply zR;intro j;simp only[lE,bL,cG,List.length_set,tY,qk,List.getElem?_set,oD,bZ];rw[vl (by omega),vl (by omega)];by_cases A:j<off+k
  .grind
  .grind
def a0C(pa pc:Nat->Option (Nat×Nat)):Prop:=∀i x,pa i=some x->pc i=some x
theorem nW{pa pc:Nat->Option (Nat×Nat)}(d:a0C pa pc):∀(ps:List (Nat×AV))(a:List (Nat×Value))(l:List AV)(r:List Value),
  (ps.map (·.1)=a.map (·.1))->(∀(j:Nat)(p:Nat×AV)(q:Nat×Value),ps[j]? =some p->a[j]? =some q->ag E p.2=some q.2)->ax E l=some r->
  (jS pa ps l).path (λO=>∃e,ax E O=some e/\O.length=l.length/\Instr.fill pc ⟨r⟩ a=some ⟨e⟩)
 | [],a,l,r,Z,_,b=>by
   have:a=[]:=by cases a with|nil=>rfl|cons x y=>simp at Z
   subst this;exact⟨r,b,rfl,rfl⟩
 |(i,v)::ps,[],l,r,Z,_,b=>by simp at Z
 |(i,v)::ps,(u,c)::a,l,r,Z,n,b=>by
  simp only[mD,nb]at Z;obtain⟨rfl,Z⟩:=Z;have f:ag E v=some c:=n 0 (i,v) (i,c) (by simp) (by simp);unfold jS;cases g:pa i with
  |none=>trivial
  |some x=>
   obtain⟨off,size⟩:=x;simp only;refine R.bh _ (lQ v c f) λz o=>?_
   cases h:(Nat.beq z.length size&&Nat.ble (Nat.add off size) l.length)with
   |false=>trivial
   |true=>
    simp only[aw]at h;have A:z.length=size:=aL h.1;have I:off+size<=l.length:=bn h.2;have k:=ba o;have s:=ba b;simp at k;have m:=dI (dI (uU off b) o) (uV (off+size) b);refine R.aE ?_ (nW d ps a _ _ Z (λj p q d t=>n (j+1) p q (by simpa using d) (by simpa using t)) m);rintro O ⟨e,g1,g2,g3⟩;refine⟨e,g1,?_,?_⟩
    .rw[g2];simp;omega
    .rw[Instr.fill,d i _ g];simp only;have:¬((c.cells.size≠size||decide (off+c.cells.size>(Array.mk r).size))=true):=by
      simp;omega
     rw[ai this];rw[<-g3];congr 1;apply mC;have:=EP off c.cells.toList 0 ⟨r⟩ (by simp;omega);simp only[hx]at this;rw[<-Array.foldl_toList,Array.toList_zipIdx];rw[this];simp only[tY];rw[show off+c.cells.size=off+size by omega]
theorem sh(e:Rel C base E s w)(f:aD E nt t a.tmps):∀l:List (Nat×Operand),
  (HN C t l).path (λps=>ps.map (·.1)=(l.map λ(i,x)=>(i,a.eval x)).map (·.1)/\∀(j:Nat)(p:Nat×AV)(q:Nat×Value),ps[j]? =some p->(l.map λ(i,x)=>(i,a.eval x))[j]? =some q->ag E p.2=some q.2)
 | []=>by refine⟨rfl,?_⟩;intro j p q h;simp at h
 |(i,x)::l=>by
  unfold HN;refine R.bh _ (bf e f x) λv g=>?_
  refine R.bh _ (sh e f l) λps b=>?_
  refine⟨by simpa using b.1,?_⟩;intro j p q c d;cases j with
  |zero=>simp at c d;subst c;subst d;exact g
  |succ j=>exact b.2 j p q (by simpa using c) (by simpa using d)
theorem yN(b:Good C):∀a:List Field,(sG C a).path (λpl=>∀w,((a.mapM λf=>do pure (f.offset,<-sizeOf f.type):Sem (List (Nat×Nat)))).run C.P w=.ok pl w)
 | []=>by intro w;simp
 |f::a=>by
  unfold sG;refine R.bh _ (bY b f.type) λi V=>?_
  refine R.bh _ (yN b a) λl c=>?_
  intro w;simp only[List.mapM_cons,aA,V.2.size w,aP,aY,c w,bind_assoc,pure_bind]
theorem Vf(o:Good C)(p:Rel C base E s w)(B:aD E nt t a.tmps)(ty:TypeId)(b:Array (Nat×Operand))(rt:TypeId):
  (su ty b rt C t s).path (dM C base E s w ((VS (Instr.build ty (b.map λ(i,x)=>(i,a.eval x)))).run C.P w)):=by
 refine R.bh _ (sd o ty) λz D=>?_
 obtain⟨_,v,_,_,l,q⟩:=D;refine R.bh _ (sh p B b.toList) λps g=>?_
 refine R.bh _ (bw o ty) λd y=>?_
 have m:ax E z=some v.cells.toList:=q E;have f:(b.map λ(i,x)=>(i,a.eval x)).toList=b.toList.map λ(i,x)=>(i,a.eval x):=by simp
 cases d with
 |struct F=>
  refine R.bh _ (yN o F.toList) λpl u=>?_
  refine R.bh _ (nW (E:=E) (pa:=nth pl) (pc:=λi=>pl[i]?) (λi x h=>by rw[qU]at h;exact h) ps _ z _ g.1 g.2 m) λcs j=>?_
  obtain⟨r,A,_,W⟩:=j;refine dV p (c:=.agg ⟨r⟩) ?_ (by simp[ag,A]);unfold Instr.build;simp only[aA,l w,aP,eQ y w,Array.mapM_eq_mapM_toList,Sem.run_map,u w,f];have:Instr.fill (λx=>(List.toArray pl)[x]?) v.cells (b.toList.map λ(i,x)=>(i,a.eval x))=some ⟨r⟩:=by rw[<-W];congr 1;funext x;simp
  rw[this];rfl
 |array n e=>
  refine R.bh _ (bY o e) λi V=>?_
  refine R.bh _ (nW (E:=E) (pa:=λk=>some (Nat.mul k i.size,i.size)) (pc:=λk=>some (k*i.size,i.size)) (λ_ x h=>h) ps _ z _ g.1 g.2 m) λcs j=>?_
  obtain⟨r,A,_,W⟩:=j;refine dV p (c:=.agg ⟨r⟩) ?_ (by simp[ag,A]);unfold Instr.build;simp only[aA,l w,aP,eQ y w,V.2.size w,f];have:Instr.fill (λk=>some (k*i.size,i.size)) v.cells (b.toList.map λ(i,x)=>(i,a.eval x))=some ⟨r⟩:=by rw[<-W]
  rw[this];rfl
 |_=>trivial
theorem pE{E:G}{z:List AV}{r:List Value}(h:ax E z=some r):∀n,∃q,ax E (Je z n)=some q/\q.length=n*r.length/\∀j,j<n*r.length->q[j]? =r[j%r.length]?
 |0=>⟨[],by simp[Je,ax],by simp,by simp⟩
 |n+1=>by
  obtain⟨q,A,I,W⟩:=pE h n;refine⟨r++q,dI h A,by simp[I,Nat.succ_mul,Nat.add_comm],?_⟩;intro j c;rw[lE];split
  .next b=>rw[jH b]
  .next d=>
   have a:r.length<=j:=by omega
   rw[W (j-r.length) (by rw[Nat.succ_mul]at c;omega)];rw[Nat.mod_eq_sub_mod a]
theorem DH(u:Good C)(N:Rel C base E s w)(Q:aD E nt t a.tmps)(ty:TypeId)(len:Nat)(b:Array (Nat×Operand))(rt:TypeId):
  (jh ty len b rt C t s).path (dM C base E s w ((VS (Instr.buildSlice ty len (b.map λ(i,x)=>(i,a.eval x)))).run C.P w)):=by
 refine R.bh _ (bw u ty) λd S=>?_
 cases d with
 |slice e=>
  refine R.bh _ (bY u e) λi V=>?_
  refine R.bh _ (R.aI _ _) λ_ T=>?_
  have U:len*i.size<=16777216:=bn T;refine R.bh (λz=>∃r,ax E z=some r/\(len*i.size≠0->r.length=i.size/\∃v:Value,(zeroValue e).run C.P w=.ok v w/\r=v.cells.toList)/\(len*i.size=0->z=[])) ?_ λz y=>?_
  .unfold zL;cases B:Nat.beq (Nat.mul len i.size) 0
   .have D:len*i.size≠0:=λh=>by rw[show Nat.mul len i.size=0 from h]at B;cases B
    refine R.bh _ (sd u e) λz y=>?_
    obtain⟨_,v,_,_,A,I⟩:=y;refine R.bh _ (R.aI _ _) λ_ F=>?_
    refine⟨_,I E,λ_=>⟨?_,v,A w,rfl⟩,λh=>absurd h D⟩;have:=ba (I E);rw[this];exact aL F
   .have W:len*i.size=0:=aL B;exact⟨[],rfl,λh=>absurd W h,λ_=>rfl⟩
  .obtain⟨r,X,G,Y⟩:=y;refine R.bh _ (sh N Q b.toList) λps m=>?_
   obtain⟨q,n,Z,hq3⟩:=pE X len;refine R.bh _ (nW (E:=E) (pa:=λk=>some (Nat.mul k i.size,i.size)) (pc:=λk=>some (k*i.size,i.size)) (λ_ x h=>h) ps _ _ _ m.1 m.2 n) λcs H=>?_
   obtain⟨J,g1,g2,g3⟩:=H;have g:(b.map λ(i,x)=>(i,a.eval x)).toList=b.toList.map λ(i,x)=>(i,a.eval x):=by simp
   have K:q.length=len*i.size:=by grind[ax]
   have hcl:cs.length=len*i.size:=by rw[g2,<-ba n,K]
   have l:=Step.alloc (base:=base) N (fQ e cs) (.cells ⟨J⟩ e (0,0)) 0 len (M:=w.alloc (.cells ⟨J⟩ e (0,0))) rfl rfl rfl rfl
    (dZ V.1 g1 (by omega) (by have:=ba g1;simp;omega) (λj c O=>by simpa using O) _ 0 false 0 0 (by omega))
   refine⟨_,.slice (some ⟨w.heap.size,0,none⟩) len len,_,?_,by simp[ag],l⟩;have o:¬(len*i.size>2^24):=by omega
   unfold VS Instr.buildSlice;simp only[aA,eQ S w,aP,V.2.size w,ai o,pure_bind,g,bind_assoc];have f:∀zv:Array Value,(len*i.size≠0->zv.toList=r)->Instr.fill (λk=>some (k*i.size,i.size)) (Array.map (λx=>zv[x%zv.size]!) (Array.range (len*i.size))) (b.toList.map λ(i,x)=>(i,a.eval x))=some ⟨J⟩:=by
    intro zv hzv;rw[<-g3];congr 1;apply mC;apply zR;intro j;simp only[Array.toList_map,Array.toList_range,ik];by_cases O:j<len*i.size
    .grind
    .grind
   by_cases p:len*i.size=0
   .simp only[p,aH,aY];have:=f #[] (λh=>absurd p h);rw[p]at this;simp only[aA,aY,aP,this,fA]
   .obtain⟨_,v,hv,L⟩:=G p;have:=f v.cells (λ_=>L.symm);simp only[ai p,aA,hv,aP,aY,this,fA]
 |_=>trivial
end
end Go.Proofs.YtokipodjggomfaaGreatDoor.Abs
namespace Go.Proofs.YtokipodjggomfaaGreatDoor.Abs
open Go
section
variable{C:Ctx}{base:Nat}{E:G}{s:S}{w:World}{nt:Nat}{t:Tr AV}{a:Act}
theorem wrap_small(n:Nat)(h:n<=1099511627776):IntKind.i64.wrap (n:Int)=(n:Int):=by
 have A:((n:Int)%(2^IntKind.i64.bits:Int))=n:=by show(n:Int)%(18446744073709551616:Int)=n;omega
 unfold IntKind.wrap;simp only[A];rw[ai];simp only[aw,nc,not_and];intro _;show¬((n:Int) ≥ (9223372036854775808:Int));omega
theorem S0{r:List Value}{n m:Nat}(b:n=m*r.length)(zv:Array Value)(c:n≠0->zv.toList=r){q:List Value}
 (d:q.length=n) (a:∀j,j<n->q[j]? =r[j%r.length]?):Array.map (λx=>zv[x%zv.size]!) (Array.range n)=⟨q⟩:=by grind
end
end Go.Proofs.YtokipodjggomfaaGreatDoor.Abs
namespace Go.Proofs.YtokipodjggomfaaGreatDoor.Abs
open Go
section
variable{C:Ctx}{base:Nat}{E:G}{s:S}{w:World}{nt:Nat}{t:Tr AV}{a:Act}
def nF:Option Nat->Option Value->Prop
 |none,none=>True
 |some n,some c=>∃k,c=.int k (.ofNat n)
 |_,_=>False
theorem BO(b:Rel C base E s w)(d:aD E nt t a.tmps)(x:Option Operand):
  (evO C t x).path (λv=>match v,x.map a.eval with|none,none=>True|some v,some c=>ag E v=some c|_,_=>False):=by
 cases x with
 |none=>trivial
 |some x=>
  refine R.bh _ (bf b d x) λv e=>?_
  exact e
theorem qM(v:Option AV)(c:Option Value)(h:match v,c with|none,none=>True|some v,some c=>ag E v=some c|_,_=>False):
  (GJ v).path (λn=>nF n c):=by
 cases v with
 |none=>cases c with
  |none=>trivial
  |some c=>exact h.elim
 |some v=>cases c with
  |none=>exact h.elim
  |some c=>
   refine R.bh _ (lS v) λn a=>?_
   obtain⟨k,rfl⟩:=a;simp only[ag,ar]at h;exact⟨k,h.symm⟩
theorem run_sliceBound{P:Program}(k:IntKind)(n y:Nat)(code:BoundsCode)(h:n<=y)(w:World):(Instr.sliceBound (.int k (n:Int)) y code).run P w=.ok n w:=by have a:(0:Int)<=(n:Int)/\(n:Int)<=(y:Int):=⟨ky n,Int.ofNat_le.2 h⟩;simp only[Instr.sliceBound,asIntOf,pure_bind,a,and_self,aH];rfl
theorem fL{P:Program}(b:Bool)(len cap:Nat){lo V f:Option Nat}{a d e:Option Value}(A:nF lo a)(I:nF V d)(W:nF f e)
  (g:Xz (lo.getD 0) (V.getD len) (f.getD cap) cap V f=true) (w:World):
  (Instr.sliceBounds b len cap a d e).run P w=.ok (lo.getD 0,V.getD len,f.getD cap) w:=by
 simp only[Xz,aw]at g;obtain⟨⟨⟨g1,g2⟩,g3⟩,g4⟩:=g;have g1:=bn g1;have g2:=bn g2;have g3:=bn g3;unfold Instr.sliceBounds;cases f with
 |none=>
  cases e with
  |some c=>exact W.elim
  |none=>
   cases V with
   |none=>cases d with
    |some c=>exact I.elim
    |none=>cases lo with
     |none=>cases a with
      |some c=>exact A.elim
      |none=>rfl
     |some l=>cases a with
      |none=>exact A.elim
      |some c=>obtain⟨k,rfl⟩:=A;simp only[Option.getD]at g1 g2 g3 ⊢;simp[run_sliceBound _ _ _ _ g3]
   |some h=>cases d with
    |none=>exact I.elim
    |some c=>
     obtain⟨k,rfl⟩:=I;cases lo with
     |none=>cases a with
      |some c=>exact A.elim
      |none=>simp only[Option.getD]at g1 g2 g3 ⊢;simp[run_sliceBound _ _ _ _ g2]
     |some l=>cases a with
      |none=>exact A.elim
      |some c=>obtain⟨k',rfl⟩:=A;simp only[Option.getD]at g1 g2 g3 ⊢;simp[run_sliceBound _ _ _ _ g2,run_sliceBound _ _ _ _ g3]
 |some m=>
  cases e with
  |none=>exact W.elim
  |some i=>
   obtain⟨j,rfl⟩:=W;cases V with
   |none=>simp at g4
   |some h=>cases d with
    |none=>exact I.elim
    |some c=>
     obtain⟨k,rfl⟩:=I;cases lo with
     |none=>cases a with
      |some c=>exact A.elim
      |none=>simp only[Option.getD]at g1 g2 g3 ⊢;simp[run_sliceBound _ _ _ _ g2,run_sliceBound _ _ _ _ g1]
     |some l=>cases a with
      |none=>exact A.elim
      |some c=>obtain⟨k',rfl⟩:=A;simp only[Option.getD]at g1 g2 g3 ⊢;simp[run_sliceBound _ _ _ _ g2,run_sliceBound _ _ _ _ g3,run_sliceBound _ _ _ _ g1]
theorem Mx(m a off g ay dl:Nat):(if m=a then(⟨ay,dl+off,none⟩:Addr)else Addr.add ⟨ay,dl+off,none⟩ (a*g))=⟨ay,dl+Au m a off g,none⟩:=by
 unfold Au;by_cases h:m=a
 .subst h;simp
 .have:Nat.beq m a=false:=by
    cases b:Nat.beq m a
    .rfl
    .exact absurd (aL b) h
  rw[ai h,this,addr_add];simp only;congr 1;show dl+off+a*g=dl+(off+a*g);omega
theorem pL(l:List UInt8)(a h:Nat):(ByteArray.mk ⟨l⟩).extract a h=⟨⟨(l.take h).drop a⟩⟩:=by apply ByteArray.ext;simp only[ByteArray.data_extract];apply mC;simp[List.extract,vi]
theorem ta(v:Option AV)(c:Option Value)(h:match v,c with|none,none=>True|some v,some c=>ag E v=some c|_,_=>False)(d:SE)(b:Nat)(f:aj E d=some (.val (.int .i64 b))):
  (Bi v d).path (λl=>∃q n,aj E l=some (.val (.int q n))/\∀a:Nat,n=a->∃o,nF o c/\o.getD b=a):=by
 cases v with
 |none=>cases c with
  |none=>exact⟨_,_,f,λa e=>⟨none,dB,by show b=a;omega⟩⟩
  |some c=>exact h.elim
 |some v=>cases c with
  |none=>exact h.elim
  |some c=>
   show(match uF (zt v)with|true=>R.ok (cT v)|false=>R.bad _).path _;cases V:uF (zt v)with
   |false=>exact R.aJ _ _
   |true=>obtain⟨q,g⟩:=pq V;obtain⟨n,A,I⟩:=ug h g;exact⟨q,n,A,λa e=>⟨some a,⟨q,by rw[I,e];rfl⟩,rfl⟩⟩
theorem Jw(D:Rel C base E s w){d:TypeDesc}{ty:TypeId}(F:C.P.underlying ty=some d){x:AV}{G:Value}(I:ag E x=some G)(i j k:Option AV)(a b m:Option Value)
  (t:match i,a with|none,none=>True|some v,some c=>ag E v=some c|_,_=>False) (u:match j,b with|none,none=>True|some v,some c=>ag E v=some c|_,_=>False)
  (y:match k,m with|none,none=>True|some v,some c=>ag E v=some c|_,_=>False):
  (LC s d x i j k).path (λr=>∃c,ag E r=some c/\(Instr.sliceAt ty G a b m).run C.P w=.ok c w):=by
 unfold LC;cases d<;>first|exact R.aJ _ _|skip
 cases Z:zt x<;>first|exact R.aJ _ _|skip
 cases k with
 |some _=>exact R.aJ _ _
 |none=>
  cases m with
  |some _=>exact y.elim
  |none=>
   obtain⟨str,A,rfl⟩:=FW I Z;have g:aj E (.a1 .len (cT x))=some (.val (.int .i64 str.size)):=by simp only[aj,A,aW,Go.Proofs.YtokipodjggomfaaGreatDoor.Abs.e1]
   refine R.bh _ (ta i a t (.int .i64 0) 0 rfl) λl J=>?_
   refine R.bh _ (ta j b u (.a1 .len (cT x)) str.size g) λh hh=>?_
   obtain⟨K,n,g1,g2⟩:=J;obtain⟨L,o,g3,g4⟩:=hh
   suffices key:0<=n/\n<=o/\o<=(str.size:Int)->(R.ok (AV.bS .str (.a3 .sub (cT x) l h))).path (λr=>∃c,ag E r=some c/\(Instr.sliceAt ty (.string str) a b none).run C.P w=.ok c w) by
    cases z:Qj (cT x) s.pc l h with
    |true=>exact key (Nh (λf M=>(D.pc f M).2) A z g1 g3)
    |false=>
     refine R.ew D λN=>key ?_
     rcases na (0<=n/\n<=o/\o<=(str.size:Int))with h|h
     .exact h
     .exact absurd ⟨K,n,L,o,_,rfl,h⟩ (h4 N (Dy g1 g3 g))
   intro B;obtain⟨m1,rfl⟩:=et B.1;obtain⟨m2,rfl⟩:=et (vf B.1 B.2.1);obtain⟨O,i1,p⟩:=g2 m1 rfl;obtain⟨H,i2,q⟩:=g4 m2 rfl;refine⟨_,dn (d:=.val (.string ⟨⟨(str.data.toList.take m2).drop m1⟩⟩)) ?_ ⟨_,rfl⟩ rfl,?_⟩
   .simp only[aj,A,g1,g3,aW,e3];simp
   .have Q:Xz (O.getD 0) (H.getD str.size) ((none:Option Nat).getD str.size) str.size H none=true:=by
      rw[p,q];simp only[Xz,Option.getD,Option.isNone,Bool.or_true,Bool.and_true,aw,vc];omega
    have:=fL (P:=C.P) false str.size str.size i1 i2 (show nF none none from trivial) Q w;rw[p,q]at this;unfold Instr.sliceAt;rw[aG F];simp only[Instr.slice];rw[aG F];simp only[Option.isSome_none,dY,aQ,aA,this,aP,aY];have e:str.extract m1 m2=⟨⟨(str.data.toList.take m2).drop m1⟩⟩:=by
     have:=pL str.data.toList m1 m2
     rwa [<-ue]at this
    rw[e];rfl
theorem mF{l:Loc}{n c:Nat}(A:n<=c)(I:c<=l.cp):TW l (.val (.int .i64 (.ofNat n))) (.val (.int .i64 (.ofNat c)))=some (.slice (some ⟨l.ay,l.dl,none⟩) n c):=by show(if n<=c/\c<=l.cp then _ else _)=_;rw[az ⟨A,I⟩]
theorem JB(Q:Good C)(S:Rel C base E s w){d:TypeDesc}{ty:TypeId}(L:C.P.underlying ty=some d){b:Nat}{n c:SE}{M:Value}(N:ag E (.gR b n c)=some M)(g t u:Option AV)(a f x:Option Value)
  (j:match g,a with|none,none=>True|some v,some c=>ag E v=some c|_,_=>False) (y:match t,f with|none,none=>True|some v,some c=>ag E v=some c|_,_=>False)
  (D:match u,x with|none,none=>True|some v,some c=>ag E v=some c|_,_=>False):
  (Nf C s d b n c g t u).path (λr=>∃c,ag E r=some c/\(Instr.sliceAt ty M a f x).run C.P w=.ok c w):=by
 unfold Nf;cases d<;>first|exact R.aJ _ _|skip
 rename_i e;refine R.bh _ (bY Q e) λi K=>?_
 cases u with
 |some _=>exact R.aJ _ _
 |none=>
  cases x with
  |some _=>exact D.elim
  |none=>
   simp only;cases O:NG g with
   |false=>exact R.aJ _ _
   |true=>
    obtain⟨F,k,q,T,G,H,Z,U,rfl⟩:=gH N;have low:∃o:Option Nat,nF o a/\o.getD 0=0:=by
     cases g with
     |none=>cases a with
      |none=>exact⟨none,dB,rfl⟩
      |some _=>exact j.elim
     |some v=>cases a with
      |none=>exact j.elim
      |some cl=>
       cases v<;>first|(cases O;done)|skip
       rename_i V m;have B:m=0:=bq O;subst B;simp only[ag,ar]at j;exact⟨some 0,⟨V,j.symm⟩,rfl⟩
    obtain⟨lo,z,l⟩:=low;have fin:∀(o:Option Nat)(m:Nat)(r:AV),nF o f->o.getD k=m->m<=k->ag E r=some (.slice (some ⟨F.ay,F.dl,none⟩) m q)->
      ∃c,ag E r=some c/\(Instr.sliceAt ty (.slice (some ⟨F.ay,F.dl,none⟩) k q) a f none).run C.P w=.ok c w:=by
     intro o m r ho B W X;refine⟨_,X,?_⟩;have Y:Xz (lo.getD 0) (o.getD k) ((none:Option Nat).getD q) q o none=true:=by rw[l,B];simp only[Xz,Option.getD,Option.isNone,Bool.or_true,Bool.and_true,aw,vc];omega
     have:=fL (P:=C.P) true k q z ho (show nF none none from trivial) Y w;rw[l,B]at this;simp only[Option.getD_none]at this;unfold Instr.sliceAt;rw[aG L];simp only[Instr.slice];rw[aG L];simp only[aA,this,aP,K.2.size w,aY,rJ,kx,bX,Addr.add,aH,ite_self]
    cases t with
    |none=>
     cases f with
     |some _=>exact y.elim
     |none=>exact fin none k _ trivial rfl (aX _) N
    |some h=>
     cases f with
     |none=>exact y.elim
     |some ch=>
      simp only;cases J:ny (zt h) (.int .i64)with
      |false=>exact R.aJ _ _
      |true=>
       obtain⟨m,A,I⟩:=ug y (iH J);refine R.ew S λhn=>?_
       have hb:0<=m/\m<=(k:Int):=by
        rcases na (0<=m/\m<=(k:Int))with h|h
        .exact h
        .exact absurd ⟨.i64,0,.i64,m,_,rfl,λhh=>h hh.2⟩ (h4 hn (Dy (show aj E (.int .i64 0)=some (.val (.int .i64 0))from rfl) A G))
       obtain⟨p,rfl⟩:=et hb.1;refine fin (some p) p _ ⟨.i64,by rw[I];rfl⟩ rfl (by omega) ?_;simp only[ag,T,A,H,aW];exact mF (by omega) U
theorem ok_slice(L:Good C)(z:Rel C base E s w)(T:aD E nt t a.tmps)(ty:TypeId)(x:Operand)(lo V M:Option Operand)(rt:TypeId):
  (sk ty x lo V M rt C t s).path (dM C base E s w ((VS (Instr.sliceAt ty (a.eval x) (lo.map a.eval) (V.map a.eval) (M.map a.eval))).run C.P w)):=by
 refine R.bh _ (bf z T x) λv p=>?_
 refine R.bh _ (BO z T lo) λf D=>?_
 refine R.bh _ (BO z T V) λj G=>?_
 refine R.bh _ (BO z T M) λk H=>?_
 refine R.bh (λr=>∃c,ag E r=some c/\(Instr.sliceAt ty (a.eval x) (lo.map a.eval) (V.map a.eval) (M.map a.eval)).run C.P w=.ok c w) ?_ λr hr=>(let⟨c,A,I⟩:=hr;dV z I A)
 by_cases N:∃b n c,v=.gR b n c
 .obtain⟨b,n,c,rfl⟩:=N;refine R.bh _ (bw L ty) λd u=>?_
  exact JB L z u p f j k _ _ _ D G H
 have O:IW C s ty v f j k=FV C s ty v f j k:=by cases v<;>first|rfl|exact absurd ⟨_,_,_,rfl⟩ N
 rw[O];unfold FV;cases hq:Cs v||Hj f||Hj j with
 |true=>
  refine R.bh _ (bw L ty) λd u=>?_
  exact Jw z u p f j k _ _ _ D G H
 |false=>
 refine R.bh _ (qM f _ D) λl W=>?_
 refine R.bh _ (qM j _ G) λh hh=>?_
 refine R.bh _ (qM k _ H) λm U=>?_
 refine R.bh _ (bw L ty) λd u=>?_
 cases v with
 |str q=>
  cases d with
  |string=>
   refine R.bh _ (R.aI _ _) λ_ y=>?_
   simp only[aw]at y;obtain⟨y,hn⟩:=y;have X:m=none:=by cases m<;>simp_all
   subst X;cases Y:M.map a.eval with
   |some _=>rw[Y]at U;exact U.elim
   |none=>simp only[ag,ar]at p;refine⟨_,rfl,?_⟩;unfold Instr.sliceAt;rw[aG u];simp only[Instr.slice];rw[aG u];rw[<-p];have Z:(ByteArray.mk ⟨q⟩).size=q.length:=rfl;have:=fL (P:=C.P) false q.length q.length W hh (show nF none none from trivial) (by simpa using y) w;simp only[Option.isSome_none,dY,aQ,Z,aA,this,aP,aY,pL]
  |_=>trivial
 |sl b off len cap=>
  cases d with
  |slice e=>
   refine R.bh _ (bY L e) λi K=>?_
   refine R.bh _ (R.aI _ _) λ_ y=>?_
   simp only[ag,aN]at p;obtain⟨F,o,he⟩:=p;refine⟨.slice (some ⟨F.ay,F.dl+Au (m.getD cap) (l.getD 0) off i.size,none⟩) (h.getD len-l.getD 0) (m.getD cap-l.getD 0),by simp[ag,o],?_⟩;unfold Instr.sliceAt;rw[aG u];simp only[Instr.slice];rw[aG u];rw[<-he];have:=fL (P:=C.P) true len cap W hh U y w;simp only[aA,this,aP,K.2.size w,aY,bX];have I:=Mx (m.getD cap) (l.getD 0) off i.size F.ay F.dl;rw[<-I];split<;>rfl
  |_=>trivial
 |np b pre e0 len g=>
  cases d with
  |slice e=>
   refine R.bh _ (bY L e) λi K=>?_
   cases m with
   |none=>
    refine R.bh _ (R.aI _ _) λ_ y=>?_
    simp only[aw]at y;obtain⟨hg1,Q⟩:=y;simp only[ag,aN]at p;obtain⟨F,o,he⟩:=p;obtain⟨k1,k2,k3⟩:=wL z K.1 o hg1;have k3':e0+h.getD len<=F.cp:=k3;have a8D:l.getD 0<=h.getD len:=bn Q;have hb:Xz (l.getD 0) (h.getD len) ((none:Option Nat).getD (F.cp-e0)) (F.cp-e0) h none=true:=by simp only[Xz,aw,Option.getD_none];refine⟨⟨⟨xM (aX _),xM (by omega)⟩,Q⟩,by simp⟩
    have B:=fL (P:=C.P) true len (F.cp-e0) W hh U hb w;have J:∀v,(∀c,ag E v=some c->c=.slice (if F.cp-e0=l.getD 0 then some ⟨F.ay,F.dl+(if e0<F.cp then e0 else pre)*g,none⟩else(some ⟨F.ay,F.dl+(if e0<F.cp then e0 else pre)*g,none⟩:Option Addr).map (·.add (l.getD 0*i.size))) (h.getD len-l.getD 0) (F.cp-e0-l.getD 0))->
      (∃c,ag E v=some c)->∃c,ag E v=some c/\(Instr.sliceAt ty (a.eval x) (lo.map a.eval) (V.map a.eval) (M.map a.eval)).run C.P w=.ok c w:=by
     rintro v p ⟨c,S⟩;refine⟨c,S,?_⟩;rw[p c S];unfold Instr.sliceAt;rw[aG u];simp only[Instr.slice];rw[aG u];rw[<-he];simp only[Option.getD_none]at B;simp only[aA,B,aP,K.2.size w,aY]
    cases hl0:l.getD 0 with
    |zero=>refine J _ (λc S=>?_) ⟨_,by simp[ag,o];rfl⟩;simp only[ag,o,bX,ar]at S;rw[<-S,hl0];simp only[rJ,kx,bX,Addr.add,aH,ite_self]
    |succ n=>exact R.aJ _ _
   |some m=>exact R.aJ _ _
  |_=>trivial
 |_=>trivial
end
end Go.Proofs.YtokipodjggomfaaGreatDoor.Abs
namespace Go.Proofs.YtokipodjggomfaaGreatDoor.Abs
open Go
section
variable{C:Ctx}{base:Nat}{E:G}{s:S}{w:World}{nt:Nat}{t:Tr AV}{a:Act}
theorem rs(E:G):∀l:List UInt8,ax E (j8 l)=some (l.map λb=>Value.int .u8 b.toNat)
 | []=>rfl
 |b::l=>by
  show ax E (.int .u8 (.ofNat b.toNat)::j8 l)=_;exact av.2 ⟨_,_,rfl,rs E l,rfl⟩
theorem mV:∀l:List UInt8,(j8 l).length=l.length
 | []=>rfl
 |_::l=>by simp[j8,mV l]
theorem tb(t:Good C)(m:Rel C base E s w)(e:TypeId){i:TI}(V:C.T.get e=some i)(x:AV)(o:Value)(Y:ag E x=some o):
  (srcCells s e i.size x).path (λr=>∃cs,ax E r.2=some cs/\r.2.length=r.1*i.size/\(∀M:World,(Builtin.lenOf o).run C.P M=.ok r.1 M)/\(∀n,n<=r.1->(Builtin.firstCells i.size n o).run C.P w=.ok ⟨cs.take (n*i.size)⟩ w)):=by
 cases x with
 |dh=>simp only[ag,ar]at Y;subst Y;refine⟨[],rfl,by simp,λM=>rfl,λn f=>?_⟩;simp[Builtin.firstCells]
 |str l=>
  simp only[ag,ar]at Y;subst Y;show(match Nat.beq i.size 1 with|true=>R.ok (l.length,j8 l)|false=>R.bad _).path _;cases u:Nat.beq i.size 1
  .trivial
  .have A:i.size=1:=aL u;refine⟨_,rs E l,by simp[mV,A],λM=>rfl,λn f=>?_⟩;simp only[Builtin.firstCells,pL,A,ve];rw[aY];congr 1;apply mC;simp[List.map_take]
 |sl b off len cap=>
  simp only[ag,aN]at Y;obtain⟨F,h,rfl⟩:=Y;refine R.bh _ (lh m b off _) λvs c=>?_
  obtain⟨p,cs,A,I,W,D⟩:=c;rw[h]at A;obtain rfl:=ae A;refine⟨cs,I,W,λM=>rfl,λn f=>?_⟩;have a:=ba I;have d:vs.length=len*i.size:=W;have q:n*i.size<=cs.length:=by rw[a,d];exact iU _ f
  simp only[Builtin.firstCells];exact dK (λj v k=>by
   rw[qk]at k;split at k
   .exact D j v k
   .cases k) _ (by simp;omega)
 |np b pre e0 len g=>
  simp only[ag,aN]at Y;obtain⟨F,h,rfl⟩:=Y;refine R.bh _ (R.aI _ _) λ_ y=>?_
  obtain⟨z,J,B⟩:=wL m V h y;have G:e0+len<=F.cp:=B;subst z;refine R.bh _ (lh m b _ _) λvs c=>?_
  obtain⟨p,cs,A,I,W,D⟩:=c;rw[h]at A;obtain rfl:=ae A;refine⟨cs,I,W,λM=>rfl,λn f=>?_⟩;have a:=ba I;have d:vs.length=len*i.size:=W;have q:n*i.size<=cs.length:=by rw[a,d];exact iU _ f
  simp only[Builtin.firstCells];by_cases H:len=0
  .subst H;have:n=0:=by omega
   subst this;simp[loadCells,loadCellsFrom]
  .grind[dK]
 |_=>trivial
theorem xb(nl:Nat):∀(r c:Nat),c<=nl->Builtin.growBy nl r c<=nl+(nl+768)/4+1
 |0,c,h=>by simp[Builtin.growBy];omega
 |r+1,c,h=>by
  unfold Builtin.growBy;split
  .omega
  .by_cases I:c+(c+768)/4<=nl
   .exact xb nl r _ I
   .have:Builtin.growBy nl r (c+(c+768)/4)=c+(c+768)/4:=by
      cases r with
      |zero=>rfl
      |succ r=>unfold Builtin.growBy;rw[az (by omega)]
    rw[this];have:(c+768)/4<=(nl+768)/4:=Fq (by omega);omega
theorem DI(nl a:Nat)(h:a<nl):Builtin.nextslicecap nl a<=4*nl+1000:=by
 unfold Builtin.nextslicecap;split
 .omega
 .grind[xb]
def Xu(P:Program)(w:World)(xd:TypeDesc)(i:TI)(e:TypeId)(a:Value)(n:Nat)(b:List Value):Prop:=
 (uG xd=false/\(∀M:World,(Builtin.lenOf a).run P M=.ok n M)/\∀d,(Builtin.firstCells i.size n a).run P { w with drawn:=d }=.ok ⟨b⟩ { w with drawn:=d })\/
 (uG xd=true/\(∃k,a=.int k n)/\n*i.bytes<=68719476736/\n<=68719476736/\∃zv:Value,(∀M:World,(zeroValue e).run P M=.ok zv M)/\(if n*i.size=0 then(#[]:Array Value)else Builtin.zeroCells zv.cells n)=⟨b⟩)
theorem ja(M:Good C){st H e:TypeId}{i:TI}{xd:TypeDesc}(g:C.P.underlying st=some (.slice e))(h:C.P.underlying H=some xd)(N:C.T.get e=some i)(r:tA C.P e i)
  {rest:List TypeId} {rt:TypeId} {b:Option Addr} {dN jL n:Nat} {J:Value} {t s:List Value} {z:List AV} (O:i.zero=some z) (Q:z.length=i.size)
  (j:Xu C.P w xd i e J n s) (k:jL<dN+n) (R:(dN+n)*i.bytes<=68719476736) (S:dN+n<=68719476736)
  (l:∀d,(Builtin.firstCells i.size dN (.slice b dN jL)).run C.P { w with drawn:=d }=.ok ⟨t⟩ { w with drawn:=d })
  (u:t.length=dN*i.size) (v:s.length=n*i.size):
  ∃(cap:Nat)(eo:Array Value),dN+n<=cap/\eo.size=(cap-(dN+n))*i.size/\
   (Builtin.append_ ⟨st::H::rest⟩ rt #[.slice b dN jL,J]).run C.P w=
     .ok (.slice (some ⟨w.heap.size,0,none⟩) (dN+n) cap) { w with drawn:=w.drawn+1,heap:=w.heap.push (.cells (⟨t⟩++⟨s⟩++eo) e (0,0)) }:=by
 obtain⟨ti,t1,t2,t3,_⟩:=r.info;obtain⟨zv,m,x⟩:=r.zero z O;have y:zv.cells.size=i.size:=by have:=ba (x (λ_=>none));simp at this;omega
 let cap:=(Question.appendCap (dN+n) jL e).cut (w.tape w.drawn (.appendCap (dN+n) jL e))
 have a:dN+n<=cap:=by show dN+n<=dN+n+_;omega
 refine⟨cap,Builtin.zeroCells zv.cells (cap-(dN+n)),a,by simp[Builtin.zeroCells,y],?_⟩;have A:¬(((dN+n:Nat):Int)>IntKind.i64.max/\ti.bytes=0):=by
  have:IntKind.i64.max=9223372036854775807:=by decide
  rw[this];omega
 have B:¬(((dN+n:Nat):Int)>IntKind.i64.max):=by
  have:IntKind.i64.max=9223372036854775807:=by decide
  rw[this];omega
 have I:¬(Builtin.nextslicecap (dN+n) jL*ti.bytes>2^48):=by
  have:=DI (dN+n) jL k;have W:Builtin.nextslicecap (dN+n) jL*ti.bytes<=(4*(dN+n)+1000)*ti.bytes:=iU _ this;have D:(4*(dN+n)+1000)*ti.bytes<=4*((dN+n)*ti.bytes)+1000*ti.bytes:=by rw[cY,Nat.mul_assoc];omega
  have h5:ti.bytes<=(dN+n)*ti.bytes:=Nat.le_mul_of_pos_left _ (by omega);rw[t2]at *;omega
 have K:(Question.appendCap (dN+n) jL e).forced=false:=rfl;rcases j with⟨c,o,f⟩|⟨c,⟨U,rfl⟩,V,Z,X,p,f⟩
 .cases xd<;>first|(cases c;done)|skip
  all_goals(
   unfold Builtin.append_;simp only[jJ,cr,kA];rw[aA,eQ g];simp only[aP];rw[aA,r.size w];simp only[aP,aA,eQ h,aY,dY,aQ,vh,aH,false_or,o];rw[ai (by omega)];simp only[aA,typeInfo,iV,t1,aP,aY];rw[ai A];simp only[aA,iV,t1,aP,aY];rw[ai I];simp only[aA,run_choose,K,dY,aQ,aP,iV,t1,aY,run_askRoom];rw[l (w.drawn+1)];simp only[aP];rw[f (w.drawn+1)];simp only[aP,m];simp only[newRow,aA,run_newObj,aP,aY];rfl)
 .cases xd<;>first|(cases c;done)|skip
  have E:IntKind.i64.wrap (n:Int)=(n:Int):=wrap_small n (by omega);have Y:(Go.asInt (.int U (n:Int))).run C.P w=.ok (n:Int) w:=rfl;have F:¬((n:Int)<0):=by omega
  have G:¬((n:Int)*(ti.bytes:Int)>2^48):=by
   rw[t2];have:(n:Int)*(i.bytes:Int)=((n*i.bytes:Nat):Int):=by push_cast;rfl
   rw[this];omega
  unfold Builtin.append_;simp only[jJ,cr,kA];rw[aA,eQ g];simp only[aP];rw[aA,r.size w];simp only[aP,aA,eQ h,aY,aH,true_or,gP,vg,dY,aQ,Y,E];rw[ai F];simp only[aA,typeInfo,iV,t1,aP,aY];rw[ai G];simp only[aA,aP,aY,tQ];rw[ai (show¬(dN+n<=jL) by omega)];simp only[aA,iV,t1,aP,aY];rw[ai B];simp only[aA,iV,t1,aP,aY];rw[ai I];simp only[aA,run_choose,K,dY,aQ,aP,iV,t1,aY,run_askRoom];rw[l (w.drawn+1)];simp only[aP];have q:(Sem.run C.P (if n*i.size=0 then(pure #[]:Sem (Array Value))else do pure (Builtin.zeroCells (<-zeroValue e).cells n)) { w with drawn:=w.drawn+1 })=.ok ⟨s⟩ { w with drawn:=w.drawn+1 }:=by
   rw[<-f];by_cases L:n*i.size=0
   .simp only[L,aH,aY]
   .simp only[L,aQ,aA,p,aP,aY]
  rw[q];simp only[aP,m];simp only[newRow,aA,run_newObj,aP,aY];rfl
end
end Go.Proofs.YtokipodjggomfaaGreatDoor.Abs
namespace Go.Proofs.YtokipodjggomfaaGreatDoor.Abs
open Go
section
variable{C:Ctx}{base:Nat}{E:G}{s:S}{w:World}{nt:Nat}{t:Tr AV}{a:Act}
theorem hK{st t e:TypeId}{i:TI}{xd:TypeDesc}(h:C.P.underlying st=some (.slice e))(j:C.P.underlying t=some xd)(o:tA C.P e i)
  {rest:List TypeId} {rt:TypeId} {b:Option Addr} {dN jL n:Nat} {u:Value} {p:List Value}
  (k:Xu C.P w xd i e u n p) (d:dN+n<=jL) {M:World}
  (f:∀ad,b=some ad->(storeCells (ad.add (dN*i.size)) p).run C.P w=.ok () M) (a:b=none->M=w):
    (Builtin.append_ ⟨st::t::rest⟩ rt #[.slice b dN jL,u]).run C.P w=.ok (.slice b (dN+n) jL) M:=by
 rcases k with⟨g,l,c⟩|⟨g,⟨x,rfl⟩,y,B,z,v,c⟩
 .have c:=c w.drawn;cases xd<;>first|(cases g;done)|skip
  all_goals(
   unfold Builtin.append_;simp only[jJ,cr,kA];rw[aA,eQ h];simp only[aP];rw[aA,o.size w];simp only[aP,aA,eQ j,aY,dY,aQ,vh,aH,l];rw[az d];simp only[aA,c,aP];cases b with
   |none=>simp only[a rfl];rfl
   |some ad=>simp only[aA,f ad rfl,aP,aY])
 .obtain⟨ti,t1,t2,t3,_⟩:=o.info;cases xd<;>first|(cases g;done)|skip
  have q:IntKind.i64.wrap (n:Int)=(n:Int):=wrap_small n (by omega);have A:(Go.asInt (.int x (n:Int))).run C.P w=.ok (n:Int) w:=rfl;have r:¬((n:Int)<0):=by omega
  have s:¬((n:Int)*(ti.bytes:Int)>2^48):=by grind
  unfold Builtin.append_;simp only[jJ,cr,kA];rw[aA,eQ h];simp only[aP];rw[aA,o.size w];simp only[aP,aA,eQ j,aY,aH,true_or,gP,vg,dY,aQ,A,q];rw[ai r];simp only[aA,typeInfo,iV,t1,aP,aY];rw[ai s];simp only[aA,aP,aY,tQ];rw[az d];have m:(Sem.run C.P (if n*i.size=0 then(pure #[]:Sem (Array Value))else do pure (Builtin.zeroCells (<-zeroValue e).cells n)) w)=.ok ⟨p⟩ w:=by grind[Sem.run_pure,Sem.run_bind,Result.andThen_ok]
  simp only[aA,m,aP];cases b with
  |none=>simp only[a rfl];rfl
  |some ad=>simp only[aA,f ad rfl,aP,aY]
theorem Rel.drawn (a:Rel C base E s w) {M:World} (hh:M.heap=w.heap):Rel C base E s M:=
 ⟨λid b h=>by rw[hh];exact a.ay id b h,a.sep,a.new,a.eM,a.low,by rw[hh];exact a.bs,a.pc,λid l d A I=>Dt.c6.stays (λk c=>⟨by rw[hh];exact c,by rw[hh]⟩) d (a.rd id l d A I)⟩
theorem Rel.fj (c:Rel C base E s w) {b:Nat} {e:TypeId} {cs:Tr AV} {k fz:Nat} {fh:List Nat} {st sg:Bool} (q:s.h.get b=some (.cells e cs k fz fh st sg)):
  Rel C base E ⟨s.h.set b (.cells e cs k fz fh true sg),s.next,s.pc⟩ w:=by
 have a:∀i x,(s.h.set b (.cells e cs k fz fh true sg)).get i=some x->(i=b/\x=.cells e cs k fz fh true sg)\/(i≠b/\s.h.get i=some x):=by grind[Tr.bm]
 have m:∀i x y l O,fg x i (.cells e cs k fz fh st sg) l O->y=.cells e cs k fz fh true sg->fg x i y l O:=by intro i x y l O h p;subst p;cases x<;>simp only[fg]at h ⊢;exact⟨h.1,dB,h.2.2⟩
 have f:∀j y l O,fg (.cells e cs k fz fh st sg) j y l O->fg (.cells e cs k fz fh true sg) j y l O:=by intro j y l O h;cases y<;>exact h
 refine⟨?_,?_,c.new,c.eM,?_,c.bs,c.pc,?_⟩
 .intro i x Y;rcases a i x Y with⟨rfl,rfl⟩|⟨_,r⟩
  .obtain⟨l,o,A,I,vs,lo,V,rfl,g1,g2,g3,g4,t⟩:=c.ay i _ q;refine⟨l,_,A,I,vs,lo,V,rfl,g1,?_,g3,(λh=>by cases h),t⟩;exact g2
  .obtain⟨l,o,A,I,W⟩:=c.ay i x r;exact⟨l,o,A,I,W.mono (Grow.refl E) ⟨rfl,rfl,rfl⟩⟩
 .intro i j x y l O A I W D g n;rcases a i x A with⟨rfl,rfl⟩|⟨_,Y⟩
  .rcases a j y I with⟨rfl,_⟩|⟨_,p⟩
   .exact absurd rfl g
   .rcases c.sep i j _ y l O q p W D g n with h|h
    .exact .inl (f _ _ _ _ h)
    .exact .inr (m _ _ _ _ _ h rfl)
  .rcases a j y I with⟨rfl,rfl⟩|⟨_,p⟩
   .rcases c.sep i j x _ l O Y q W D g n with h|h
    .exact .inl (m _ _ _ _ _ h rfl)
    .exact .inr (f _ _ _ _ h)
   .exact c.sep i j x y l O Y p W D g n
 .intro i x l A I W;rcases a i x A with⟨rfl,rfl⟩|⟨_,Y⟩
  .rfl
  .exact c.low i x l Y I W
 .refine c.YG (aX _) (λk _ _=>rfl) (λk' _=>?_) (λid l d A I=>⟨id,l,A,I⟩);rintro⟨id,x,l,A,I,W,D⟩;rcases a id x A with⟨rfl,rfl⟩|⟨_,Y⟩
  .cases I
  .exact⟨id,x,l,Y,I,W,D⟩
theorem Step.fj (a:Rel C base E s w) {b:Nat} {e:TypeId} {cs:Tr AV} {k fz:Nat} {fh:List Nat} {st sg:Bool} (c:s.h.get b=some (.cells e cs k fz fh st sg)):
  Step C base E s w E ⟨s.h.set b (.cells e cs k fz fh true sg),s.next,s.pc⟩ w:=by
 refine Step.of ⟨Grow.refl E,a.fj c,qg.refl _ _ _,?_,aX _,λ_ _ h=>a.lt h,λ_ l h=>.inl ⟨l,h⟩,λid x A _=>by
  simp only[Tr.bm]at A;split at A
  .next h=>subst h;exact⟨_,c⟩
  .exact⟨x,A⟩⟩
 rintro k' ⟨id,x,l,A,I,W,D⟩ _;simp only[Tr.bm]at A;split at A
 .obtain rfl:=ae A;cases I
 .exact⟨id,x,l,A,I,W,D⟩
theorem Rel.alias (z:Rel C base E s w) {b:Nat} {e:TypeId} {cs:Tr AV} {k fz:Nat} {fh:List Nat} {sg:Bool} (hb:s.h.get b=some (.cells e cs k fz fh false sg))
  {F:Loc} (N:E b=some F) {arr:Array Value} {lo V:Nat} (ho:w.heap[F.ay]? =some (.cells arr e (lo,V))) {i:TI} (K:C.T.get e=some i) {e0 len n:Nat}
  (Z:(e0+len)*i.size=k) (U:e0+len+n<=F.cp) {lV new:List AV} {R m:List Value} (hold:ax E lV=some R) (S:ax E new=some m)
  (a8z:lV.length=len*i.size) (X:new.length=n*i.size) (a6h:∀(j:Nat)v,R[j]? =some v->arr[F.dl+e0*i.size+j]? =some v) (_hfz:fz<=k)
  (M:World) (B:M.heap=w.heap.setIfInBounds F.ay (.cells (fK arr (F.dl+k) m) e (lo,V))):
  Rel C base (λid=>if id=s.next then some ⟨F.ay,F.dl+e0*i.size,F.cp-e0,none⟩else E id)
   ⟨(s.h.set b (.cells e cs k fz fh true sg)).set s.next (.cells e (Tr.ofList (lV++new)) ((len+n)*i.size) (fz-e0*i.size) (b::fh) false sg),s.next+1,s.pc⟩ M:=by
 have hS:=z.fj hb;obtain⟨O,o,A,I,vs,SU,ZA,hoo,g1,g2,⟨ii,g3,g4,g5,qd,g7⟩,g6,glh⟩:=z.ay b _ hb;rw[N]at A;obtain rfl:=ae A;rw[ho]at I;obtain rfl:=ae I;cases hoo;rw[K]at g3;obtain rfl:=ae g3;have a8I:b≠s.next:=eS (z.lt N);have Kr:F.ay<w.heap.size:=by grind
 have a:Grow E (λid=>if id=s.next then some ⟨F.ay,F.dl+e0*i.size,F.cp-e0,none⟩else E id):=by intro id l N;have:id≠s.next:=eS (z.lt N);exact⟨l,by simp[this,N],rfl,rfl,rfl⟩
 have hmul:(e0+len+n)*i.size<=F.cp*i.size:=iU _ U;have a78:(e0+len+n)*i.size=k+n*i.size:=by rw[cY,Z]
 have hcl:=ba S;have p:∀id x,((s.h.set b (.cells e cs k fz fh true sg)).set s.next (.cells e (Tr.ofList (lV++new)) ((len+n)*i.size) (fz-e0*i.size) (b::fh) false sg)).get id=some x->
   (id=s.next/\x=.cells e (Tr.ofList (lV++new)) ((len+n)*i.size) (fz-e0*i.size) (b::fh) false sg)\/(id≠s.next/\(s.h.set b (.cells e cs k fz fh true sg)).get id=some x):=by
  intro id x Y;rw[Tr.bm]at Y;split at Y
  .next h=>exact .inl ⟨h.symm,(ae Y).symm⟩
  .next h=>exact .inr ⟨cm h,Y⟩
 have q:∀id x lx,(s.h.set b (.cells e cs k fz fh true sg)).get id=some x->E id=some lx->lx.ay=F.ay->
   ∃e' P k' M2 r Q,x=.cells e' P k' M2 r true Q/\id∈b::fh/\lx.dl+k'<=F.dl+k:=by
  intro id x lx Y hγ f;by_cases G:id=b
  .subst G;rw[Tr.get_set_same]at Y;obtain rfl:=ae Y;rw[N]at hγ;obtain rfl:=ae hγ;exact⟨_,_,_,_,_,_,rfl,by simp,aX _⟩
  .have H:=Y;rw[Tr.get_set_other _ _ (cm G)]at H;rcases z.sep b id _ x F lx hb H N hγ (cm G) f.symm with h|h
   .cases x<;>simp only[fg]at h;obtain⟨A,I,W⟩:=h;subst I;exact⟨_,_,_,_,_,_,rfl,by simp[A],W⟩
   .cases x<;>simp only[fg]at h;exact absurd h.2.1 (by simp)
 have hin:F.dl+k+m.length<=arr.size:=by rw[hcl,X];omega
 refine⟨?_,?_,?_,?_,?_,?_,z.Gv a,?_⟩
 .intro id x Y;rcases p id x Y with⟨rfl,rfl⟩|⟨J,H⟩
  .refine⟨⟨F.ay,F.dl+e0*i.size,F.cp-e0,none⟩,.cells (fK arr (F.dl+k) m) e (lo,V),by simp,by rw[B];simp[Kr],?_⟩;have hdk:F.dl+e0*i.size+len*i.size=F.dl+k:=by rw[<-Z,cY];omega
   refine⟨_,lo,V,rfl,?_,?_,⟨i,K,?_,?_,qd+e0,by simp only;rw[g7,cY]⟩,?_,glh⟩
   .grind[cC]
   .intro j v hj hv;rw[Tr.dG,lE]at hv;split at hv
    .next a7Z=>
     obtain⟨c,hc,L⟩:=jT j v hold hv;refine⟨c,?_,.inr (e9 a _ _ hc)⟩;rw[fJ _ _ _ _ hin,ai (by simp only;omega)];exact a6h j c L
    .next hge=>
     obtain⟨c,hc,L⟩:=jT _ v S hv;refine⟨c,?_,.inr (e9 a _ _ hc)⟩;have hjl:j-lV.length<m.length:=by grind
     rw[fJ _ _ _ _ hin,az (by simp only;omega)];rw[<-L];congr 1;simp only;omega
   .simp only;exact iU _ (by omega)
   .rw[cC];simp only;have:F.dl+e0*i.size+(F.cp-e0)*i.size=F.dl+F.cp*i.size:=by
     rw[ig,<-cY,show e0+(F.cp-e0)=F.cp by omega]
    omega
   .grind[cC]
  .obtain⟨l,o,q1,q2,q3⟩:=hS.ay id x H;by_cases f:l.ay=F.ay
   .obtain⟨e',P,k',M2,r,Q,rfl,_,hle⟩:=q id x l H q1 f;obtain⟨vs,lo1,hi1,rfl,f1,f2,f3,f4,flh⟩:=q3;rw[f,ho]at q2;cases q2;refine⟨l,.cells (fK arr (F.dl+k) m) e (lo,V),by simp[J,q1],by rw[B,f];simp[Kr],?_⟩;refine⟨_,lo,V,rfl,by rw[cC];exact f1,?_,by rw[cC];exact f3,(λh=>by cases h),glh⟩;intro j v hj hv;obtain⟨c,hc,L⟩:=f2 j v hj hv;refine⟨c,?_,L.grow a⟩;rw[fJ _ _ _ _ hin,ai (by omega)];exact hc
   .refine⟨l,o,by simp[J,q1],by rw[B];simp[cm f,q2],q3.mono a ⟨rfl,rfl,rfl⟩⟩
 .intro id u x y l O A I W D J f;rcases p id x A with⟨rfl,rfl⟩|⟨t,Y⟩
  .rcases p u y I with⟨rfl,_⟩|⟨hn2,hy⟩
   .exact absurd rfl J
   .simp only[aH]at W;simp only[hn2,aQ]at D;obtain rfl:=ae W;obtain⟨e',P,k',M2,r,Q,rfl,hm,hle⟩:=q u y O hy D f.symm;left;refine⟨hm,rfl,?_⟩;simp only;have:F.dl+e0*i.size+(len+n)*i.size=F.dl+k+n*i.size:=by rw[<-Z,cY,cY];omega
    omega
  .rcases p u y I with⟨rfl,rfl⟩|⟨hn2,hy⟩
   .simp only[aH]at D;simp only[t,aQ]at W;obtain rfl:=ae D;obtain⟨e',P,k',M2,r,Q,rfl,hm,hle⟩:=q id x l Y W f;right;refine⟨hm,rfl,?_⟩;simp only;have:F.dl+e0*i.size+(len+n)*i.size=F.dl+k+n*i.size:=by rw[<-Z,cY,cY];omega
    omega
   .simp only[t,aQ]at W;simp only[hn2,aQ]at D;exact hS.sep id u x y l O Y hy W D J f
 .intro id G;have a73:s.next+1<=id:=G;have:id≠s.next:=by omega
  simp only[this,aQ];exact z.new id (by omega)
 .intro g hg;obtain⟨l,q1,q2,q3⟩:=z.eM g hg;have:g≠s.next:=eS (z.lt q1);exact⟨l,by simp[this,q1],q2,q3⟩
 .intro id x l A I W;rcases p id x A with⟨rfl,rfl⟩|⟨t,Y⟩
  .simp only[aH]at I;obtain rfl:=ae I;have:=z.low b _ F hb N W;cases this
  .simp only[t,aQ]at I;exact hS.low id x l Y I W
 .rw[B];simp;exact z.bs
 .have hlv:Live E s F.ay:=⟨b,_,F,hb,rfl,N,rfl⟩;refine z.YG (by rw[B];simp) (λk Z hn=>?_) (λk Z=>?_) (λid O d A I=>?_)
  .grind
  .rintro⟨id,x,l,A,I,W,D⟩;rcases p id x A with⟨rfl,rfl⟩|⟨t,Y⟩
   .grind
   .simp only[t,aQ]at W;rw[Tr.bm]at Y;split at Y
    .obtain rfl:=ae Y;cases I
    .exact⟨id,x,l,Y,I,W,D⟩
  .grind
end
end Go.Proofs.YtokipodjggomfaaGreatDoor.Abs
namespace Go.Proofs.YtokipodjggomfaaGreatDoor.Abs
open Go
section
variable{C:Ctx}{base:Nat}{E:G}{s:S}{w:World}{nt:Nat}{t:Tr AV}{a:Act}
theorem cw.lt (a:Rel C base E s w) {id:Nat} {b:eD} {l:Loc} (h:s.h.get id=some b) (c:E id=some l):l.ay<w.heap.size:=by
 obtain⟨O,o,A,I,_⟩:=a.ay id b h;rw[c]at A;obtain rfl:=ae A;rcases cV l.ay w.heap.size with h|h
 .exact h
 .grind
theorem Step.ghost (f:Rel C base E s w) (d:Dt) (B:∀F,d.c6 C w F):
  Step C base E s w (λid=>if id=s.next then some ⟨w.heap.size,0,0,some d⟩else E id) ⟨s.h,s.next+1,s.pc⟩ w:=by
 have c:Grow E (λid=>if id=s.next then some ⟨w.heap.size,0,0,some d⟩else E id):=by intro id l t;have:id≠s.next:=eS (f.lt t);exact⟨l,by simp[this,t],rfl,rfl,rfl⟩
 have a:∀id b,s.h.get id=some b->id≠s.next:=by intro id b h;obtain⟨l,o,A,_⟩:=f.ay id b h;exact eS (f.lt A)
 have i:∀k,Live (λid=>if id=s.next then some ⟨w.heap.size,0,0,some d⟩else E id) ⟨s.h,s.next+1,s.pc⟩ k->Live E s k:=by rintro k ⟨id,b,l,A,I,W,D⟩;have:=a id b A;simp only[this,aQ]at W;exact⟨id,b,l,A,I,W,D⟩
 have j:∀Z,cy C E s w Z->cy C (λid=>if id=s.next then some ⟨w.heap.size,0,0,some d⟩else E id) ⟨s.h,s.next+1,s.pc⟩ w Z:=by
  intro Z m id l d' A I;by_cases e:id=s.next
  .grind
  .simp only[e,aQ]at A;exact Dt.c6.stays (λk n=>⟨⟨n.1,λhh=>n.2.1 (i k hh),n.2.2⟩,rfl⟩) d' (m id l d' A I)
 refine⟨c,⟨?_,?_,?_,?_,?_,f.bs,f.Gv c,j _ f.rd⟩,qg.refl E s w,λk h _=>i k h,oG _,λ_ _ h=>f.lt h,?_,λid b h _=>⟨b,h⟩,λZ _ m=>j Z m⟩
 .intro id b h;obtain⟨l,o,A,I,W⟩:=f.ay id b h;have:=a id b h;exact⟨l,o,by simp[this,A],I,W.mono c ⟨rfl,rfl,rfl⟩⟩
 .intro id u b N l O A I W D p q;have e1:=a id b A;have e2:=a u N I;simp only[e1,aQ]at W;simp only[e2,aQ]at D;exact f.sep id u b N l O A I W D p q
 .intro id r;have v:s.next+1<=id:=r;have:id≠s.next:=by omega
  simp only[this,aQ];exact f.new id (by omega)
 .intro g m;obtain⟨l,x,y,z⟩:=f.eM g m;have:g≠s.next:=eS (f.lt x);exact⟨l,by simp[this,x],y,z⟩
 .intro id b l A I W;have:=a id b A;simp only[this,aQ]at I;exact f.low id b l A I W
 .grind
theorem Step.del (e:Rel C base E s w) (b:Nat):Step C base E s w E ⟨s.h.del b,s.next,s.pc⟩ w:=by
 have a:∀{id x},(s.h.del b).get id=some x->s.h.get id=some x:=by grind[Tr.sF]
 have c:∀k,Live E ⟨s.h.del b,s.next,s.pc⟩ k->Live E s k:=λk⟨id,x,l,A,I,W,D⟩=>⟨id,x,l,a A,I,W,D⟩
 refine Step.of ⟨Grow.refl E,⟨λid x h=>e.ay id x (a h),λid u x y l O A I=>e.sep id u x y l O (a A) (a I),e.new,e.eM,λid x l h=>e.low id x l (a h),e.bs,e.pc,?_⟩,
  qg.refl _ _ _,λk h _=>c k h,aX _,λ_ _ h=>e.lt h,λ_ l h=>.inl ⟨l,h⟩,λid x h _=>⟨x,a h⟩⟩
 exact e.YG (aX _) (λ_ _ _=>rfl) (λk _ h=>c k h) (λid l d A I=>⟨id,l,A,I⟩)
theorem Step.move (j:Rel C base E s w) {b:Nat} {el:TypeId} {x:SE} {F:Loc} {T:Obj} (R:s.h.get b=some (.vec el x)) (r:E b=some F) {y:eD} {M:World}
  (Q:M={ w with heap:=w.heap.setIfInBounds F.ay T }) (hy:∀B,Grow E B->cw C B F y T):
  Step C base E s w (λid=>if id=s.next then some F else E id) ⟨(s.h.del b).set s.next y,s.next+1,s.pc⟩ M:=by
 have U:=cw.lt j R r;have c:Grow E (λid=>if id=s.next then some F else E id):=by intro id l r;have:id≠s.next:=eS (j.lt r);exact⟨l,by simp[this,r],rfl,rfl,rfl⟩
 have a:∀{id z},((s.h.del b).set s.next y).get id=some z->(id=s.next/\z=y)\/(id≠s.next/\id≠b/\s.h.get id=some z):=by
  intro id z h;rw[Tr.bm]at h;split at h
  .next e=>exact .inl ⟨e.symm,(ae h).symm⟩
  .next e=>
   rw[Tr.sF]at h;split at h
   .cases h
   .next e2=>exact .inr ⟨cm e,cm e2,h⟩
 have H:∀{id z l},id≠b->s.h.get id=some z->E id=some l->l.ay≠F.ay:=by
  intro id z l t h I m;rcases j.sep id b z _ l F h R I r t m with V|V
  .cases z<;>simp[fg]at V
  .simp[fg]at V
 have J:Live E s F.ay:=⟨b,_,F,R,rfl,r,rfl⟩;have f:∀{k:Nat},k≠F.ay->M.heap[k]? =w.heap[k]? :=by intro k Z;rw[Q];simp[cm Z]
 have K:M.heap.size=w.heap.size:=by rw[Q];simp
 have n:∀k,Live (λid=>if id=s.next then some F else E id) ⟨(s.h.del b).set s.next y,s.next+1,s.pc⟩ k->Live E s k:=by
  rintro k ⟨id,z,l,A,I,W,D⟩;rcases a A with⟨rfl,rfl⟩|⟨i,p,q⟩
  .simp only[aH]at W;obtain rfl:=ae W;exact D▸J
  .simp only[i,aQ]at W;exact⟨id,z,l,q,I,W,D⟩
 have G:∀id O d,(if id=s.next then some F else E id)=some O->O.v=some d->∃id0 l,E id0=some l/\l.v=some d:=by
  intro id O d A I;by_cases e:id=s.next
  .rw[az e]at A;obtain rfl:=ae A;exact⟨b,F,r,I⟩
  .rw[ai e]at A;exact⟨id,O,A,I⟩
 have L:qg E s w M:=by refine⟨Nat.le_of_eq K.symm,by rw[Q],by rw[Q],by rw[Q],λk o Z X=>?_⟩;rw[f λe=>X (by rw[e];exact J)];exact Z
 refine Step.of' ⟨c,⟨?_,?_,?_,?_,?_,by rw[K];exact j.bs,j.Gv c,?_⟩,L,λk h _=>n k h,oG _,λ_ _ h=>j.lt h,?_,?_⟩ G
 .intro id z h;rcases a h with⟨rfl,rfl⟩|⟨i,p,q⟩
  .exact⟨F,T,by simp,by rw[Q];simp[U],hy _ c⟩
  .obtain⟨l,o,A,I,W⟩:=j.ay id z q;exact⟨l,o,by simp[i,A],by rw[f (H p q A)];exact I,W.mono c ⟨rfl,rfl,rfl⟩⟩
 .intro id u z z' l O A I W D t m;rcases a A with⟨rfl,rfl⟩|⟨i,p,q⟩
  .rcases a I with⟨rfl,_⟩|⟨N,S,P⟩
   .exact absurd rfl t
   .simp only[aH]at W;obtain rfl:=ae W;simp only[N,aQ]at D;exact absurd m.symm (H S P D)
  .simp only[i,aQ]at W;rcases a I with⟨rfl,_⟩|⟨N,S,P⟩
   .simp only[aH]at D;obtain rfl:=ae D;exact absurd m (H p q W)
   .simp only[N,aQ]at D;exact j.sep id u z z' l O q P W D t m
 .intro id Y;have a73:s.next+1<=id:=Y;have:id≠s.next:=by omega
  simp only[this,aQ];exact j.new id (by omega)
 .intro g hg;obtain⟨l,q1,q2,q3⟩:=j.eM g hg;have:g≠s.next:=eS (j.lt q1);exact⟨l,by simp[this,q1],q2,q3⟩
 .intro id z l A I W;rcases a A with⟨rfl,rfl⟩|⟨i,p,q⟩
  .simp only[aH]at I;obtain rfl:=ae I;have:=j.low b _ F R r W;cases this
  .simp only[i,aQ]at I;exact j.low id z l q I W
 .exact j.YG (Nat.le_of_eq K.symm) (λk _ X=>f λe=>X (e▸J)) (λk _ h=>n k h) G
 .intro id O h;by_cases e:id=s.next
  .simp only[e,aH,ar]at h;subst h;exact .inr ⟨by omega,.inr ⟨b,_,F,R,r,rfl⟩⟩
  .simp only[e,aQ]at h;exact .inl ⟨O,h⟩
 .intro id z h a7Z;rcases a h with⟨rfl,_⟩|⟨_,_,q⟩
  .omega
  .exact⟨z,q⟩
theorem JD(hC:Good C)(hR:Rel C base E s w){st xt e:TypeId}{i:TI}{xd:TypeDesc}(t:C.P.underlying st=some (.slice e))(hxt:C.P.underlying xt=some xd)(V:C.T.get e=some i)(hT:tA C.P e i)
  {rest:List TypeId} {rt:TypeId} {z:List AV} (hz:i.zero=some z) (Zv:z.length=i.size) {b:Nat} {n c:SE} {cb cx:Value} (hcb:ag E (.gR b n c)=some cb) {g:Nat} {new:List AV} {cs:List Value}
  (X:ax E new=some cs) (hcl:new.length=g*i.size) (S:Xu C.P w xd i e cx g cs):
  (Ns C s e i.size i.bytes b n g new).path (dM C base E s w ((VS (Builtin.append_ ⟨st::xt::rest⟩ rt ⟨[cb,cx]⟩)).run C.P w)):=by
 obtain⟨F,k,q,hl,N,hc0,Z,hq,rfl⟩:=gH hcb;unfold Ns;cases hb:s.h.get b with
 |none=>trivial
 |some x0=>
  cases x0 with
  |vec el x=>
   obtain⟨O,o,A,I,vs,lo,K,J,rfl,g1,g2,⟨i',g3,g4,g5,g6,g7⟩,g8,g9⟩:=hR.ay b _ hb;rw[hl]at A;obtain rfl:=ae A;refine R.bh _ (R.aI _ _) λ_ hg=>?_
   simp only[aw,fY]at hg;obtain⟨e1,e2',e3',e4,e5,e6⟩:=hg;obtain rfl:=aL e1;rw[V]at g3;obtain rfl:=ae g3;have a3e:i.size≠0:=by intro h;rw[h]at e5;cases e5
   have hks:(aq C el).length=i.size:=g4.symm;cases hy:nN C (aq C el) new (aq C el) (.a2 (.tk i.size) x n)with
   |none=>trivial
   |some y=>
    refine R.ew hR λhn=>?_
    have hbd:k*i.size<=J.length/\(k+g)*i.bytes<=68719476736/\k+g<=68719476736:=by
     rcases na (k*i.size<=J.length/\(k+g)*i.bytes<=68719476736/\k+g<=68719476736)with h|h
     .exact h
     .exact absurd ⟨_,_,_,rfl,λhh=>h hh.2⟩ (h4 hn (vU g1 N))
    have htk:aj E (.a2 (.tk i.size) x n)=some (.ls (aq C el) (J.take (k*i.size))):=by grind[aj,e2]
    have Y:(J.take (k*i.size)).length=k*i.size:=by rw[cG];omega
    obtain⟨ds,hys,hds⟩:=oO new (aq C el) _ y _ cs X htk ⟨0,rfl,j0 _,by rw[Y,hks,rT];simp⟩ hy;have G:cs.length=g*i.size:=by rw[ba X,hcl]
    have hdl:ds.length=g*i.size:=by rw[<-G,<-hds,oH]
    have u:aj E (.a2 (.bin .add) n (.int .i64 (.ofNat g)))=some (.val (.int .i64 (.ofNat (k+g)))):=by
     simp only[aj,N,aW,e2,dW,bj,aH,intOp];have:IntKind.i64.wrap (Int.ofNat k+Int.ofNat g)=Int.ofNat (k+g):=by grind[wrap_small]
     rw[this];rfl
    have DM:∀(j:Nat)d,(J.take (k*i.size)++ds)[j]? =some d->(j<k*i.size/\J[j]? =some d)\/(k*i.size<=j/\j<k*i.size+cs.length/\cs[j-k*i.size]? =some d.v):=by grind
    have U:(J.take (k*i.size)++ds).length=(k+g)*i.size:=by rw[bL,Y,hdl,cY]
    have W:Int.ofNat k<Int.ofNat (k+g):=by grind
    rcases cV q (k+g)with D|D
    .
     have H:((J.take (k*i.size)).map Dt.v).length=k*i.size:=by rw[oH,Y]
     have hco:∀d,(Builtin.firstCells i.size k (.slice (some ⟨F.ay,F.dl,none⟩) k q)).run C.P { w with drawn:=d }=.ok ⟨(J.take (k*i.size)).map Dt.v⟩ { w with drawn:=d }:=by
      intro d;simp only[Builtin.firstCells];refine dK (λj v hj=>?_) _ H;rw[ik,qk]at hj;split at hj
      .grind[World.cell?]
      .cases hj
     obtain⟨cap,eo,hc1,hc2,L⟩:=ja (w:=w) hC t hxt V hT (rest:=rest) (rt:=rt) (b:=some ⟨F.ay,F.dl,none⟩) (dN:=k) (jL:=q) hz Zv S D hbd.2.1 hbd.2.2 hco H G;have Q:=Step.del hR b;have m:=Step.alloc (base:=base) Q.rel (.vec el y) (.cells (⟨(J.take (k*i.size)).map Dt.v⟩++⟨cs⟩++eo) el (0,0)) 0 cap
      (M:={ w with drawn:=w.drawn+1,heap:=w.heap.push (.cells (⟨(J.take (k*i.size)).map Dt.v⟩++⟨cs⟩++eo) el (0,0)) }) rfl rfl rfl rfl
      (λB hg=>by
        refine⟨_,0,0,J.take (k*i.size)++ds,rfl,a7 hg _ _ hys,λj d hj=>?_,⟨i,V,g4,?_,?_,0,by simp⟩,λoff _ h=>absurd h (rS _),aX _⟩
        .have hj2:(((J.take (k*i.size)).map Dt.v)++cs)[j]? =some d.v:=by
           rw[<-hds,<-List.map_append,ik,hj];rfl
         have Kr:j<(((J.take (k*i.size)).map Dt.v)++cs).length:=(jK.1 hj2).1;rw[du,xO (by simpa using Kr)];simpa using hj2
        .rw[U];exact iU _ hc1
        .simp only[rU,vu];rw[H,G,hc2,<-cY,<-cY];rw[show k+g+(cap-(k+g))=cap by omega];simp)
     have r:=Step.ghost m.rel (.val (.int .i64 (.ofNat cap))) (λ_=>rfl);have st3:=Step.add r.rel (f:=.inr n (.a2 (.bin .add) n (.int .i64 (.ofNat g)))) rfl ⟨_,_,_,a7 ((Q.trans m).trans r).grow _ _ N,a7 ((Q.trans m).trans r).grow _ _ u,ky k,W⟩;have t:=((Q.trans m).trans r).trans st3;refine⟨_,.slice (some ⟨w.heap.size,0,none⟩) (k+g) cap,_,?_,?_,t⟩
     .simp only[VS,aA,L,aP];rfl
     .have e0:s.next≠s.next+1:=by omega
      have a1:=a7 t.grow _ _ u;simp only[ag,bW];refine⟨⟨w.heap.size,0,cap,none⟩,?_,_,a1,.val (.int .i64 (.ofNat cap)),?_,?_⟩
      .exact(ai e0).trans (az trivial)
      .show((if s.next+1=s.next+1 then _ else _:Option Loc).bind λl=>l.v)=_;rw[az rfl];rfl
      .grind[mF]
    .
     have hkk:(k+g)*i.size<=F.cp*i.size:=iU _ (by omega);have hkm:(k+g)*i.size=k*i.size+g*i.size:=cY _ _ _;have L:=eX (P:=C.P) F.ay el lo K cs (F.dl+k*i.size) 0 vs w I (by omega) (kq e6 X) (by
      intro p hp1 hp2 hp;rcases g8 p hp.1 hp.2 with h|h<;>omega)
     have hap:=hK (w:=w) t hxt hT (rest:=rest) (rt:=rt) (b:=some ⟨F.ay,F.dl,none⟩) (dN:=k) (jL:=q) S D
      (λad h=>by obtain rfl:=ae h;rw[addr_add];exact L) (λh=>by cases h)
     have m:=Step.move hR hb hl (y:=.vec el y) (T:=.cells (fK vs (F.dl+k*i.size+0) cs) el (lo,K)) rfl (λB hg=>by
      refine⟨_,lo,K,J.take (k*i.size)++ds,rfl,a7 hg _ _ hys,λj d hj=>?_,⟨i,V,g4,by rw[U];exact hkk,by rw[cC];exact g6,g7⟩,λoff a b=>by rw[cC];exact g8 off a b,g9⟩;rw[fJ _ _ _ _ (by omega)];rcases DM j d hj with⟨h,hh⟩|⟨h,h',hh⟩
      .rw[ai (by omega)];exact g2 j d hh
      .grind)
     have r:=Step.ghost m.rel (.val (.int .i64 (.ofNat q))) (λ_=>rfl);have st3:=Step.add r.rel (f:=.inr n (.a2 (.bin .add) n (.int .i64 (.ofNat g)))) rfl ⟨_,_,_,a7 (m.trans r).grow _ _ N,a7 (m.trans r).grow _ _ u,ky k,W⟩;have t:=(m.trans r).trans st3;refine⟨_,.slice (some ⟨F.ay,F.dl,none⟩) (k+g) q,_,?_,?_,t⟩
     .simp only[VS,aA,hap,aP];rfl
     .have e0:s.next≠s.next+1:=by omega
      have a1:=a7 t.grow _ _ u;simp only[ag,bW];refine⟨F,?_,_,a1,.val (.int .i64 (.ofNat q)),?_,?_⟩
      .exact(ai e0).trans (az trivial)
      .show((if s.next+1=s.next+1 then _ else _:Option Loc).bind λl=>l.v)=_;rw[az rfl];rfl
      .exact mF D hq
  |_=>trivial
theorem JE(hC:Good C)(hR:Rel C base E s w){st xt e:TypeId}{i:TI}{xd:TypeDesc}(m:C.P.underlying st=some (.slice e))(hxt:C.P.underlying xt=some xd)(V:C.T.get e=some i)(hT:tA C.P e i)
  {rest:List TypeId} {rt:TypeId} {z:List AV} (hz:i.zero=some z) (Zv:z.length=i.size) {b:Nat} {n c:SE} {cb cx:Value} (hcb:ag E (.gR b n c)=some cb) {X:SE} {tx:ByteArray} (hX:aj E X=some (.val (.string tx)))
  (g:i.size=1->Xu C.P w xd i e cx tx.size (tx.data.toList.map λb=>Value.int .u8 b.toNat)):
  (Nt C s e i.size i.bytes b n X).path (dM C base E s w ((VS (Builtin.append_ ⟨st::xt::rest⟩ rt ⟨[cb,cx]⟩)).run C.P w)):=by
 obtain⟨F,k,q,hl,hn0,hc0,Z,hq,rfl⟩:=gH hcb;unfold Nt;cases hb:s.h.get b with
 |none=>trivial
 |some x0=>
  cases x0 with
  |vec el x=>
   obtain⟨O,o,A,I,vs,lo,K,J,rfl,g1,g2,⟨i',g3,g4,g5,g6,g7⟩,g8,g9⟩:=hR.ay b _ hb;rw[hl]at A;obtain rfl:=ae A;refine R.bh _ (R.aI _ _) λ_ hg=>?_
   simp only[aw]at hg;obtain⟨e1',e2',e3'⟩:=hg;obtain rfl:=aL e1';rw[V]at g3;obtain rfl:=ae g3;have t:i.size=1:=aL e2';have hks:=dF e3';have g:=g t;revert g;generalize L:tx.size=f;generalize D:(tx.data.toList.map λb=>Value.int .u8 b.toNat)=cs;intro g;refine R.ew hR λhn=>?_
   have hbd:k*i.size<=J.length/\(k+f)*i.bytes<=68719476736/\k+f<=68719476736:=by
    rcases na (k<=J.length/\(k+f)*i.bytes<=68719476736/\k+f<=68719476736)with h|h
    .rw[t,ve];exact h
    .exact absurd ⟨_,_,_,_,rfl,λhh=>h (by rw[<-L];exact hh.2)⟩ (h4 hn (Dy g1 hn0 hX))
   have htk:aj E (.a2 (.tk 1) x n)=some (.ls (aq C el) (J.take (k*i.size))):=by grind[aj,e2]
   have htl:(J.take (k*i.size)).length=k*i.size:=by rw[cG];omega
   obtain⟨ds,N⟩:∃ds,ds=ea tx.data.toList:=⟨_,rfl⟩;have hds:ds.map Dt.v=cs:=by rw[N,<-D];simp[ea,Dt.v]
   obtain⟨y,hy⟩:∃y,y=SE.a2 .cat (.a2 (.tk 1) x n) (.a1 .sb X):=⟨_,rfl⟩;have hys:aj E y=some (.ls (aq C el) (J.take (k*i.size)++ds)):=by rw[hy];show((aj E (.a2 (.tk 1) x n)).bind λu=>(aj E (.a1 .sb X)).bind (e2 .cat u))=_;rw[htk];simp[aj,hX,e1,e2,hks,N]
   rw[<-hy];have Q:cs.length=f*i.size:=by rw[<-D,oH,t,ve,<-L];rfl
   have hdl:ds.length=f*i.size:=by rw[<-Q,<-hds,oH]
   have hlX:aj E (.a1 .len X)=some (.val (.int .i64 (.ofNat f))):=by grind[aj,e1]
   have S:aj E (.a2 (.bin .add) n (.a1 .len X))=some (.val (.int .i64 (.ofNat (k+f)))):=by
    show((aj E n).bind λu=>(aj E (.a1 .len X)).bind (e2 (.bin .add) u))=_;rw[hn0,hlX];simp only[aW,e2,dW,bj,aH,intOp];have:IntKind.i64.wrap (Int.ofNat k+Int.ofNat f)=Int.ofNat (k+f):=by grind[wrap_small]
    rw[this];rfl
   have a7V:∀v∈cs,v.oneCell'=true:=by intro v hv;rw[<-D]at hv;obtain⟨b, -,rfl⟩:=List.mem_map.1 hv;rfl
   have DM:∀(j:Nat)d,(J.take (k*i.size)++ds)[j]? =some d->(j<k*i.size/\J[j]? =some d)\/(k*i.size<=j/\j<k*i.size+cs.length/\cs[j-k*i.size]? =some d.v):=by grind
   have hlen:(J.take (k*i.size)++ds).length=(k+f)*i.size:=by rw[bL,htl,hdl,cY]
   rcases cV q (k+f)with r|r
   .
    have U:((J.take (k*i.size)).map Dt.v).length=k*i.size:=by rw[oH,htl]
    have hco:∀d,(Builtin.firstCells i.size k (.slice (some ⟨F.ay,F.dl,none⟩) k q)).run C.P { w with drawn:=d }=.ok ⟨(J.take (k*i.size)).map Dt.v⟩ { w with drawn:=d }:=by
     intro d;simp only[Builtin.firstCells];refine dK (λj v W=>?_) _ U;rw[ik,qk]at W;split at W
     .grind[World.cell?]
     .cases W
    obtain⟨cap,eo,hc1,hc2,G⟩:=ja (w:=w) hC m hxt V hT (rest:=rest) (rt:=rt) (b:=some ⟨F.ay,F.dl,none⟩) (dN:=k) (jL:=q) hz Zv g r hbd.2.1 hbd.2.2 hco U Q;have st0:=Step.del hR b;have H:=Step.alloc (base:=base) st0.rel (.vec el y) (.cells (⟨(J.take (k*i.size)).map Dt.v⟩++⟨cs⟩++eo) el (0,0)) 0 cap
     (M:={ w with drawn:=w.drawn+1,heap:=w.heap.push (.cells (⟨(J.take (k*i.size)).map Dt.v⟩++⟨cs⟩++eo) el (0,0)) }) rfl rfl rfl rfl
     (λB hg=>by
       refine⟨_,0,0,J.take (k*i.size)++ds,rfl,a7 hg _ _ hys,λj d W=>?_,⟨i,V,g4,?_,?_,0,by simp⟩,λoff _ h=>absurd h (rS _),aX _⟩
       .have hj2:(((J.take (k*i.size)).map Dt.v)++cs)[j]? =some d.v:=by
          rw[<-hds,<-List.map_append,ik,W];rfl
        have Kr:j<(((J.take (k*i.size)).map Dt.v)++cs).length:=(jK.1 hj2).1;rw[du,xO (by simpa using Kr)];simpa using hj2
       .grind
       .grind)
    have Y:=Step.ghost H.rel (.val (.int .i64 (.ofNat cap))) (λ_=>rfl);have m:=(st0.trans H).trans Y;refine⟨_,.slice (some ⟨w.heap.size,0,none⟩) (k+f) cap,_,?_,?_,m⟩
    .simp only[VS,aA,G,aP];rfl
    .have e0:s.next≠s.next+1:=by omega
     have a1:=a7 m.grow _ _ S;simp only[ag,bW];refine⟨⟨w.heap.size,0,cap,none⟩,?_,_,a1,.val (.int .i64 (.ofNat cap)),?_,?_⟩
     .exact(ai e0).trans (az trivial)
     .show((if s.next+1=s.next+1 then _ else _:Option Loc).bind λl=>l.v)=_;rw[az rfl];rfl
     .exact mF (l:=⟨w.heap.size,0,cap,none⟩) hc1 (aX _)
   .
    have hkk:(k+f)*i.size<=F.cp*i.size:=iU _ (by omega);have hkm:(k+f)*i.size=k*i.size+f*i.size:=cY _ _ _;have G:=eX (P:=C.P) F.ay el lo K cs (F.dl+k*i.size) 0 vs w I (by omega) a7V (by
     intro p hp1 hp2 hp;rcases g8 p hp.1 hp.2 with h|h<;>omega)
    have hap:=hK (w:=w) m hxt hT (rest:=rest) (rt:=rt) (b:=some ⟨F.ay,F.dl,none⟩) (dN:=k) (jL:=q) g r
     (λad h=>by obtain rfl:=ae h;rw[addr_add];exact G) (λh=>by cases h)
    have H:=Step.move hR hb hl (y:=.vec el y) (T:=.cells (fK vs (F.dl+k*i.size+0) cs) el (lo,K)) rfl (λB hg=>by
     refine⟨_,lo,K,J.take (k*i.size)++ds,rfl,a7 hg _ _ hys,λj d W=>?_,⟨i,V,g4,by rw[hlen];exact hkk,by rw[cC];exact g6,g7⟩,λoff a b=>by rw[cC];exact g8 off a b,g9⟩;rw[fJ _ _ _ _ (by omega)];rcases DM j d W with⟨h,hh⟩|⟨h,h',hh⟩
     .rw[ai (by omega)];exact g2 j d hh
     .grind)
    have Y:=Step.ghost H.rel (.val (.int .i64 (.ofNat q))) (λ_=>rfl);have m:=H.trans Y;refine⟨_,.slice (some ⟨F.ay,F.dl,none⟩) (k+f) q,_,?_,?_,m⟩
    .simp only[VS,aA,hap,aP];rfl
    .have e0:s.next≠s.next+1:=by omega
     have a1:=a7 m.grow _ _ S;simp only[ag,bW];refine⟨F,?_,_,a1,.val (.int .i64 (.ofNat q)),?_,?_⟩
     .exact(ai e0).trans (az trivial)
     .show((if s.next+1=s.next+1 then _ else _:Option Loc).bind λl=>l.v)=_;rw[az rfl];rfl
     .exact mF r hq
  |_=>trivial
end
end Go.Proofs.YtokipodjggomfaaGreatDoor.Abs
namespace Go.Proofs.YtokipodjggomfaaGreatDoor.Abs
open Go
section
variable{C:Ctx}{base:Nat}{E:G}{s:S}{w:World}{nt:Nat}{t:Tr AV}{a:Act}
theorem jR{P:Program}{n m:Nat}{x:AV}{f:Value}(Y:ag E x=some f){r:Array Value}(w:World)(d:Nat)(h:(Builtin.firstCells n m f).run P w=.ok r w)
  (s:∀ay off j v,f=.slice (some ⟨ay,off,none⟩) j v->True):(Builtin.firstCells n m f).run P { w with drawn:=d }=.ok r { w with drawn:=d }:=by
 cases f with
 |slice b l c=>
  cases b with
  |none=>simp only[Builtin.firstCells,aY,vk]at h ⊢;exact⟨h.1,dB⟩
  |some ad=>
   simp only[Builtin.firstCells]at h ⊢;have key:∀(k i:Nat)(acc:Array Value)(r:Array Value),(loadCellsFrom ad i k acc).run P w=.ok r w->(loadCellsFrom ad i k acc).run P { w with drawn:=d }=.ok r { w with drawn:=d }:=by
    intro k;induction k with
    |zero=>intro i acc r h;simp only[loadCellsFrom,aY,vk]at h ⊢;exact⟨h.1,dB⟩
    |succ k o=>
     intro i acc r h;simp only[loadCellsFrom,aA,run_load]at h ⊢;have a:World.cell? { w with drawn:=d } (ad.add i)=w.cell? (ad.add i):=rfl;have g:World.farLoad P { w with drawn:=d } (ad.add i) (Mode.plain==Mode.atomic)=w.farLoad P (ad.add i) (Mode.plain==Mode.atomic):=rfl;rw[a,g];cases p:w.cell? (ad.add i)with
     |some v=>rw[p]at h;simp only[aP]at h ⊢;exact o _ _ _ h
     |none=>
      rw[p]at h;cases q:w.farLoad P (ad.add i) (Mode.plain==Mode.atomic)with
      |ok x=>rw[q]at h;simp only[aP]at h ⊢;exact o _ _ _ h
      |error e=>rw[q]at h;simp only[Result.andThen_halt]at h;cases h
   exact key _ _ _ _ h
 |string U=>simp only[Builtin.firstCells,aY,vk]at h ⊢;exact⟨h.1,dB⟩
 |_=>simp[Builtin.firstCells]at h
theorem JF(J:Good C)(K:Rel C base E s w){e:TypeId}{i:TI}(V:C.T.get e=some i)(L:tA C.P e i)(xd:TypeDesc){z:List AV}(M:i.zero=some z)(t:z.length=i.size)(x:AV)(p:Value)(Y:ag E x=some p):
  (Xd s e i.size i.bytes z x (uG xd)).path (λr=>∃cs,ax E r.2=some cs/\r.2.length=r.1*i.size/\Xu C.P w xd i e p r.1 cs):=by
 cases b:uG xd with
 |false=>
  refine R.aE ?_ (tb J K e V x p Y);rintro r ⟨cs,c,f,g,u⟩;have a:(Builtin.firstCells i.size r.1 p).run C.P w=.ok ⟨cs⟩ w:=by have:=u r.1 (aX _);rw[this];congr 2;rw[fv (by rw[ba c,f];exact aX _)]
  exact⟨cs,c,f,.inl ⟨b,g,λd=>jR (E:=E) Y w d a (λ_ _ _ _ _=>trivial)⟩⟩
 |true=>
  show(do let n <-zl x;bD (Nat.ble (Nat.mul n i.bytes) 68719476736&&Nat.ble n 68719476736) _;R.ok (n,Je z n):R (Nat×List AV)).path _;refine R.bh _ (lS x) λn h=>?_
  obtain⟨k,rfl⟩:=h;refine R.bh _ (R.aI _ _) λ_ v=>?_
  simp only[aw]at v;have A:n*i.bytes<=68719476736:=bn v.1;have I:n<=68719476736:=bn v.2;simp only[ag,ar]at Y;subst Y;obtain⟨zv,y,B⟩:=L.zero z M;have H:=B E;have l:zv.cells.toList.length=i.size:=by rw[ba H,t]
  obtain⟨q,D,F,G⟩:=pE H n;refine⟨q,D,?_,.inr ⟨b,⟨k,rfl⟩,A,I,zv,y,?_⟩⟩
  .grind[ba,Je]
  .have h:n*i.size=n*zv.cells.toList.length:=by rw[l]
   by_cases N:n*i.size=0
   .grind
   .rw[ai N];unfold Builtin.zeroCells;have o:zv.cells.size=i.size:=by simpa using l
    rw[o];have:=S0 (n:=n*i.size) (m:=n) h zv.cells (λ_=>rfl) (q:=q) (by rw[F,<-h]) (λj O=>G j (by rw[<-h];exact O));rw[o]at this;exact this
theorem IP{int:Bool}{x base:AV}{b:Nat}{n e:SE}(h:FP int x base=some (b,n,e)):int=false/\∃c,x=.bS .str e/\base=.gR b n c:=by
 unfold FP at h;cases int with
 |true=>cases h
 |false=>
  simp only at h;split at h
  .grind[ny,iH]
  .cases h
theorem RU(hC:Good C)(X:Rel C base E s w)(argTypes:List TypeId)(args:List AV)(WU:List Value)(a6t:ax E args=some WU)(rt:TypeId):
  (Dd C s argTypes args).path (dM C base E s w ((VS (Builtin.append_ ⟨argTypes⟩ rt ⟨WU⟩)).run C.P w)):=by
 unfold Dd;split
 case h_2=>trivial
 rename_i bv x st xt rest;obtain⟨cb,cl1,a,A,rfl⟩:=av.1 a6t;obtain⟨cx,cl2,hcx,I,rfl⟩:=av.1 A;simp only[ax,ar]at I;subst I;refine R.bh _ (bw hC st) λd hd=>?_
 cases d with
 |slice e=>
  refine R.bh _ (bY hC e) λi V=>?_
  refine R.bh _ (bw hC xt) λxd J=>?_
  refine R.bh _ (R.aI _ _) λ_ hg=>?_
  have a3e:Nat.beq i.size 0=false:=by simpa using hg
  have hsz:i.size≠0:=by intro h;rw[h]at a3e;cases a3e
  refine R.bh (λz=>i.zero=some z) ?_ λz hz=>?_
  .grind[R.aE,sd]
  refine R.bh _ (R.aI _ _) λ_ hg2=>?_
  have Zv:z.length=i.size:=aL hg2;cases hss:FP (uG xd) x bv with
  |some p=>
   obtain⟨b,n,ex⟩:=p;obtain⟨hxi,c,rfl,rfl⟩:=IP hss;obtain⟨dd,hX,⟨tx,rfl⟩,rfl⟩:=c7 hcx;exact JE hC X hd J V.1 V.2 hz Zv a hX (λA=>.inl ⟨hxi,λ_=>rfl,λd=>by
    obtain⟨⟨l⟩⟩:=tx;have K:(ByteArray.mk ⟨l⟩).size=l.length:=rfl;simp only[Builtin.firstCells,Dt.v,K,pL];rw[aY];congr 1;apply mC;simp⟩)
  |none=>
  simp only;refine R.bh _ (JF hC X V.1 V.2 xd hz Zv x cx hcx) λr hr=>?_
  obtain⟨cs,y,L,g⟩:=hr;have t:cs.length=r.1*i.size:=by rw[ba y,L]
  have f:∀(b:Option Addr)(dN jL:Nat)(H:List Value)(lV:List AV),cb=.slice b dN jL->ax E lV=some H->lV.length=dN*i.size->jL<dN+r.1->
    (Builtin.firstCells i.size dN (.slice b dN jL)).run C.P w=.ok ⟨H⟩ w->
    (yv s e i.size i.bytes (dN+r.1) (lV++r.2)).path (dM C base E s w ((VS (Builtin.append_ ⟨st::xt::rest⟩ rt ⟨[cb,cx]⟩)).run C.P w)):=by
   intro b dN jL H lV a6s u N a8f hco;refine R.bh _ (R.aI _ _) λ_ hg=>?_
   simp only[aw]at hg;have hby:(dN+r.1)*i.bytes<=68719476736:=bn hg.1.1;have Hv:dN+r.1<=68719476736:=bn hg.1.2;obtain⟨cap,eo,hc1,hc2,G⟩:=ja (w:=w) hC hd J V.1 V.2 (rest:=rest) (rt:=rt) hz Zv g a8f hby Hv
    (λd=>jR (E:=E) (x:=bv) (by rw[a,a6s]) w d hco (λ_ _ _ _ _=>trivial))
    (by rw[ba u,N]) t
   have DM:=dI u y;have Q:=Step.alloc (base:=base) X (fQ e (lV++r.2)) (.cells (⟨H⟩++⟨cs⟩++eo) e (0,0)) 0 cap
    (M:={ w with drawn:=w.drawn+1,heap:=w.heap.push (.cells (⟨H⟩++⟨cs⟩++eo) e (0,0)) }) rfl rfl rfl rfl
    (dZ V.1 DM (by rw[bL,N,L,<-cY];exact iU _ hc1)
      (by
        simp only[rU,vu];rw[hc2,ba u,N,t,<-cY,<-cY];rw[show dN+r.1+(cap-(dN+r.1))=cap by omega];exact aX _)
      (λj c hj=>by
        rw[xO (by
         simp only[rU,vu];rcases cV j (H++cs).length with h|h
         .simpa using h
         .rw[zZ h]at hj;cases hj)]
        simpa using hj) _ 0 false 0 0 (by omega))
   refine⟨_,.slice (some ⟨w.heap.size,0,none⟩) (dN+r.1) cap,_,?_,?_,Q⟩
   .rw[a6s];simp only[VS,aA,G,aP];rfl
   .simp only[ag,aH,bX,ar];simp only[du,rJ];congr 2;split<;>simp
  cases bv with
  |dh=>
   simp only[ag,ar]at a;show(match r.1 with|0=>R.bad _|m+1=>yv s e i.size i.bytes (m+1) r.2).path _;cases hn:r.1 with
   |zero=>exact R.aJ _ _
   |succ m=>show(yv s e i.size i.bytes (m+1) r.2).path _;have:=f none 0 0 [] [] a.symm rfl (by simp) (by omega) (by simp[Builtin.firstCells]);rw[hn]at this;simpa using this
  |sl b off len cap=>
   simp only[ag,aN]at a;obtain⟨F,K,a⟩:=a;show(Xe s e i.size i.bytes b off len cap r.1 r.2).path _;unfold Xe;cases hle:Nat.ble (Nat.add len r.1) cap with
   |true=>
    have a3h:len+r.1<=cap:=bn hle;show(gQ s b (Nat.add off (Nat.mul len i.size)) r.2>>=λU=>R.ok (Nx.val (.sl b off (Nat.add len r.1) cap) U)).path _;refine R.bh _ (oZ X b _ r.2 cs y F K) λU hs'=>?_
    obtain⟨M,hw1,hw2⟩:=hs';have:=hK (w:=w) (M:=M) hd J V.2 (rest:=rest) (rt:=rt) (b:=some ⟨F.ay,F.dl+off,none⟩) (dN:=len) (jL:=cap) g a3h
     (λad h=>by obtain rfl:=ae h;rw[addr_add,ig];exact hw1) (λh=>by cases h)
    rw[<-a];refine⟨E,.slice (some ⟨F.ay,F.dl+off,none⟩) (len+r.1) cap,M,?_,?_,hw2⟩
    .simp only[VS,aA,this,aP];rfl
    .simp only[ag,K];rfl
   |false=>
    have hgt:cap<len+r.1:=by
     rcases cV cap (len+r.1)with h|h
     .exact h
     .have:=xM h;rw[show len.add r.1=len+r.1 from rfl,this]at hle;cases hle
    show(rdCells s b off (Nat.mul len i.size)>>=λlV=>yv s e i.size i.bytes (Nat.add len r.1) (lV++r.2)).path _;refine R.bh _ (lh X b off _) λlV u=>?_
    obtain⟨lc',H,q1,q2,q3,q4⟩:=u;rw[K]at q1;obtain rfl:=ae q1;exact f (some ⟨F.ay,F.dl+off,none⟩) len cap H lV a.symm q2 q3 hgt (by
     simp only[Builtin.firstCells];exact dK q4 _ (by rw[ba q2];exact q3))
  |np b pre e0 len Ag=>
   have a8H:=a;simp only[ag,aN]at a;obtain⟨F,K,a⟩:=a;show(match r.1 with|0=>R.bad _|m+1=>(match Nat.beq i.size Ag with|true=>De s e i.size i.bytes b pre e0 len (m+1) r.2|false=>R.bad _)).path _;cases hn:r.1 with
   |zero=>exact R.aJ _ _
   |succ m=>
    show(match Nat.beq i.size Ag with|true=>De s e i.size i.bytes b pre e0 len (m+1) r.2|false=>R.bad _).path _;cases hbs:Nat.beq i.size Ag with
    |false=>trivial
    |true=>
     have a7T:i.size=Ag:=aL hbs;subst a7T;show(De s e i.size i.bytes b pre e0 len (m+1) r.2).path _;rw[hn]at g t L;unfold De;cases hb:s.h.get b with
     |none=>trivial
     |some q=>
      cases q with
      |cells el cells k fz fh st' sg=>
       cases st' with
       |true=>trivial
       |false=>
        simp only;refine R.bh _ (R.aI _ _) λ_ hg3=>?_
        have hel:el=e:=aL hg3;subst hel;obtain⟨O,o,q1,q2,vs,lo,ZA,hoo,g1,g2,⟨ii,g3,g4,g5,_,_⟩,g6,_⟩:=X.ay b _ hb;rw[K]at q1;obtain rfl:=ae q1;subst hoo;rw[V.1]at g3;obtain rfl:=ae g3;cases hin:Nat.ble (Nat.mul (Nat.add (Nat.add e0 len) (m+1)) i.size) k with
        |true=>
         have a71:(e0+len+(m+1))*i.size<=k:=bn hin;have S:e0+len+(m+1)<=F.cp:=A5 (gn a71 g4) (tW hsz);show(gQ s b (Nat.mul (Nat.add e0 len) i.size) r.2>>=λU=>R.ok (Nx.val (.np b pre e0 (Nat.add len (m+1)) i.size) U)).path _;refine R.bh _ (oZ X b _ r.2 cs y F K) λU hs'=>?_
         obtain⟨M,hw1,hw2⟩:=hs';have Y:e0<F.cp:=by omega
         have:=hK (w:=w) (M:=M) hd J V.2 (rest:=rest) (rt:=rt) (b:=some ⟨F.ay,F.dl+(if e0<F.cp then e0 else pre)*i.size,none⟩) (dN:=len) (jL:=F.cp-e0) g (by omega)
          (λad h=>by
            obtain rfl:=ae h;rw[az Y,addr_add];rw[show F.dl+e0*i.size+len*i.size=F.dl+(e0+len)*i.size by rw[cY];omega];exact hw1) (λh=>by cases h)
         rw[<-a];refine⟨E,.slice (some ⟨F.ay,F.dl+(if e0<F.cp then e0 else pre)*i.size,none⟩) (len+(m+1)) (F.cp-e0),M,?_,?_,hw2⟩
         .simp only[VS,aA,this,aP];rfl
         .simp only[ag,K];rfl
        |false=>
         show(Nu s el i.size i.bytes b e0 len (m+1) cells k fz fh sg r.2).path _;unfold Nu;refine R.bh _ (R.aI _ _) λ_ hg4=>?_
         simp only[aw]at hg4;obtain⟨⟨⟨⟨⟨p1,p2⟩,p3⟩,p4⟩,p5⟩,p6⟩:=hg4;have Z:(e0+len)*i.size=k:=aL p1;have hfz:fz<=k:=bn p5;have a8C:e0+len<=F.cp:=A5 (by rw[Z];exact g4) (tW hsz);refine R.bh _ (hV g2 (Nat.mul len i.size) (Nat.mul e0 i.size) (by show e0*i.size+len*i.size<=k;rw[<-cY,Z];exact aX _)) λlV u=>?_
         obtain⟨H,o1,o2,o3⟩:=u;have o2':lV.length=len*i.size:=o2;have a8J:b<s.next:=X.lt K;by_cases S:e0+len+(m+1)<=F.cp
         .
          have Y:e0<F.cp:=by omega
          have hmul:(e0+len+(m+1))*i.size<=F.cp*i.size:=iU _ S;have a78:(e0+len+(m+1))*i.size=k+(m+1)*i.size:=by rw[cY,Z]
          have hst:=eX (P:=C.P) F.ay el lo ZA cs (F.dl+k) 0 vs w q2 (by rw[t];omega) (kq p6 y) (by
           intro q hq1 hq2 hq;rcases g6 rfl q hq.1 hq.2 with h|⟨_,h⟩
           .omega
           .rw[t]at hq2;omega)
          have G:=hK (w:=w) (M:={ w with heap:=w.heap.setIfInBounds F.ay (.cells (fK vs (F.dl+k+0) cs) el (lo,ZA)) }) hd J V.2 (rest:=rest) (rt:=rt)
           (b:=some ⟨F.ay,F.dl+(if e0<F.cp then e0 else pre)*i.size,none⟩) (dN:=len) (jL:=F.cp-e0) g (by omega)
           (λad h=>by
             obtain rfl:=ae h;rw[az Y,addr_add];rw[show F.dl+e0*i.size+len*i.size=F.dl+k by rw[<-Z,cY];omega];exact hst) (λh=>by cases h)
          have hal:=X.alias hb K q2 V.1 Z S o1 y o2' L (λj v hj=>o3 j v hj) hfz
           { w with heap:=w.heap.setIfInBounds F.ay (.cells (fK vs (F.dl+k+0) cs) el (lo,ZA)) } rfl
          rw[<-a];refine⟨λid=>if id=s.next then some ⟨F.ay,F.dl+e0*i.size,F.cp-e0,none⟩else E id,.slice (some ⟨F.ay,F.dl+(if e0<F.cp then e0 else pre)*i.size,none⟩) (len+(m+1)) (F.cp-e0),_,(by simp only[VS,aA,G,aP];rfl),?_,?_⟩
          .have:¬(F.cp-e0=0):=by omega
           simp only[ag,aH,bX,ar];rw[az Y,az (by omega)];simp
          .refine Step.of' ⟨?_,hal,⟨by simp,rfl,rfl,rfl,?_⟩,?_,oG _,λ_ _ h=>X.lt h,?_,?_⟩ λid O d A I=>(by
             by_cases e:id=s.next
             .simp only[e,aH,ar]at A;subst A;cases I
             .simp only[e,aQ]at A;exact⟨id,O,A,I⟩)
           .intro id l hl';have:id≠s.next:=eS (X.lt hl');exact⟨l,by simp[this,hl'],rfl,rfl,rfl⟩
           .intro kk ob hkk hnl;have:kk≠F.ay:=λh=>hnl ⟨b,_,F,hb,rfl,K,h.symm⟩
            simp[cm this,hkk]
           .rintro kk ⟨id,x',l,A,I,W,D⟩ _;simp only[Tr.bm]at A;by_cases e1:s.next=id
            .subst e1;simp only[aH]at W;obtain rfl:=ae W;exact⟨b,_,F,hb,rfl,K,D⟩
            .rw[ai e1]at A;have e1':id≠s.next:=cm e1;simp only[e1',aQ]at W;by_cases e2:b=id
             .subst e2;simp only[aH,ar]at A;subst A;cases I
             .rw[ai e2]at A;exact⟨id,x',l,A,I,W,D⟩
           .intro id O h;by_cases e:id=s.next
            .simp only[e,aH,ar]at h;subst h;exact .inr ⟨by omega,.inr ⟨b,_,F,hb,K,rfl⟩⟩
            .simp only[e,aQ]at h;exact .inl ⟨O,h⟩
           .intro id x' A a8B;simp only[Tr.bm]at A;rw[ai (by omega)]at A;by_cases e2:b=id
            .subst e2;exact⟨_,hb⟩
            .rw[ai e2]at A;exact⟨x',A⟩
         .
          have hby:(len+(m+1))*i.bytes<=68719476736:=bn p2;have Hv:len+(m+1)<=68719476736:=bn p3;have T:H.length=len*i.size:=by rw[ba o1,o2']
          have hco:(Builtin.firstCells i.size len (.slice (some ⟨F.ay,F.dl+(if e0<F.cp then e0 else pre)*i.size,none⟩) len (F.cp-e0))).run C.P w=.ok ⟨H⟩ w:=by
           simp only[Builtin.firstCells];by_cases a6k:len=0
           .subst a6k;have:H=[]:=A6 (by rw[T];simp);subst this;simp only[kx];rfl
           .have Y:e0<F.cp:=by omega
            rw[az Y];refine dK (λj v hj=>?_) _ T;have hv:=o3 j v hj;have hv':vs[F.dl+e0*i.size+j]? =some v:=hv;simp only[World.cell?,q2];simpa using hv'
          obtain⟨cap,eo,hc1,hc2,G⟩:=ja (w:=w) hC hd J V.1 V.2 (rest:=rest) (rt:=rt) (b:=some ⟨F.ay,F.dl+(if e0<F.cp then e0 else pre)*i.size,none⟩) (jL:=F.cp-e0) hz Zv g (by omega) hby Hv
           (λd=>jR (E:=E) (x:=.np b pre e0 len i.size) (by simp only[ag,K];rfl) w d hco (λ_ _ _ _ _=>trivial))
           T t
          have DM:=dI o1 y;have hst:=Step.fj X hb;have Q:=Step.alloc (base:=base) hst.rel (.cells el (Tr.ofList (lV++r.2)) ((len+(m+1))*i.size) (fz-e0*i.size) (b::fh) false sg) (.cells (⟨H⟩++⟨cs⟩++eo) el (0,0)) 0 cap
           (M:={ w with drawn:=w.drawn+1,heap:=w.heap.push (.cells (⟨H⟩++⟨cs⟩++eo) el (0,0)) }) rfl rfl rfl rfl
           (by
             intro B g1;have:=dZ (C:=C) V.1 DM (by rw[bL,o2',L,<-cY];exact iU _ hc1) (arr:=⟨H⟩++⟨cs⟩++eo)
              (by
                simp only[rU,vu];rw[hc2,T,t,<-cY,<-cY];rw[show len+(m+1)+(cap-(len+(m+1)))=cap by omega];exact aX _)
              (λj c hj=>by
                rw[xO (by
                 simp only[rU,vu];rcases cV j (H++cs).length with h|h
                 .simpa using h
                 .rw[zZ h]at hj;cases hj)]
                simpa using hj) w.heap.size (fz-e0*i.size) sg 0 0 (by omega) (by omega) B g1
             rw[bL,o2',L,<-cY]at this;exact this)
          refine⟨_,.slice (some ⟨w.heap.size,0,none⟩) (len+(m+1)) cap,_,?_,?_,hst.trans Q⟩
          .rw[<-a];simp only[VS,aA,G,aP];rfl
          .simp only[ag,aH,bX,ar];simp only[du,rJ];congr 2;split<;>simp
      |_=>trivial
  |gR b n c=>exact JD hC X hd J V.1 V.2 hz Zv a y L g
  |_=>trivial
 |_=>trivial
end
end Go.Proofs.YtokipodjggomfaaGreatDoor.Abs
namespace Go.Proofs.YtokipodjggomfaaGreatDoor.Abs
open Go
section
variable{C:Ctx}{base:Nat}{E:G}{s:S}{w:World}{nt:Nat}{t:Tr AV}{a:Act}
def Xr(E:G)(s:S)(w:World)(x:AV)(a:Value)(m:List ME×Nat):Prop:=
 (x=.iw/\a=.map none/\m=([],0))\/
 (∃r F gG,x=.l5 r/\E r=some F/\a=.map (some F.ay)/\s.h.get r=some (.map m.1 m.2)/\w.heap[F.ay]? =some (.map gG m.2)/\
   db E m.1 gG.toList/\(∃d,∀e∈m.1,keyOf d e.k=true))
theorem yR(f:Rel C base E s w)(x:AV)(a:Value)(Y:ag E x=some a):(M1 s x).path (Xr E s w x a):=by
 cases x with
 |iw=>simp only[ag,ar]at Y;exact .inl ⟨rfl,Y.symm,rfl⟩
 |l5 r=>
  simp only[ag,aN]at Y;obtain⟨F,d,rfl⟩:=Y;show(match s.h.get r with|some (.map J c)=>R.ok (J,c)|_=>R.bad _).path _;cases e:s.h.get r with
  |none=>trivial
  |some b=>
   cases b with
   |map J c=>obtain⟨O,o,A,I,gG,rfl,W,D⟩:=f.ay r _ e;rw[d]at A;obtain rfl:=ae A;exact .inr ⟨r,F,gG,rfl,d,rfl,e,I,W,D⟩
   |_=>trivial
 |_=>trivial
theorem Ei{P:Program}{r c:Nat}{J:Array MapEntry}{w:World}(h:w.heap[r]? =some (.map J c)):(getObj r).run P w=.ok (.map J c) w:=by simp[getObj,Sem.run,h]
theorem sX{P:Program}{x:Array TypeId}{rt:TypeId}{ad:Addr}{l c:Nat}{w:World}(h:c≠0):
  (Builtin.unsafeSliceData_ x rt ⟨[.slice (some ad) l c]⟩).run P w=.ok (.pointer (some ad)) w:=by
 have:Builtin.unsafeSliceData_ x rt ⟨[.slice (some ad) l c]⟩=(if c≠0 then pure (.pointer (some ad))else _):=rfl;rw[this,az h];rfl
theorem db.len:∀{J:List ME}{L:List MapEntry},db E J L->J.length=L.length
 | [],[],_=>rfl
 |_::_,_::_,h=>by simp[db.len h.2]
 | [],_::_,h=>h.elim
 |_::_,[],h=>h.elim
theorem a2K(D:Good C)(p:Rel C base E s w)(argTypes:List TypeId)(args:List AV)(f:List Value)(j:ax E args=some f)(rt:TypeId):
  (KV C s argTypes args).path (dM C base E s w ((VS (Builtin.len_ ⟨argTypes⟩ rt ⟨f⟩)).run C.P w)):=by
 unfold KV;split
 case h_2=>trivial
 rename_i x t rest;obtain⟨r,G,a,A,rfl⟩:=av.1 j;simp only[ax,ar]at A;subst A;refine R.bh _ (bw D t) λd m=>?_
 have key:∀n:Nat,((Builtin.len_ ⟨t::rest⟩ rt ⟨[r]⟩).run C.P w=.ok (goInt n) w)->(R.ok (Nx.val (.int .i64 (.ofNat n)) s)).path (dM C base E s w ((VS (Builtin.len_ ⟨t::rest⟩ rt ⟨[r]⟩)).run C.P w)):=
  λn h=>dV p h rfl
 have o:∀v,Cm d x=some v->(R.ok (Nx.val v s)).path (dM C base E s w ((VS (Builtin.len_ ⟨t::rest⟩ rt ⟨[r]⟩)).run C.P w)):=by
  intro v i;unfold Cm at i;cases d<;>first|(cases i;done)|skip
  .cases x<;>first|(cases i;done)|skip
   rename_i k e;cases k<;>first|(cases i;done)|skip
   obtain rfl:=ae i;obtain⟨d',A,⟨z,rfl⟩,rfl⟩:=c7 a;refine dV p (c:=goInt z.size) ?_ (dn (d:=.val (.int .i64 z.size)) (by simp only[aj,A,aW,e1]) ⟨_,rfl⟩ rfl);simp only[Builtin.len_,jJ,cr];rw[aG m];rfl
  .cases x<;>first|(cases i;done)|skip
   .rename_i k e;cases k<;>first|(cases i;done)|skip
    obtain rfl:=ae i;obtain⟨d',A,⟨I,sn,K,g,J,rfl⟩,rfl⟩:=c7 a;refine dV p (c:=goInt sn) ?_ (dn (d:=.val (.int .i64 sn)) (by simp only[aj,A,aW,e1]) ⟨_,rfl⟩ rfl);simp only[Builtin.len_,jJ,cr];rw[aG m];rfl
   .rename_i b n c;obtain rfl:=ae i;obtain⟨F,k,q,B,u,H,Z,L,rfl⟩:=gH a;refine dV p (c:=goInt k) ?_ (by rw[uT];exact dn (d:=.val (.int .i64 k)) u ⟨_,rfl⟩ rfl);simp only[Builtin.len_,jJ,cr];rw[aG m];rfl
 show(match Cm d x with|some v=>R.ok (Nx.val v s)|none=>(VF C s d x>>=λn=>R.ok (Nx.val (.int .i64 (.ofNat n)) s))).path _;cases y:Cm d x with
 |some v=>exact o v y
 |none=>
 simp only;cases d with
 |string=>
  cases x with
  |str l=>simp only[ag,ar]at a;subst a;refine key _ ?_;simp only[Builtin.len_,jJ,cr];rw[aG m];rfl
  |_=>trivial
 |slice e=>
  cases x with
  |dh=>simp only[ag,ar]at a;subst a;refine key _ ?_;simp only[Builtin.len_,jJ,cr];rw[aG m];rfl
  |sl b off len cap=>simp only[ag,aN]at a;obtain⟨F,B,rfl⟩:=a;refine key _ ?_;simp only[Builtin.len_,jJ,cr];rw[aG m];rfl
  |np b pre e0 len g=>simp only[ag,aN]at a;obtain⟨F,B,rfl⟩:=a;refine key _ ?_;simp only[Builtin.len_,jJ,cr];rw[aG m];rfl
  |_=>trivial
 |_=>trivial
theorem GM(v:Good C)(l:Rel C base E s w)(argTypes:List TypeId)(args:List AV)(a:List Value)(f:ax E args=some a)(rt:TypeId):
  (rA C s argTypes args).path (dM C base E s w ((VS (Builtin.unsafeSliceData_ ⟨argTypes⟩ rt ⟨a⟩)).run C.P w)):=by
 unfold rA;split
 .rename_i b pre e0 len g;obtain⟨z,o,j,A,rfl⟩:=av.1 f;simp only[ax,ar]at A;subst A;simp only[ag,aN]at j;obtain⟨F,m,rfl⟩:=j;split
  .rename_i st rest n;refine R.bh _ (bw v st) λd H=>?_
   cases d with
   |slice e=>
    refine R.bh _ (bY v e) λi V=>?_
    refine R.bh _ (R.aI _ _) λ_ B=>?_
    obtain⟨_,_,p⟩:=wL l V.1 m B;have x:e0+(n+1)<=F.cp:=p;refine dV l (c:=.pointer (some ⟨F.ay,F.dl+e0*g,none⟩)) ?_ (by simp[ag,m]);have r:e0<F.cp:=by omega
    have t:F.cp-e0≠0:=by omega
    rw[az r];exact sX t
   |_=>trivial
  .trivial
 .rename_i b n c;obtain⟨z,o,j,A,rfl⟩:=av.1 f;simp only[ax,ar]at A;subst A;obtain⟨F,k,q,m,u,D,Z,I,rfl⟩:=gH j;refine R.ew l λG=>?_
  have y:0<k:=by
   rcases Fl k with h|h
   .subst h;exact absurd ⟨_,_,rfl,by decide⟩ (h4 G (a2u u))
   .exact h
  refine dV l (c:=.pointer (some ⟨F.ay,F.dl,none⟩)) (sX (by omega)) ?_;simp only[ag,m,aW,aj];show(if 0<F.cp then some (Value.pointer (some ⟨F.ay,F.dl+(0*1+0),none⟩))else none)=_;rw[az (by omega)];simp
 .trivial
end
end Go.Proofs.YtokipodjggomfaaGreatDoor.Abs
namespace Go.Proofs.YtokipodjggomfaaGreatDoor.Abs
open Go
section
variable{C:Ctx}{base:Nat}{E:G}{s:S}{w:World}{nt:Nat}{t:Tr AV}{a:Act}
theorem I7{P:Program}(k:IntKind)(n:Int)(w:World):(Go.asInt (.int k n)).run P w=.ok n w:=rfl
theorem Eh{P:Program}{r c:Nat}{J j7:Array MapEntry}{c':Nat}{w:World}(h:w.heap[r]? =some (.map J c)):
  (setObj r (.map j7 c')).run P w=.ok () { w with heap:=w.heap.setIfInBounds r (.map j7 c') }:=by
 have a:r<w.heap.size:=by grind
 simp only[setObj,Sem.run,h]
theorem Step.Um (m:Rel C base E s w) {r c:Nat} {J:List ME} {gG:Array MapEntry} {F:Loc} (g:s.h.get r=some (.map J c)) (f:E r=some F) (ho:w.heap[F.ay]? =some (.map gG c))
  {j7:List ME} {c':Nat} {b:Array MapEntry} (A:db E j7 b.toList) (I:∃d,∀e∈j7,keyOf d e.k=true):
  Step C base E s w E ⟨s.h.set r (.map j7 c'),s.next,s.pc⟩ { w with heap:=w.heap.setIfInBounds F.ay (.map b c') }:=by
 have n:F.ay<w.heap.size:=by grind
 have a:∀i x li,i≠r->(s.h.set r (.map j7 c')).get i=some x->E i=some li->li.ay=F.ay->False:=by
  intro i x li V Y j p;rw[Tr.get_set_other _ _ (cm V)]at Y;rcases m.sep i r x _ li F Y g j f V p with h|h
  .cases x<;>simp[fg]at h
  .simp[fg]at h
 refine Step.of ⟨Grow.refl E,?_,⟨by simp,rfl,rfl,rfl,?_⟩,?_,aX _,λ_ _ h=>m.lt h,λ_ l h=>.inl ⟨l,h⟩,λid x A _=>by
  simp only[Tr.bm]at A;split at A
  .next h=>subst h;exact⟨_,g⟩
  .exact⟨x,A⟩⟩
 .refine m.xV (N:=.map j7 c') (T:=.map b c') g f f ⟨rfl,rfl,rfl⟩ rfl (λ_ _=>rfl) ?_ (Tr.get_set_same _ _ _) ?_ ?_ (by simp) ⟨b,rfl,A,I⟩
    (λi x li V Y W D=>(a i x li V Y W D).elim) (λi x li V Y W D=>(a i x li V Y W D).elim)
  .grind[Tr.get_set_other]
  .intro k Z;simp[cm Z]
  .simp[n]
 .intro k o Z v;have:k≠F.ay:=λh=>v ⟨r,_,F,g,rfl,f,h.symm⟩
  simp[cm this,Z]
 .rintro k ⟨id,x,l,q,y,t,u⟩ _;simp only[Tr.bm]at q;split at q
  .next h=>subst h;exact⟨_,_,F,g,rfl,f,by rw[f]at t;obtain rfl:=ae t;exact u⟩
  .exact⟨id,x,l,q,y,t,u⟩
theorem MK{d d':TypeDesc}{x y:AV}(A:keyOf d x=true)(I:keyOf d' x=true)(W:keyOf d' y=true):keyOf d y=true:=by cases d<;>cases d'<;>cases x<;>simp[keyOf]at A I<;>cases y<;>simp[keyOf]at W ⊢;rw[A,<-I,W]
theorem y3{d:TypeDesc}{k:AV}{J:List ME}(h:sC d k J=true)(Z:∃d',∀e∈J,keyOf d' e.k=true):keyOf d k=true/\∀e∈J,keyOf d e.k=true:=by
 simp only[sC,aw]at h;refine⟨h.1,?_⟩;obtain⟨d',a⟩:=Z;cases J with
 |nil=>intro e b;cases b
 |cons e0 J=>intro e b;exact MK h.2 (a e0 (by simp)) (a e b)
theorem Bq{d:TypeDesc}{x y:AV}{b c:Value}(Y:ag E x=some b)(e:ag E y=some c)(A:keyOf d x=true)(I:keyOf d y=true):
  Instr.sameNow d b c=some (jB x y)/\(jB x y=true->x=y)/\(jB x y=true->Instr.sameBits 10000 c b=true):=by
 cases d<;>cases x<;>simp[keyOf]at A<;>cases y<;>simp[keyOf]at I<;>simp only[ag,ar]at Y e<;>subst Y<;>subst e
 .simp only[Instr.sameNow,jB,Instr.sameBits,Bool.beq_eq_decide_eq,nc,fw];exact⟨λh=>by rw[h],λh=>h.symm⟩
 .grind[jB,Instr.sameNow,Instr.sameBits]
 .rename_i l m;simp only[Instr.sameNow,jB,Instr.sameBits,zi];have this:((ByteArray.mk ⟨l⟩:ByteArray)==ByteArray.mk ⟨m⟩)=(l==m):=by
   show((Array.mk l)==Array.mk m)=_;simp
  have a:((ByteArray.mk ⟨m⟩:ByteArray)==ByteArray.mk ⟨l⟩)=(m==l):=by show((Array.mk m)==Array.mk l)=_;simp
  refine⟨by rw[this],λh=>by rw[eq_of_beq h],λh=>by rw[a,eq_of_beq h];simp⟩
def Found(E:G)(d:TypeDesc)(k:AV)(a:Value)(J:List ME)(l:List MapEntry)(b:Nat):Prop:=
 (qb k J=none/\Instr.findNow d a l b=some none)\/
 (∃e i m,qb k J=some e/\Instr.findNow d a l b=some (some (b+i,m.val))/\l[i]? =some m/\sL E e m/\e.k=k/\jB k e.k=true/\e∈J/\
   (∀(v:AV)(c:Value),ag E v=some c->db E (I2 k v J) (l.modify i λx=>{ x with key:=a,val:=c }))/\
   db E (Z0 k J) (l.eraseIdx i))
theorem found(d:TypeDesc)(k:AV)(f:Value)(Z:ag E k=some f)(a:keyOf d k=true):∀(J:List ME)(l:List MapEntry)(c:Nat),db E J l->(∀e∈J,keyOf d e.k=true)->Found E d k f J l c
 | [],[],c,_,_=>.inl ⟨rfl,rfl⟩
 |e::J,m::l,c,⟨A,I⟩,j=>by
  obtain⟨s1,s2,t⟩:=Bq Z A.1 a (j e (by simp));unfold Found qb Instr.findNow;rw[s1];cases b:jB k e.k with
  |true=>
   right;refine⟨e,0,m,rfl,rfl,rfl,A,(s2 b).symm,b,by simp,λv n g=>?_,?_⟩
   .simp only[I2,b,List.modify_zero_cons];exact⟨⟨Z,g,A.2.2⟩,I⟩
   .grind[Z0]
  |false=>
   simp only;rcases found d k f Z a J l (c+1) I (λe o=>j e (by simp[o]))with⟨a1,a2⟩|⟨p,i,m',a1,a2,a3,a4,a5,q,r,s,a9⟩
   .exact .inl ⟨a1,a2⟩
   .right;refine⟨p,i+1,m',a1,?_,by simpa using a3,a4,a5,q,by simp[r],λv n g=>?_,?_⟩
    .rw[a2];congr 3;omega
    .simp only[I2,b,List.modify_succ_cons];exact⟨A,s v n g⟩
    .simp only[Z0,b,List.eraseIdx_cons_succ];exact⟨A,a9⟩
 | [],_::_,_,h,_=>h.elim
 |_::_,[],_,h,_=>h.elim
theorem run_findKey{a:TypeId}{d:TypeDesc}(c:C.P.underlying a=some d){b:Value}{l:List MapEntry}{r:Option (Nat×Value)}(h:Instr.findNow d b l 0=some r):
  (Instr.findKey a b l).run C.P w=.ok r w:=by
 unfold Instr.findKey;rw[aG c,h];rfl
theorem run_checkKey{a:TypeId}{d:TypeDesc}(f:C.P.underlying a=some d){k:AV}{c:Value}(Z:ag E k=some c)(e:keyOf d k=true)(b:Bool)(w:World):
  (Instr.checkKey b 10000 a c).run C.P w=.ok () w:=by
 show(Instr.checkKey b (9999+1) a c).run C.P w=.ok () w;unfold Instr.checkKey;rw[aG f];cases d<;>cases k<;>simp[keyOf]at e<;>simp only[ag,ar]at Z<;>subst Z<;>rfl
theorem EI{d:TypeDesc}{k v:AV}(Z:keyOf d k=true):∀{J:List ME},(∀e∈J,keyOf d e.k=true)->∀e∈I2 k v J,keyOf d e.k=true
 | [],_,e,a=>by simp[I2]at a
 |x::J,h,e,a=>by
  unfold I2 at a;cases b:jB k x.k with
  |true=>
   rw[b]at a;rcases bQ.1 a with rfl|a
   .exact Z
   .exact h e (by simp[a])
  |false=>
   rw[b]at a;rcases bQ.1 a with rfl|a
   .exact h _ (by simp)
   .exact EI Z (λe a=>h e (by simp[a])) e a
theorem db.push:∀{J:List ME}{l:List MapEntry}{e:ME}{m:MapEntry},db E J l->sL E e m->db E (J++[e]) (l++[m])
 | [],[],_,_,_,h=>⟨h,dB⟩
 |_::_,_::_,_,_,h,a=>⟨h.1,db.push h.2 a⟩
 | [],_::_,_,_,h,_=>h.elim
 |_::_,[],_,_,h,_=>h.elim
theorem YN(o:Rel C base E s w){r:Nat}{F:Loc}{m:List ME×Nat}{gG:Array MapEntry}(p:s.h.get r=some (.map m.1 m.2))(q:E r=some F)(ho:w.heap[F.ay]? =some (.map gG m.2))
  (t:db E m.1 gG.toList) (g:∃d,∀e∈m.1,keyOf d e.k=true) {u ty z:TypeId} {d:TypeDesc} (j:C.P.underlying ty=some (.map u z)) (l:C.P.underlying u=some d)
  {k v:AV} {f n:Value} (Z:ag E k=some f) (y:ag E v=some n) (A:sC d k m.1=true):
  ∃M,(Instr.mapUpdate ty (.map (some F.ay)) f n).run C.P w=.ok () M/\Step C base E s w E (YP s r k v m) M:=by
 obtain⟨b,a⟩:=y3 A g;unfold Instr.mapUpdate;rw[aG j];simp only[aA,Ei ho,aP,run_checkKey l Z b];rcases found d k f Z b m.1 gG.toList 0 t a with⟨a1,a2⟩|⟨e,i,x,a1,a2,a3,a4,a5,B,D,G,a9⟩
 .simp only[run_findKey l a2,aP,Eh ho];refine⟨_,rfl,?_⟩;unfold YP;rw[a1];refine Step.Um o p q ho ?_ ⟨d,?_⟩
  .rw[Array.toList_push];exact t.push ⟨Z,y,rfl⟩
  .grind
 .rw[du]at a2;have Y:gG[i]? =some x:=by simpa using a3
  have c:Instr.sameBits 10000 (((gG[i]?).map (·.key)).getD f) f=true:=by rw[Y];have:=(Bq Z a4.1 b (a e D)).2.2 B;simpa using this
  simp only[run_findKey l a2,aP,Instr.keyThatStays,c,aH,aA,aY,Eh ho];refine⟨_,rfl,?_⟩;unfold YP;rw[a1];refine Step.Um o p q ho ?_ ⟨d,EI b a⟩;rw[Array.toList_modify];exact G v n y
theorem wK(g:Good C)(b:Rel C base E s w)(c:aD E nt t a.tmps)(ty:TypeId)(x y z:Operand)(rt:TypeId):
  (eB ty x y z rt C t s).path (dM C base E s w ((US (Instr.mapUpdate ty (a.eval x) (a.eval y) (a.eval z))).run C.P w)):=by
 refine R.bh _ (bw g ty) λd0 e=>?_
 cases d0 with
 |map i B=>
  refine R.bh _ (bw g i) λd j=>?_
  refine R.bh _ (bf b c x) λv l=>?_
  cases v with
  |l5 r=>
   refine R.bh _ (yR b _ _ l) λm n=>?_
   refine R.bh _ (bf b c y) λk Z=>?_
   refine R.bh _ (bf b c z) λG f=>?_
   refine R.bh _ (R.aI _ _) λ_ o=>?_
   rcases n with⟨h,_⟩|⟨H,F,gG,p,q,u,A,I,W,D⟩
   .cases h
   .cases p;obtain⟨M,g1,g2⟩:=YN b A q I W D e j Z f o;rw[u];exact⟨E,M,by simp[US,g1],g2⟩
  |_=>trivial
 |_=>trivial
theorem oT{i ty j:TypeId}{d:TypeDesc}(f:C.P.underlying ty=some (.map i j))(e:C.P.underlying i=some d){g h z:Value}{k:AV}(Z:ag E k=some h)(a:keyOf d k=true)
  {gG:Array MapEntry} (n:(g=.map none/\gG=#[])\/∃b c,g=.map (some b)/\w.heap[b]? =some (.map gG c)) {r:Option (Nat×Value)} (l:Instr.findNow d h gG.toList 0=some r)
  (m:r=none->∀w,(zeroValue j).run C.P w=.ok z w) (ok:Bool):
  (Instr.lookup ty g h ok).run C.P w=.ok (match r with|some (_,v)=>(if ok then .tuple #[v,.bool true]else v)|none=>(if ok then .tuple #[z,.bool false]else z)) w:=by
 unfold Instr.lookup;rw[aG f];rcases n with⟨rfl,rfl⟩|⟨b,c,rfl,o⟩
 .simp only[aA,aY,aP,run_checkKey e Z a,run_findKey e l];cases r with
  |none=>simp only[aA,m rfl,aP,aY]
  |some p=>rfl
 .simp only[aA,Ei o,aY,aP,run_checkKey e Z a,run_findKey e l];cases r with
  |none=>simp only[aA,m rfl,aP,aY]
  |some p=>rfl
theorem Xr.gG {m:List ME×Nat} {x:AV} {a:Value} (g:Xr E s w x a m):∃gG:Array MapEntry,((a=.map none/\gG=#[])\/∃b c,a=.map (some b)/\w.heap[b]? =some (.map gG c))/\
  db E m.1 gG.toList/\(∃d,∀e∈m.1,keyOf d e.k=true):=by
 rcases g with⟨_,f,rfl⟩|⟨i,F,gG,j,l,f,A,I,W,D⟩
 .exact⟨#[],.inl ⟨f,rfl⟩,dB,.bool,λe h=>by cases h⟩
 .exact⟨gG,.inr ⟨_,_,f,I⟩,W,D⟩
theorem mT{v:AV}{c:Value}(h:ag E v=some c)(ok b:Bool):ag E (iW ok b v)=some (if ok then .tuple #[c,.bool b]else c):=by
 cases ok
 .exact h
 .simp[iW,ag,ax,h]
theorem IK{d:TypeDesc}{k:AV}{f:Value}{J:List ME}{e:SE}(Z:ag E k=some f)(h:Bh d k J=some e):
  ∃b,ag E b=some f/\keyOf d b=true/\hY d J=true/\∀x,keyOf d x=true->aj E (.a2 (.bin .eql) e (cT x))=some (.val (.bool (jB b x))):=by
 unfold Bh at h;cases d<;>first|(cases h;done)|skip
 .cases k<;>first|(cases h;done)|skip
  rename_i q c se;cases c<;>first|(cases h;done)|skip
  rename_i g;simp only at h;cases a:n9 q g&&hY (.int q) J with
  |false=>rw[a]at h;cases h
  |true=>rw[a]at h;obtain rfl:=ae h;simp only[aw]at a;obtain rfl:=dP a.1;obtain⟨d',A,⟨n,rfl⟩,rfl⟩:=c7 Z;refine⟨.int q n,rfl,by simp[keyOf],a.2,λx Y=>?_⟩;cases x<;>simp only[keyOf,dY]at Y;rename_i i m;have:=bq Y;subst this;simp only[aj,cT,A,aW,e2,dW,bj,aH,intOp,okV,jB]
 .cases k<;>first|(cases h;done)|skip
  rename_i c se;cases c<;>first|(cases h;done)|skip
  simp only at h;cases a:hY .string J with
  |false=>rw[a]at h;cases h
  |true=>rw[a]at h;obtain rfl:=ae h;obtain⟨d',A,⟨z,rfl⟩,rfl⟩:=c7 Z;refine⟨.str z.data.toList,by simp only[ag,Dt.v],rfl,rfl,λx Y=>?_⟩;cases x<;>simp only[keyOf,dY]at Y;simp only[aj,cT,A,aW,e2,dW,strOp,okV,jB]
theorem tg{d:TypeDesc}:∀{J:List ME},hY d J=true->∀e∈J,keyOf d e.k=true
 | [],_,e,a=>by cases a
 |x::J,h,e,a=>by
  simp only[hY,aw]at h;cases a with
  |head=>exact h.1
  |tail _ a=>exact tg h.2 e a
theorem wA{d:TypeDesc}{a:AV}{e:SE}(c:∀x,keyOf d x=true->aj E (.a2 (.bin .eql) e (cT x))=some (.val (.bool (jB a x)))):∀(J:List ME)(s:S),Rel C base E s w->hY d J=true->
  (pA s e J).path (λr=>r.1=qb a J/\Step C base E s w E r.2 w)
 | [],s,b,_=>⟨rfl,Step.refl b⟩
 |x::J,s,b,Z=>by
  simp only[hY,aw]at Z;refine R.bh _ (o0 b (c x.k Z.1)) λr f=>?_
  obtain⟨A,I, -⟩:=f;show(match r.1 with|true=>R.ok (some x,r.2)|false=>pA r.2 e J).path _;have g:qb a (x::J)=match jB a x.k with|true=>some x|false=>qb a J:=rfl
  rw[g,A];cases jB a x.k with
  |true=>exact⟨rfl,I⟩
  |false=>refine R.aE ?_ (wA c J r.2 I.rel Z.2);rintro r2 ⟨g1,g2⟩;exact⟨g1,I.trans g2⟩
theorem Vh{x:Sem Value}{v:AV}{c:Value}{U:S}(Y:x.run C.P w=.ok c w)(a:ag E v=some c)(b:Step C base E s w E U w):dM C base E s w ((VS x).run C.P w) (.val v U):=
 ⟨E,c,w,by simp[VS,Y],a,b⟩
theorem RQ(F:Good C)(p:Rel C base E s w)(K:aD E nt t a.tmps)(ty:TypeId)(x y:Operand)(ok:Bool)(rt:TypeId):
  (n0 ty x y ok rt C t s).path (dM C base E s w ((VS (Instr.lookup ty (a.eval x) (a.eval y) ok)).run C.P w)):=by
 refine R.bh _ (bw F ty) λd0 g=>?_
 cases d0 with
 |map L q=>
  refine R.bh _ (bw F L) λd G=>?_
  refine R.bh _ (bf p K x) λv M=>?_
  refine R.bh _ (yR p _ _ M) λm N=>?_
  refine R.bh _ (bf p K y) λk Z=>?_
  obtain⟨gG,b,u,H⟩:=N.gG;show(match Bh d k m.1 with|some se=>(pA s se m.1>>=λr=>match r.1 with|some e=>R.ok (Nx.val (iW ok true e.v) r.2)|none=>(mB C q>>=λv=>R.ok (Nx.val (iW ok false v) r.2)))|none=>(bD (sC d k m.1) "lookup: key" >>= λ_=>match qb k m.1 with|some e=>R.ok (Nx.val (iW ok true e.v) s)|none=>(mB C q>>=λv=>R.ok (Nx.val (iW ok false v) s)))).path _;cases I:Bh d k m.1 with
  |some se=>
   obtain⟨O,l,f,j,Q⟩:=IK Z I;refine R.bh _ (wA Q m.1 s p j) λr S=>?_
   obtain⟨A,B⟩:=S;rcases found d O _ l f m.1 gG.toList 0 u (tg j)with⟨a1,a2⟩|⟨e,i,T,a1,a2,a3,a4,a5,U,V,W,a9⟩
   .rw[A,a1];refine R.bh _ (wq F q) λz J=>?_
    obtain⟨c,n,o⟩:=J;exact Vh (oT g G l f b a2 (λ_=>n) ok) (mT (o E) ok false) B
   .rw[A,a1];exact Vh (oT (z:=.nilIface) g G l f b a2 (λh=>by cases h) ok) (mT a4.2.1 ok true) B
  |none=>
  simp only;refine R.bh _ (R.aI _ _) λ_ X=>?_
  obtain⟨f,D⟩:=y3 X H;rcases found d k _ Z f m.1 gG.toList 0 u D with⟨a1,a2⟩|⟨e,i,T,a1,a2,a3,a4,a5,U,V,W,a9⟩
  .show(match qb k m.1 with|some e=>R.ok (Nx.val (iW ok true e.v) s)|none=>(mB C q>>=λv=>R.ok (Nx.val (iW ok false v) s))).path _;rw[a1];refine R.bh _ (wq F q) λz J=>?_
   obtain⟨c,n,o⟩:=J;exact dV p (oT g G Z f b a2 (λ_=>n) ok) (mT (o E) ok false)
  .show(match qb k m.1 with|some e=>R.ok (Nx.val (iW ok true e.v) s)|none=>(mB C q>>=λv=>R.ok (Nx.val (iW ok false v) s))).path _;rw[a1];exact dV p (oT (z:=.nilIface) g G Z f b a2 (λh=>by cases h) ok) (mT a4.2.1 ok true)
 |_=>trivial
theorem Mn(g:Good C)(c:Rel C base E s w)(h:aD E nt t a.tmps)(ty:TypeId)(x:Option Operand)(rt:TypeId):
  (JP ty x rt C t s).path (dM C base E s w ((VS (Instr.makeMap ty (x.map a.eval))).run C.P w)):=by
 have b:=Step.alloc (base:=base) c (.map [] 0) (.map #[] 0) 0 1 (M:=w.alloc (.map #[] 0)) rfl rfl rfl rfl
  (λB _=>⟨#[],rfl,dB,.bool,λe i=>by cases i⟩)
 cases x with
 |none=>
  refine⟨_,.map (some w.heap.size),_,?_,?_,b⟩
  .rfl
  .simp[ag]
 |some x=>
  refine R.bh _ (bw g ty) λd j=>?_
  cases d with
  |map l m=>
   refine R.bh _ (bf c h x) λv f=>?_
   cases v with
   |int k n=>
    simp only[ag,ar]at f;refine⟨_,.map (some w.heap.size),_,?_,?_,b⟩
    .simp only[bX,VS,Instr.makeMap,aA];rw[<-f];rw[eQ j];rfl
    .simp[ag]
   |_=>trivial
  |_=>trivial
end
end Go.Proofs.YtokipodjggomfaaGreatDoor.Abs
namespace Go.Proofs.YtokipodjggomfaaGreatDoor.Abs
open Go
section
variable{C:Ctx}{base:Nat}{E:G}{s:S}{w:World}{nt:Nat}{t:Tr AV}{a:Act}
def Pz:eD->Bool
 | .cells ..=>true
 | .Dp ..=>true
 |_=>false
theorem Step.nO (m:Rel C base E s w) {r:Nat} {b N:eD} {o T:Obj} {F:Loc} (e:s.h.get r=some b) (d:E r=some F) (ho:w.heap[F.ay]? =some o)
  (A:Pz b=false) (y:Pz N=false) (z:cw C E F N T) {M:World} (f:M.heap=w.heap.setIfInBounds F.ay T) (B:M.tape=w.tape) (n:M.os=w.os) (g:M.output=w.output):
  Step C base E s w E ⟨s.h.set r N,s.next,s.pc⟩ M:=by
 have p:F.ay<w.heap.size:=by grind
 have c:dm b=false:=by cases b<;>first|rfl|cases A
 have a:∀i x li,i≠r->(s.h.set r N).get i=some x->E i=some li->li.ay=F.ay->False:=by
  intro i x li V Y j q;rw[Tr.get_set_other _ _ (cm V)]at Y;rcases m.sep i r x _ li F Y e j d V q with h|h
  .cases b<;>first|(cases A;done)|(cases x<;>simp[fg]at h)
  .cases b<;>first|(cases A;done)|simp[fg]at h
 refine Step.of ⟨Grow.refl E,?_,⟨by rw[f];simp,B,n,g,?_⟩,?_,aX _,λ_ _ h=>m.lt h,λ_ l h=>.inl ⟨l,h⟩,λid x A _=>by
  simp only[Tr.bm]at A;split at A
  .next h=>subst h;exact⟨_,e⟩
  .exact⟨x,A⟩⟩
 .refine m.xV (N:=N) (T:=T) e d d ⟨rfl,rfl,rfl⟩ c (λ_ _=>rfl) ?_ (Tr.get_set_same _ _ _) ?_ ?_ (by rw[f];simp) z
    (λi x li V Y W D=>(a i x li V Y W D).elim) (λi x li V Y W D=>(a i x li V Y W D).elim)
  .grind[Tr.get_set_other]
  .intro k Z;rw[f];simp[cm Z]
  .rw[f];simp[p]
 .intro k o Z G;have:k≠F.ay:=λh=>G ⟨r,_,F,e,c,d,h.symm⟩
  rw[f];simp[cm this,Z]
 .rintro k ⟨id,x,l,t,H,u,v⟩ _;simp only[Tr.bm]at t;split at t
  .next h=>subst h;exact⟨_,_,F,e,c,d,by rw[d]at u;obtain rfl:=ae u;exact v⟩
  .exact⟨id,x,l,t,H,u,v⟩
theorem nP{P:Program}{r:Nat}{o T:Obj}{w:World}(h:w.heap[r]? =some o)(a:∀x y z,o≠.cells x y z):
  (setObj r T).run P w=.ok () { w with heap:=w.heap.setIfInBounds r T }:=by
 simp only[setObj,Sem.run,h]
theorem ly{P:Program}{r:Nat}{o:Obj}{w:World}(h:w.heap[r]? =some o)(a:∀x y z,o≠.cells x y z):(getObj r).run P w=.ok o w:=by simp only[getObj,Sem.run,h]
theorem db.get:∀{J:List ME}{l:List MapEntry}(i:Nat)(e:ME),db E J l->J[i]? =some e->∃m,l[i]? =some m/\sL E e m
 | [],[],i,e,_,h=>by simp at h
 |x::J,m::l,0,e,⟨A,I⟩,h=>by simp at h;subst h;exact⟨m,by simp,A⟩
 |x::J,m::l,i+1,e,⟨A,I⟩,h=>by simpa using db.get i e I (by simpa using h)
 | [],_::_,_,_,h,_=>h.elim
 |_::_,[],_,_,h,_=>h.elim
end
end Go.Proofs.YtokipodjggomfaaGreatDoor.Abs
namespace Go.Proofs.YtokipodjggomfaaGreatDoor.Abs
open Go
section
variable{C:Ctx}{base:Nat}{E:G}{s:S}{w:World}{nt:Nat}{t:Tr AV}{a:Act}
theorem a5S(i:Good C)(h:Rel C base E s w)(j:aD E nt t a.tmps)(x:Operand)(e b:TypeId)(ok:Bool)(rt:TypeId):
  (RJ x b ok rt C t s).path (dM C base E s w ((VS (Instr.typeAssert (a.eval x) e b ok)).run C.P w)):=by
 refine R.bh _ (bf h j x) λv f=>?_
 refine R.bh (λr=>∃c,ag E r=some c/\(Instr.typeAssert (a.eval x) e b ok).run C.P w=.ok c w) ?_ (λr k=>by obtain⟨c,A,I⟩:=k;exact dV h I A);refine R.bh _ (bw i b) λd l=>?_
 have holds:∀(v:AV)(c:Value),ag E v=some c->(Instr.typeAssert (a.eval x) e b ok).run C.P w=.ok (if ok then .tuple #[c,.bool true]else c) w->
   (FN ok v).path (λr=>∃c,ag E r=some c/\(Instr.typeAssert (a.eval x) e b ok).run C.P w=.ok c w):=by
  intro v c A I;cases ok with
  |true=>exact⟨_,by simp[ag,ax,A],I⟩
  |false=>exact⟨_,A,I⟩
 cases v with
 |iface t v=>
  simp only[ag,aN]at f;obtain⟨n,g,f⟩:=f;rw[<-f]at holds ⊢;cases d with
  |interface want=>exact R.aJ _ _
  |_=>
   show(match Nat.beq t b with|true=>FN ok v|false=>R.bad _).path _;cases m:Nat.beq t b with
   |true=>have:t=b:=aL m;refine holds _ _ g ?_;unfold Instr.typeAssert;rw[aG l];simp only[this,aH];rfl
   |false=>trivial
 |_=>exact R.aJ _ _
theorem AQ(l:List UInt8)(b:UInt8):(ByteArray.mk ⟨l⟩).push b=⟨⟨l++[b]⟩⟩:=by grind[ByteArray.push]
theorem wC:∀(l:List AV)(a:List Value),ax E l=some a->
  (pM l).path (λbs=>∀(acc:List UInt8)(w:World),(forIn a (ByteArray.mk ⟨acc⟩) (λc s=>(match c with| .int .u8 n=>pure (ForInStep.yield (s.push (UInt8.ofNat n.toNat)))|_=>do{ stuck "bytesToString: byte expected";pure (ForInStep.yield s) }:Sem (ForInStep ByteArray)))).run C.P w=.ok (ByteArray.mk ⟨acc++bs⟩) w)
 | [],a,h=>by
   simp only[ax,ar]at h;subst h;intro acc w;simp
 |v::l,a,h=>by
  obtain⟨c,b,f,d,rfl⟩:=av.1 h;cases v with
  |int k n=>
   cases k with
   |u8=>
    cases n with
    |ofNat n=>
     simp only[ag,ar]at f;subst f;refine R.bh _ (wC l b d) λbs e=>?_
     intro acc w;simp only[List.forIn_cons,aA,aY,aP,AQ];have:=e (acc++[UInt8.ofNat n]) w;rw[show acc++UInt8.ofNat n::bs=acc++[UInt8.ofNat n]++bs by simp];exact this
    |negSucc n=>trivial
   |_=>trivial
  |_=>trivial
theorem Bu(P:Program)(fits:TypeId->Bool)(e:TypeId)(d count a off b n q:Nat)(A:b=q*P.cellsOf e+off)(I:q+count<=a)
  (h:rowAt P fits d e count off n=true):rowAt P fits d e a b n=true:=by
 cases d with
 |zero=>cases h
 |succ d=>
  unfold rowAt at h ⊢;simp only at h ⊢;split at h
  .cases h
  .next f=>
   rw[ai f];have c:0<P.cellsOf e:=tW f;have e1:b/P.cellsOf e=q+off/P.cellsOf e:=by rw[A,Nat.add_comm (q*P.cellsOf e),Fs _ _ c,Nat.add_comm]
   have e2:b%P.cellsOf e=off%P.cellsOf e:=by grind[Nat.add_mul_mod_self_right]
   rw[e1,e2];simp only[fW,aw,nc]at h ⊢;rcases h with⟨⟨W,D⟩,h5⟩|⟨W,D⟩
   .exact .inl ⟨⟨W,by omega⟩,h5⟩
   .exact .inr ⟨by omega,D⟩
end
end Go.Proofs.YtokipodjggomfaaGreatDoor.Abs
namespace Go.Proofs.YtokipodjggomfaaGreatDoor.Abs
open Go
section
variable{C:Ctx}{base:Nat}{E:G}{s:S}{w:World}{nt:Nat}{t:Tr AV}{a:Act}
theorem uX{e:TypeId}{i:TI}(h:tA C.P e i):C.P.cellsOf e=i.size:=by obtain⟨ti,A,I,W,_⟩:=h.info;simp[Program.cellsOf,A,W]
theorem Gt(f:Good C)(g:Rel C base E s w){b off:Nat}{u:TypeId}{F:Loc}(j:E b=some F)(h:Gu C s b off u=true):
  ∃el cells,w.shape? F.ay=some (el,cells)/\F.dl+off<cells/\liesAt C.P C.P.depth el (cells/C.P.cellsOf el) (F.dl+off) u 1=true:=by
 unfold Gu at h;cases c:s.h.get b with
 |none=>rw[c]at h;cases h
 |some q=>
  rw[c]at h;cases q with
  |cells el cs n fz fh st sg=>
   simp only[aw]at h;obtain⟨O,o,A,I,vs,lo,V,rfl,g1,g2,⟨i,g3,g4,g5,e,g7⟩,g6⟩:=g.ay b _ c;rw[j]at A;obtain rfl:=ae A;have k:off<n:=bn h.1;refine⟨el,vs.size,by simp[World.shape?,I],by omega,?_⟩;have l:C.P.depth=(2*(C.P.types.size+Made.depth)+1)+1:=rfl;rw[l];unfold liesAt;rw[fW];left;have a:=uX (II f g3);refine Bu C.P _ el C.P.depth (n/C.P.cellsOf el) _ off _ 1 e (by rw[a,g7]) ?_ h.2;rw[a];rcases Fl i.size with d|d
   .exfalso;rw[d]at g4;omega
   .have:(n+e*i.size)/i.size<=vs.size/i.size:=Fq (by omega);rw[Fs _ _ d]at this;omega
  |_=>cases h
theorem Br{P:Program}{ad:Addr}{el:TypeId}{n:Nat}(h:w.shape? ad.block=some (el,n)):(Conv.seenAt ad).run P w=.ok ad w:=by simp[Conv.seenAt,viewAt,h]
theorem B3(n:Good C)(k:Rel C base E s w)(a dst u:TypeId)(x:AV)(d:Value)(Y:ag E x=some d)
  (l:(C.P.underlying a=some (.pointer u)/\C.P.underlying dst=some .unsafePointer)\/(C.P.underlying a=some .unsafePointer/\C.P.underlying dst=some (.pointer u))):
  (xp C s u x).path (dM C base E s w ((VS (convert a dst d)).run C.P w)):=by
 have e:∀p,d=.pointer p->(convert a dst d).run C.P w=(Conv.unsafePointer a dst d).run C.P w:=by
  intro p h;subst h;unfold convert;rcases l with⟨A,I⟩|⟨A,I⟩
  .rw[aG A,aG I]
  .rw[aG A,aG I]
 cases x with
 |o9=>
  simp only[ag,ar]at Y;refine dV k (c:=.pointer none) ?_ rfl;rw[e none Y.symm,<-Y];unfold Conv.unsafePointer;rcases l with⟨A,I⟩|⟨A,I⟩
  .rw[aG A,aG I];rfl
  .rw[aG A,aG I];rfl
 |ptr b off=>
  have m:=Y;simp only[ag,aN]at Y;obtain⟨F,o,Y⟩:=Y;refine R.bh _ (bY n u) λi V=>?_
  refine R.bh _ (R.aI _ _) λ_ g=>?_
  simp only[aw,fY]at g;have f:i.size≠0:=by intro h;rw[h]at g;exact absurd g.1 (by simp)
  obtain⟨el,cells,j,r,q⟩:=Gt n k o g.2;refine dV k (c:=d) ?_ m;rw[e _ Y.symm,<-Y];unfold Conv.unsafePointer;rcases l with⟨A,I⟩|⟨A,I⟩
  .rw[aG A,aG I];simp only[aA];rw[Br (ad:=⟨F.ay,F.dl+off,none⟩) j];have:¬(F.dl+off ≥ cells):=by omega
   simp[cellsIn,j,V.2.size w,f];intro h;omega
  .rw[aG A,aG I];simp only[aA];rw[Br (ad:=⟨F.ay,F.dl+off,none⟩) j];simp[variablesAt,j,V.2.size w,f,q]
 |_=>trivial
theorem GQ(F:Good C)(G:Rel C base E s w)(g dst e:TypeId)(x:AV)(u:Value)(Y:ag E x=some u)
  (A:C.P.underlying g=some (.slice e)) (I:C.P.underlying dst=some .string) (v:∀l,x≠.str l):
  (sH C s e x).path (dM C base E s w ((VS (convert g dst u)).run C.P w)):=by
 refine R.bh _ (bY F e) λi V=>?_
 have d:=V.2.und;cases m:i.desc with
 |int k=>
  cases k with
  |u8=>
   show(bD (Nat.beq i.size 1) _>>=λ_=>srcCells s e i.size x>>=λr=>pM r.2>>=λbs=>R.ok (Nx.val (.str bs) s)).path _;refine R.bh _ (R.aI _ _) λ_ H=>?_
   have y:i.size=1:=aL H;rw[m]at d;have fin:∀b n c,u=.slice b n c->(srcCells s e i.size x>>=λr=>pM r.2>>=λbs=>R.ok (Nx.val (.str bs) s)).path (dM C base E s w ((VS (convert g dst u)).run C.P w)):=by
    intro b n c z;subst z;refine R.bh _ (tb F G e V.1 x _ Y) λr J=>?_
    obtain⟨j,o,B,p,D⟩:=J;refine R.bh _ (wC (C:=C) r.2 j o) λbs q=>?_
    refine dV G (c:=.string ⟨⟨bs⟩⟩) ?_ rfl;unfold convert;rw[aG A,aG I];simp only;rw[aG d];simp only[Conv.bytesToString];have K:n=r.1:=by have:=p w;simp only[Builtin.lenOf,aY,vk]at this;exact this.1
    have a:=D r.1 (aX _);have h:j.take (r.1*i.size)=j:=fv (by rw[ba o,B];exact aX _);rw[h]at a;cases b with
    |none=>
     simp only[Builtin.firstCells,aY,vk]at a;have t:j=[]:=by grind
     subst t;have:=q [] w;simp at this;subst this;rfl
    |some ad=>
     simp only[Builtin.firstCells,y,ve]at a;rw[K];simp only[aA,a,aP];have:=q [] w;refine(dX (λr=>Result.andThen r _) (?_:_=Result.ok (ByteArray.mk ⟨bs⟩) w)).trans rfl;have e:∀(f:Value->ByteArray->Sem (ForInStep ByteArray)),forIn (⟨j⟩:Array Value) ByteArray.empty f=forIn j (ByteArray.mk ⟨[]⟩) f:=by intro f;simp;rfl
     rw[e];exact this
   cases x with
   |dh=>simp only[ag,ar]at Y;exact fin _ _ _ Y.symm
   |sl=>simp only[ag,aN]at Y;obtain⟨_,_,Y⟩:=Y;exact fin _ _ _ Y.symm
   |np=>simp only[ag,aN]at Y;obtain⟨_,_,Y⟩:=Y;exact fin _ _ _ Y.symm
   |str l=>exact absurd rfl (v l)
   |_=>trivial
  |_=>trivial
 |_=>trivial
theorem J3{α:Type}(h:Array α)(o:α)(f:α->α):(h.push o).modify h.size f=h.push (f o):=by grind
theorem run_mark(P:Program)(w:World)(arr:Array Value)(e:TypeId):
  (markStringish ⟨w.heap.size,0,none⟩).run P (w.alloc (.cells arr e (0,0)))=.ok () { w with heap:=w.heap.push (.cells arr e (arr.size,arr.size+1)) }:=by
 have a:World.shape? (w.alloc (.cells arr e (0,0))) w.heap.size=some (e,arr.size):=by show(match(w.heap.push (.cells arr e (0,0)))[w.heap.size]? with|some (.cells c elem _)=>some (elem,c.size)|_=>none)=_;rw[Array.getElem?_push_size]
 simp only[markStringish,aA,run_shape,aP,a,run_freeze];congr 1;show World.freeze _ ⟨w.heap.size,arr.size,none⟩ 1=_;unfold World.freeze;rw[ai (by omega)];show World.mk ((w.heap.push (.cells arr e (0,0))).modify w.heap.size _) _ _ _ _=_;rw[J3];rfl
theorem qx(P:Program)(e:TypeId)(l:List UInt8)(w:World):∃(cap:Nat)(arr:Array Value),arr.size=cap/\l.length<=cap/\
  (∀(j:Nat)c,(l.map λb=>Value.int .u8 b.toNat)[j]? =some c->arr[j]? =some c)/\
  (Conv.stringToBytes e ⟨⟨l⟩⟩).run P w=.ok (.slice (some ⟨w.heap.size,0,none⟩) l.length cap)
    { w with drawn:=w.drawn+1,heap:=w.heap.push (.cells arr e (arr.size,arr.size+1)) }:=by
 let cap:=(Question.appendCap l.length 0 e).cut (w.tape w.drawn (.appendCap l.length 0 e))
 have a:l.length<=cap:=by show l.length<=l.length+_;omega
 refine⟨cap,(⟨l⟩:Array UInt8).map (λb=>Value.int .u8 b.toNat)++Array.replicate (cap-l.length) (.int .u8 0),by simp;omega,a,?_,?_⟩
 .grind
 have d:(ByteArray.mk ⟨l⟩).size=l.length:=rfl;unfold Conv.stringToBytes;rw[d];simp only[aA,run_choose];have f:(Question.appendCap l.length 0 e).forced=false:=rfl;simp only[f,dY,aQ,aP,fA];have:=run_mark P { w with drawn:=w.drawn+1 } ((⟨l⟩:Array UInt8).map (λb=>Value.int .u8 b.toNat)++Array.replicate (cap-l.length) (.int .u8 0)) e;exact(dX (λr=>Result.andThen r _) this).trans rfl
theorem Mr(t:Good C)(u:Rel C base E s w)(j dst e:TypeId)(l:List UInt8){d:TypeDesc}(A:C.P.underlying j=some d)(I:C.P.underlying dst=some (.slice e)):
  (HY C s e l).path (dM C base E s w ((VS (convert j dst (.string ⟨⟨l⟩⟩))).run C.P w)):=by
 refine R.bh _ (bY t e) λi V=>?_
 have c:=V.2.und;cases n:i.desc with
 |int k=>
  cases k with
  |u8=>
   rw[n]at c;show(bD (Nat.beq i.size 1) _>>=λ_=>R.ok (Nx.val (.np s.next 0 0 l.length 1) (s.new (.cells e (Tr.ofList (j8 l)) l.length 0 [] false true)))).path _;refine R.bh _ (R.aI _ _) λ_ v=>?_
   have o:i.size=1:=aL v;obtain⟨cap,arr,y,z,q,p⟩:=qx C.P e l w;have m:=Step.alloc (base:=base) u (.cells e (Tr.ofList (j8 l)) l.length 0 [] false true) (.cells arr e (arr.size,arr.size+1)) 0 cap
    (M:={ w with drawn:=w.drawn+1,heap:=w.heap.push (.cells arr e (arr.size,arr.size+1)) }) rfl rfl rfl rfl
    (by
      intro B r;have:=dZ (C:=C) (E:=E) V.1 (rs E l) (arr:=arr) (cp:=cap) (by rw[mV,o];omega) (by rw[o];omega) q w.heap.size 0 true arr.size (arr.size+1)
       (λoff a b=>.inr ⟨rfl,a⟩) (by omega) B r
      rw[mV]at this;exact this)
   refine⟨_,.slice (some ⟨w.heap.size,0,none⟩) l.length cap,_,?_,?_,m⟩
   .have:(convert j dst (.string ⟨⟨l⟩⟩)).run C.P w=(Conv.stringToBytes e ⟨⟨l⟩⟩).run C.P w:=by
      unfold convert;rw[aG A,aG I];have W:∀(f g h:Sem Value),((underlying e>>=λx=>match x with| .int .u8=>f| .int .i32=>g|_=>h):Sem Value).run C.P w=f.run C.P w:=by intro f g h;rw[aG c]
      cases d<;>exact W _ _ _
    simp only[VS,aA,this,p,aP,aY]
   .grind[ag]
  |_=>trivial
 |_=>trivial
theorem Mq(G:Good C)(H:Rel C base E s w)(c dst e:TypeId){x:SE}{st:ByteArray}(Y:aj E x=some (.val (.string st))){d:TypeDesc}(A:C.P.underlying c=some d)(I:C.P.underlying dst=some (.slice e)):
  (HX C s e x).path (dM C base E s w ((VS (convert c dst (.string st))).run C.P w)):=by
 refine R.bh _ (bY G e) λi V=>?_
 have a:=V.2.und;cases m:i.desc with
 |int k=>
  cases k with
  |u8=>
   rw[m]at a;show(bD (Nat.beq i.size 1&&kR (aq C e) [.int .u8]) _>>=λ_=>R.ok (Nx.val (.gR s.next (.a1 .len x) (.var (Nat.add s.next 1))) ⟨s.h.set s.next (.vec e (.a1 .sb x)),Nat.add (Nat.add s.next 1) 1,s.pc⟩)).path _;refine R.bh _ (R.aI _ _) λ_ n=>?_
   simp only[aw]at n;have u:i.size=1:=aL n.1;have y:=dF n.2;obtain⟨cap,arr,J,K,z,o⟩:=qx C.P e st.data.toList w;have p:aj E (.a1 .len x)=some (.val (.int .i64 (.ofNat st.data.toList.length))):=by simp only[aj,Y,aW,e1];rfl
   have q:aj E (.a1 .sb x)=some (.ls (aq C e) (ea st.data.toList)):=by grind[aj,e1]
   have r:=Step.alloc (base:=base) H (.vec e (.a1 .sb x)) (.cells arr e (arr.size,arr.size+1)) 0 cap
    (M:={ w with drawn:=w.drawn+1,heap:=w.heap.push (.cells arr e (arr.size,arr.size+1)) }) rfl rfl rfl rfl
    (λB n=>by
      refine⟨arr,arr.size,arr.size+1,ea st.data.toList,rfl,a7 n _ _ q,λj N F=>?_,⟨i,V.1,?_,?_,?_,0,by simp⟩,λoff h _=>.inr h,oG _⟩
      .show arr[0+j]? =_;rw[du];simp only[ea,ik,aN]at F;obtain⟨b,L,rfl⟩:=F;exact z j _ (by simp only[ik,L,bX];rfl)
      .show i.size=(aq C e).length;rw[u,y];rfl
      .grind[ea]
      .grind)
   have D:=Step.ghost r.rel (.val (.int .i64 (.ofNat cap))) (λ_=>rfl);have t:=r.trans D;refine⟨_,.slice (some ⟨w.heap.size,0,none⟩) st.data.toList.length cap,_,?_,?_,t⟩
   .have:(convert c dst (.string st)).run C.P w=(Conv.stringToBytes e ⟨⟨st.data.toList⟩⟩).run C.P w:=by
      unfold convert;rw[aG A,aG I];have W:∀(f g h:Sem Value),((underlying e>>=λx=>match x with| .int .u8=>f| .int .i32=>g|_=>h):Sem Value).run C.P w=f.run C.P w:=by intro f g h;rw[aG a]
      cases d<;>exact W _ _ _
    simp only[VS,aA,this,o,aP];rfl
   .have e0:s.next≠s.next+1:=by omega
    have a1:=a7 t.grow _ _ p;simp only[ag,bW];refine⟨⟨w.heap.size,0,cap,none⟩,?_,_,a1,.val (.int .i64 (.ofNat cap)),?_,?_⟩
    .exact(ai e0).trans (az trivial)
    .show((if s.next+1=s.next+1 then _ else _:Option Loc).bind λl=>l.v)=_;rw[az rfl];rfl
    .grind[mF]
  |_=>trivial
 |_=>trivial
theorem Eg{P:Program}:∀(l:List Dt)(acc:List UInt8)(w:World),(∀d∈l,∃n,d=.val (.int .u8 n))->∃bs,jq l=some bs/\
  (forIn (l.map Dt.v) (ByteArray.mk ⟨acc⟩) (λc s=>(match c with| .int .u8 n=>pure (ForInStep.yield (s.push (UInt8.ofNat n.toNat)))|_=>do{ stuck "bytesToString: byte expected";pure (ForInStep.yield s) }:Sem (ForInStep ByteArray)))).run P w=.ok (ByteArray.mk ⟨acc++bs⟩) w
 | [],acc,w,_=>⟨[],rfl,by simp⟩
 |d::l,acc,w,h=>by
  obtain⟨n,rfl⟩:=h d aV;obtain⟨bs,A,I⟩:=Eg l (acc++[UInt8.ofNat n.toNat]) w λx Y=>h x (bk _ Y)
  refine⟨UInt8.ofNat n.toNat::bs,by simp only[jq,A,bX],?_⟩;simp only[mD,Dt.v,List.forIn_cons,aA,aY,aP,AQ];rw[show acc++UInt8.ofNat n.toNat::bs=acc++[UInt8.ofNat n.toNat]++bs by simp];exact I
theorem Mp(S:Good C)(z:Rel C base E s w)(m dst e:TypeId){b:Nat}{n c:SE}{M:Value}(Y:ag E (.gR b n c)=some M)(A:C.P.underlying m=some (.slice e))(I:C.P.underlying dst=some .string):
  (HW C s e b n).path (dM C base E s w ((VS (convert m dst M)).run C.P w)):=by
 obtain⟨F,k,q,T,B,U,Z,hq,rfl⟩:=gH Y;refine R.bh _ (bY S e) λi V=>?_
 have a:=V.2.und;cases p:i.desc with
 |int W=>
  cases W with
  |u8=>
   rw[p]at a;show(match s.h.get b with|some (.vec el v)=>_|_=>_:R Nx).path _;cases X:s.h.get b with
   |none=>trivial
   |some x0=>
    cases x0 with
    |vec el v=>
     obtain⟨O,o,N,q2,vs,lo,K,J,rfl,g1,g2,⟨i',g3,g4,g5,g6,g7⟩,g8,g9⟩:=z.ay b _ X;rw[T]at N;obtain rfl:=ae N;refine R.bh _ (R.aI _ _) λ_ Q=>?_
     simp only[aw]at Q;obtain⟨e1',D,G⟩:=Q;obtain rfl:=aL D;have H:=dF G;refine R.ew z λhn=>?_
     have hbd:k<=J.length:=by
      rcases cV J.length k with h|h
      .exact absurd ⟨_,_,_,rfl,λhh=>absurd hh.2 (by simp only[cq,tQ];omega)⟩ (h4 hn (vU g1 B))
      .exact h
     have t:aj E (.a2 (.tk 1) v n)=some (.ls (aq C el) (J.take k)):=by grind[aj,e2]
     have u:∀d∈J.take k,∃n,d=.val (.int .u8 n):=by intro d hd;obtain⟨j,hj⟩:=zW hd;have g:=eh z.rd _ _ t;have:=(Dt.bG.get (show Dt.bG C w _ (aq C el) 0 (J.take k)from g) hj).1;rw[H]at this;obtain⟨kd,x,hf⟩:=this;simp only[bZ,dv,du,rI,cr,ar]at x;subst x;exact hf
     obtain⟨bs,L,y⟩:=Eg (P:=C.P) (J.take k) [] w u;refine dV z (c:=.string ⟨⟨bs⟩⟩) ?_ (dn (d:=.val (.string ⟨⟨bs⟩⟩)) (by
      show((aj E (.a2 (.tk 1) v n)).bind (e1 .bs))=_;rw[t];simp only[aW,e1,L,bX]) ⟨_,rfl⟩ rfl)
     unfold convert;rw[aG A,aG I];simp only;rw[aG a];simp only[Conv.bytesToString];have l:(loadCells ⟨F.ay,F.dl,none⟩ k).run C.P w=.ok ⟨(J.take k).map Dt.v⟩ w:=by grind[dK,List.length_map,List.length_take,World.cell?]
     simp only[aA,l,aP];refine(dX (λr=>Result.andThen r _) (?_:_=Result.ok (ByteArray.mk ⟨bs⟩) w)).trans rfl;have e:∀(f:Value->ByteArray->Sem (ForInStep ByteArray)),forIn (⟨(J.take k).map Dt.v⟩:Array Value) ByteArray.empty f=forIn ((J.take k).map Dt.v) (ByteArray.mk ⟨[]⟩) f:=by intro f;simp;rfl
     rw[e];exact y
    |_=>trivial
  |_=>trivial
 |_=>trivial
theorem Y1(o:Good C)(j:Rel C base E s w)(z:aD E nt t a.tmps)(g dst:TypeId)(x:Operand)(rt:TypeId):
  (x7 g dst x rt C t s).path (dM C base E s w ((VS (convert g dst (a.eval x))).run C.P w)):=by
 refine R.bh _ (bf j z x) λv m=>?_
 refine R.bh _ (bw o g) λp h=>?_
 refine R.bh _ (bw o dst) λB i=>?_
 cases B with
 |int k=>
  cases v with
  |int k' n=>simp only[ag,ar]at m;rw[<-m];refine dV j (c:=.int k (k.wrap n)) ?_ rfl;unfold convert;rw[aG h,aG i];cases p<;>rfl
  |bS q e=>
   cases q<;>first|exact R.aJ _ _|skip
   rename_i k';obtain⟨d,A,⟨n,rfl⟩,W⟩:=c7 m;rw[W];refine dV j (c:=.int k (k.wrap n)) ?_ ?_
   rotate_left
   .split
    .next y=>
     simp only[aw]at y;obtain⟨D,F,G⟩:=y;obtain rfl:=dP D;obtain⟨a,g1,g2,g3⟩:=Kn (E:=E) (λf H=>(j.pc f H).2) G;rw[A]at g1;have g1:=ae g1;injection g1 with g1;injection g1 with _ g1;subst g1;rw[wrap64 (by omega) (by omega)];rw[dP F]at A;exact dn (d:=.val (.int .i64 n)) A ⟨_,rfl⟩ rfl
    .exact dn (d:=.val (.int k (k.wrap n))) (by simp only[aj,A,aW,e1]) ⟨_,rfl⟩ rfl
   unfold convert;rw[aG h,aG i];cases p<;>rfl
  |_=>trivial
 |string=>
  have other:(∀l,v≠.str l)->(match p with| .slice e=>sH C s e v|_=>R.bad "conv to string").path (dM C base E s w ((VS (convert g dst (a.eval x))).run C.P w)):=by
   intro r;cases p with
   |slice e=>exact GQ o j g dst e v _ m h i r
   |_=>trivial
  cases v with
  |str _|int _ _|bS _ _=>exact R.aJ _ _
  |gR b n c=>
   cases p with
   |slice e=>exact Mp o j g dst e m h i
   |_=>trivial
  |_=>exact other (λl=>by simp)
 |slice e=>
  cases v with
  |str l=>simp only[ag,ar]at m;rw[<-m];exact Mr o j g dst e l h i
  |bS q ex=>
   cases q<;>first|exact R.aJ _ _|skip
   obtain⟨d,A,⟨st,rfl⟩,W⟩:=c7 m;rw[W];exact Mq o j g dst e A h i
  |_=>trivial
 |unsafePointer=>
  cases p with
  |pointer u=>exact B3 o j g dst u v _ m (.inl ⟨h,i⟩)
  |_=>trivial
 |pointer u=>
  cases p with
  |unsafePointer=>exact B3 o j g dst u v _ m (.inr ⟨h,i⟩)
  |_=>trivial
 |_=>trivial
end
end Go.Proofs.YtokipodjggomfaaGreatDoor.Abs
