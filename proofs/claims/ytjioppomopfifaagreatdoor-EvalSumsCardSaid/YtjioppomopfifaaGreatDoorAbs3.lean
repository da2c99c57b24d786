/- The proofs of the abstract machine's operations on memory and maps. Conditions: those of each theorem. -/
import Derived.Test.YtjioppomopfifaaGreatDoorAbs2
namespace Go.Proofs.YtjioppomopfifaaGreatDoor.Abs
open Go
section
variable {C:Ctx} {base:Nat} {γ:G} {s:S} {w:World} {nt:Nat} {t:Tr AV} {a:Act}
theorem vT (v:AV) (c:Value) (hv:aA γ v=some c):v.cells.path (fun l=>aG γ l=some c.cells.toList):=by
 cases v with
 |agg cs=>
  simp only [aA,Option.map_eq_some_iff] at hv
  obtain ⟨r,hr,rfl⟩:=hv
  exact hr
 |junk=>trivial
 |raw u=>
  simp only [aA,Option.some.injEq] at hv;subst hv
  cases u<;>first|trivial| (show aG γ _=_;simp [aG,aA,Value.cells])
 |opq k i=>
  have h1:=QY hv
  cases c<;>first| (cases h1;done)| (show aG γ [_]=_;rw [aP];exact ⟨_,[],hv,rfl,rfl⟩)
 |rE b n c'=>
  have hv':=hv
  obtain ⟨_,_,_,_,_,_,_,_,rfl⟩:=gZ hv
  show aG γ [_]=_
  rw [aP];exact ⟨_,[],hv',rfl,rfl⟩
 |lu b i sz k=>
  have hv':=hv
  obtain ⟨_,_,_,_,_,_,rfl⟩:=iC hv
  show aG γ [_]=_
  rw [aP];exact ⟨_,[],hv',rfl,rfl⟩
 |fn f l1 l2=>
  have hv':=hv
  simp only [aA] at hv
  cases hn:gV f<;>cases h1:aG γ l1<;>cases h2:aG γ l2<;>simp only [hn,h1,h2,reduceCtorEq,Option.some.injEq] at hv
  subst hv
  show aG γ [_]=_
  rw [aP];exact ⟨_,[],hv',rfl,rfl⟩
 |_=>
  have hv':=hv
  simp only [aA,Option.map_eq_some_iff,Option.some.injEq] at hv
  first
   | (subst hv;show aG γ [_]=_;rw [aP];exact ⟨_,[],hv',rfl,rfl⟩)
   | (obtain ⟨l,hl,rfl⟩:=hv;show aG γ [_]=_;rw [aP];exact ⟨_,[],hv',rfl,rfl⟩)
theorem a8E (hC:Good C) (hR:Rel C base γ s w) (ht:bn γ nt t a.tmps) (ty:TypeId) (x:Operand) (rt:TypeId):
  (JK ty x rt C t s).path (fF C base γ s w ((VS (Instr.loadAt ty (a.eval x))).run C.P w)):=by
 refine R.bH _ (bI hR ht x) fun v hv=> ?_
 refine R.bH _ (KW hC hR ty v _ hv) fun u hu=> ?_
 obtain ⟨ad,c,hl, -,hc,hrun⟩:=hu
 refine dR hR (c:=c) ?_ hc
 rw [hl]
 simp only [Instr.loadAt,Instr.sureAddr,pure_bind]
 exact hrun
theorem a3C {v:AV} {c:Value} (h:abp v=true) (hv:aA γ v=some c):c.oneCell'=true:=by
 cases v with
 |opq k i=>
  have h1:=QY hv
  cases c<;>first| (cases h1;done)|rfl
 |fn f l1 l2=>
  simp only [aA] at hv
  cases hn:gV f<;>cases h1:aG γ l1<;>cases h2:aG γ l2<;>simp only [hn,h1,h2,reduceCtorEq,Option.some.injEq] at hv
  subst hv;rfl
 |agg _|ou _|junk=>cases h
 |rE b n c'=>obtain ⟨_,_,_,_,_,_,_,_,rfl⟩:=gZ hv;rfl
 |lu b i sz k=>obtain ⟨_,_,_,_,_,_,rfl⟩:=iC hv;rfl
 |raw u=>
  simp only [aA,Option.some.injEq] at hv;subst hv
  cases u<;>first|rfl|cases h
 |_=>
  simp only [aA,Option.map_eq_some_iff,Option.some.injEq] at hv
  first
   | (subst hv;rfl)
   | (obtain ⟨l,hl,rfl⟩:=hv;rfl)
theorem lX:∀{l:List AV} {r:List Value},oh l=true→aG γ l=some r→∀c∈r,c.oneCell'=true
 | [],r,_,hr,c,hc=>by simp [aG] at hr;subst hr;simp at hc
 |v::l,r,h,hr,c,hc=>by
  obtain ⟨x,y,hx,hy,rfl⟩:=aP.1 hr
  unfold oh at h
  cases ho:abp v
  ·rw [ho] at h;cases h
  ·rw [ho] at h
   rcases List.mem_cons.1 hc with rfl|hc
   ·exact a3C ho hx
   ·exact lX h hy c hc
theorem Po {v:Value} (h:v.oneCell'=true):(∀q,v≠.agg q)∧(∀q,v≠.tuple q):=by
 constructor
 ·rintro q rfl;cases h
 ·rintro q rfl;cases h
def jW:Array Value→Nat→List Value→Array Value
 |arr,_,[]=>arr
 |arr,i,v::l=>jW (arr.setIfInBounds i v) (i+1) l
theorem eH:∀(l:List Value) (arr:Array Value) (i:Nat),(jW arr i l).size=arr.size
 | [],_,_=>rfl
 |v::l,arr,i=>by rw [jW,eH l];simp
theorem jV:∀(l:List Value) (arr:Array Value) (i j:Nat),i+l.length≤arr.size→
  (jW arr i l)[j]? =if i≤j∧j < i+l.length then l[j - i]? else arr[j]?
 | [],arr,i,j,_=>by rw [if_neg (by simp only [List.length_nil];omega)];rfl
 |v::l,arr,i,j,h=>by
  simp only [List.length_cons] at h
  rw [jW,jV l _ _ _ (by simp;omega)]
  by_cases h1:i+1≤j∧j < i+1+l.length
  ·rw [if_pos h1,if_pos (by simp only [List.length_cons];omega)]
   rw [show j - i=(j - (i+1))+1 by omega];simp
  ·rw [if_neg h1]
   by_cases h2:i=j
   ·subst h2
    rw [if_pos (by simp only [List.length_cons];omega)]
    simp [Array.getElem?_setIfInBounds];omega
   ·rw [if_neg (by simp only [List.length_cons];omega)]
    simp [h2]
theorem jk {P:Program} (blk:Nat) (elem:TypeId) (lo hi:Nat):∀(vs:List Value) (o i:Nat) (arr:Array Value) (w:World),
  w.heap[blk]? =some (.cells arr elem (lo,hi))→o+i+vs.length≤arr.size→(∀v∈vs,v.oneCell'=true)→(∀off,o+i≤off→off < o+i+vs.length→¬ (lo≤off∧off < hi))→
  (storeCells ⟨blk,o,none⟩ vs i).run P w=.ok () { w with heap:=w.heap.setIfInBounds blk (.cells (jW arr (o+i) vs) elem (lo,hi)) }
 | [],o,i,arr,w,hw,_,_,_=>by
   have hlt:blk < w.heap.size:=by
    rcases Nat.lt_or_ge blk w.heap.size with h|h
    ·exact h
    ·rw [Array.getElem?_eq_none h] at hw;cases hw
   have:w.heap.setIfInBounds blk (.cells (jW arr (o+i) []) elem (lo,hi))=w.heap:=by
    apply Array.ext_getElem?
    intro k
    rw [Array.getElem?_setIfInBounds]
    by_cases h:blk=k
    ·subst h;simp only [hlt,if_true];exact hw.symm
    ·simp [h]
   rw [this];rfl
 |v::vs,o,i,arr,w,hw,hlen,hone,hfr=>by
  simp only [List.length_cons] at hlen hfr
  have hcell:w.cell? ⟨blk,o+i,none⟩=arr[o+i]? :=by simp [World.cell?,hw]
  have hin:o+i < arr.size:=by omega
  have hc:w.cell? ⟨blk,o+i,none⟩=some arr[o+i]:=by rw [hcell];exact Array.getElem?_eq_getElem hin
  have hf:w.frozen? ⟨blk,o+i,none⟩=false:=by
   have:=hfr (o+i) (by omega) (by omega)
   simp only [World.frozen?,hw]
   simpa using this
  have hlt:blk < w.heap.size:=by
   rcases Nat.lt_or_ge blk w.heap.size with h|h
   ·exact h
   ·rw [Array.getElem?_eq_none h] at hw;cases hw
  have h1:=Po (hone v (by simp))
  have hst:(store ⟨blk,o+i,none⟩ v).run P w=.ok () (w.setCell ⟨blk,o+i,none⟩ v):=by
   unfold store
   cases v<;>first|exact absurd rfl (h1.1 _)|exact absurd rfl (h1.2 _)| (simp only [Sem.run,hc,hf];rfl)
  have hset:w.setCell ⟨blk,o+i,none⟩ v={ w with heap:=w.heap.setIfInBounds blk (.cells (arr.setIfInBounds (o+i) v) elem (lo,hi)) }:=by
   unfold World.setCell
   congr 1
   apply Array.ext_getElem?
   intro k
   rw [Array.getElem?_modify,Array.getElem?_setIfInBounds]
   by_cases h:blk=k
   ·subst h
    have hw2:w.heap[blk]=.cells arr elem (lo,hi):=by
     rw [Array.getElem?_eq_getElem hlt] at hw;exact Option.some.inj hw
    simp [hlt,hw2]
   ·simp [h]
  unfold storeCells
  rw [Sem.run_bind,addr_add,hst,Result.andThen_ok,hset]
  have hw':({ w with heap:=w.heap.setIfInBounds blk (.cells (arr.setIfInBounds (o+i) v) elem (lo,hi)) }:World).heap[blk]? =some (.cells (arr.setIfInBounds (o+i) v) elem (lo,hi)):=by
   simp [hlt]
  rw [jk blk elem lo hi vs o (i+1) _ _ hw' (by simp;omega) (fun x hx=>hone x (by simp [hx])) (fun off h1 h2=>hfr off (by omega) (by omega))]
  congr 2
  show (w.heap.setIfInBounds blk _).setIfInBounds blk _=w.heap.setIfInBounds blk _
  apply Array.ext_getElem?
  intro k
  simp only [Array.getElem?_setIfInBounds,Array.size_setIfInBounds]
  by_cases h:blk=k
  ·subst h;simp [hlt,jW];rfl
  ·simp [h]
theorem F6:∀(l:List Nat) (h:Tr jc) (i:Nat),(qN l h).get i=if i∈l then none else h.get i
 | [],h,i=>by simp [qN]
 |a::l,h,i=>by
  show (qN l (h.del a)).get i=_
  rw [F6 l]
  by_cases h1:i∈l
  ·simp [h1]
  ·rw [if_neg h1,Tr.Ai]
   by_cases h2:a=i
   ·subst h2;simp
   ·have:i≠a:=Ne.symm h2
    simp [h1,h2,this]
theorem jH (hR:Rel C base γ s w) (b off:Nat) (vs:List AV) (cs:List Value) (hcs:aG γ vs=some cs) (lc:Loc) (hl:γ b=some lc):
  (jy s b off vs).path (fun s'=>∃w',(storeCells ⟨lc.blk,lc.dl+off,none⟩ cs).run C.P w=.ok () w'∧Step C base γ s w γ s' w'):=by
 unfold jy
 cases vs with
 |nil=>
  simp only [aG,Option.some.injEq] at hcs;subst hcs
  exact ⟨w,rfl,Step.refl hR⟩
 |cons v vs'=>
  simp only
  cases hb:s.h.get b with
  |none=>trivial
  |some x=>
   cases x with
   |cells elem cells n fz jX st sg=>
    simp only
    cases hg:(!st && Nat.ble (Nat.add off (v::vs').length) n && Nat.ble fz off && oh (v::vs')) with
    |false=>trivial
    |true=>
     simp only [Bool.and_eq_true,Bool.not_eq_true'] at hg
     obtain ⟨⟨⟨hst,hle⟩,hfz⟩,hone⟩:=hg
     have hle':off+(v::vs').length≤n:=Nat.le_of_ble_eq_true hle
     have hfz':fz≤off:=Nat.le_of_ble_eq_true hfz
     subst hst
     obtain ⟨l',o,h1,h2,arr,lo,hi,rfl,g1,g2,g3,g4,glh⟩:=hR.blk b _ hb
     rw [hl] at h1;obtain rfl:=Option.some.inj h1
     have hlen:=bT hcs
     have hrun:=jk (P:=C.P) lc.blk elem lo hi cs (lc.dl+off) 0 arr w h2 (by omega) (lX hone hcs) (by
      intro q hq1 hq2 hq
      rcases g4 rfl q hq.1 hq.2 with h| ⟨_,h⟩<;>omega)
     have hlt:lc.blk < w.heap.size:=by
      rcases Nat.lt_or_ge lc.blk w.heap.size with h|h
      ·exact h
      ·rw [Array.getElem?_eq_none h] at h2;cases h2
     refine ⟨_,hrun, ?_⟩
     have hget:∀i x,i≠b→((qN jX s.h).set b (.cells elem (Tr.pz (v::vs') off cells) n fz [] false sg)).get i=some x→s.h.get i=some x∧i ∉ jX:=by
      intro i x hi hx
      rw [Tr.get_set_other _ _ (Ne.symm hi),F6] at hx
      split at hx
      ·cases hx
      ·next h=>exact ⟨hx,h⟩
     have sV:∀i x li,i≠b→((qN jX s.h).set b (.cells elem (Tr.pz (v::vs') off cells) n fz [] false sg)).get i=some x→γ i=some li→li.blk=lc.blk→False:=by
      intro i x li hi hx MP hbl
      obtain ⟨hx1,hx2⟩:=hget i x hi hx
      rcases hR.sep i b x _ li lc hx1 hb MP hl hi hbl with h|h
      ·cases x<;>simp [iR] at h
      ·cases x<;>simp [iR] at h
       exact hx2 h.1
     have hrel:Rel C base γ ⟨(qN jX s.h).set b (.cells elem (Tr.pz (v::vs') off cells) n fz [] false sg),s.next,s.pc⟩
       { w with heap:=w.heap.setIfInBounds lc.blk (.cells (jW arr (lc.dl+off+0) cs) elem (lo,hi)) }:=by
      refine hR.Fe hb hl hl ⟨rfl,rfl,rfl⟩ rfl (fun _ _=>rfl) (fun i x hi hx=>(hget i x hi hx).1) (Tr.get_set_same _ _ _)
       (o':=.cells (jW arr (lc.dl+off+0) cs) elem (lo,hi)) ?_ ?_ (by simp) ?_ (fun i x li hi hx h3 h4=>(sV i x li hi hx h3 h4).elim) (fun i x li hi hx h3 h4=>(sV i x li hi hx h3 h4).elim)
      ·intro k hk
       simp [Ne.symm hk]
      ·simp [hlt]
      ·refine ⟨_,lo,hi,rfl,by rw [eH];exact g1, ?_, ?_, ?_,glh⟩
       ·intro i u hin hu
        rw [Tr.Df] at hu
        by_cases hr:off≤i∧i < off+(v::vs').length
        ·rw [if_pos hr] at hu
         obtain ⟨c,hc,hcc⟩:=oP _ _ hcs hu
         refine ⟨c, ?_,.inr hc⟩
         rw [jV _ _ _ _ (by omega),if_pos (by omega)]
         rw [show lc.dl+i - (lc.dl+off+0)=i - off by omega];exact hcc
        ·rw [if_neg hr] at hu
         obtain ⟨c,hc,hcc⟩:=g2 i u hin hu
         refine ⟨c, ?_,hcc⟩
         rw [jV _ _ _ _ (by omega),if_neg (by omega)];exact hc
       ·rw [eH];exact g3
       ·rw [eH];exact g4
     refine Step.of ⟨Grow.refl γ,hrel,⟨by simp,rfl,rfl,rfl, ?_⟩, ?_,Nat.le_refl _,fun _ _ h=>hR.lt h,fun _ l h=>.inl ⟨l,h⟩, ?_⟩
     ·intro k ob hk hn
      have:k≠lc.blk:=fun h=>hn ⟨b,_,lc,hb,rfl,hl,h.symm⟩
      simp [Ne.symm this,hk]
     ·rintro k ⟨i,x,li,h3,h4,h5,h6⟩ _
      by_cases hi:i=b
      ·subst hi
       rw [hl] at h5;obtain rfl:=Option.some.inj h5
       exact ⟨i,_,lc,hb,rfl,hl,h6⟩
      ·exact ⟨i,x,li,(hget i x hi h3).1,h4,h5,h6⟩
     ·intro i x h3 _
      by_cases hi:i=b
      ·subst hi;exact ⟨_,hb⟩
      ·exact ⟨x,(hget i x hi h3).1⟩
   |_=>trivial
def zo (γ:G) (ks:List Kd):Nat→List SE→List Dt→Prop
 |_,[],[]=>True
 |p,x::xs,d::ds=>aO γ x=some d∧(∃q,ks[p % ks.length]? =some q∧q.fits d)∧zo γ ks (p+1) xs ds
 |_,_,_=>False
theorem Jl {ks:List Kd}:∀{p:Nat} {xs:List SE} {ds:List Dt},zo γ ks p xs ds→xs.length=ds.length
 |_,[],[],_=>rfl
 |_,_::_,_::_,h=>by simp [Jl h.2.2]
 |_,[],_::_,h=>h.elim
 |_,_::_,[],h=>h.elim
theorem EP {ks:List Kd} {x:SE} {d:Dt}:∀{p:Nat} {xs:List SE} {ds:List Dt},zo γ ks p xs ds→aO γ x=some d→(∃q,ks[(p+ds.length) % ks.length]? =some q∧q.fits d)→zo γ ks p (xs++[x]) (ds++[d])
 |p,[],[],_,h1,h2=>⟨h1,h2,trivial⟩
 |p,_::_,_::ds,h,h1,h2=>⟨h.1,h.2.1,EP h.2.2 h1 (by rw [show p+1+ds.length=p+(ds.length+1) by omega];exact h2)⟩
 |_,[],_::_,h,_,_=>h.elim
 |_,_::_,[],h,_,_=>h.elim
theorem TN {ks:List Kd}:∀(y:SE) (acc:List SE) (es:List Dt),aO γ y=some (.ls ks es)→
  ∃(pre:List SE) (es0 ds:List Dt),(wS y acc).2=pre++acc∧aO γ (wS y acc).1=some (.ls ks es0)∧es=es0++ds∧zo γ ks es0.length pre ds
 | .var _,_,es,h| .int _ _,_,es,h| .bool _,_,es,h| .str _,_,es,h| .a1 _ _,_,es,h| .a3 _ _ _ _,_,es,h=>⟨[],es,[],rfl,h,by simp,trivial⟩
 | .a2 o x y,acc,es,h=>by
   by_cases ho:o=.sn
   ·subst ho
    simp only [aO,Option.bind_eq_some_iff] at h
    obtain ⟨u,hu,d,hd,h⟩:=h
    simp only [e2] at h
    cases u<;>first| (cases h;done)|skip
    rename_i ks' es1
    simp only at h
    split at h
    ·next hk=>
     have h:=Option.some.inj h
     injection h with h1 h2
     subst h1;subst h2
     obtain ⟨pre,es0,ds,g1,g2,g3,g4⟩:=TN x (y::acc) es1 hu
     refine ⟨pre++[y],es0,ds++[d], ?_,g2,by rw [g3,List.append_assoc],EP g4 hd ?_⟩
     ·show (wS x (y::acc)).2=_
      rw [g1];simp
     ·rw [g3,List.length_append] at hk
      exact hk
    ·cases h
   ·have e:wS (.a2 o x y) acc=(.a2 o x y,acc):=by
      cases o<;>first|rfl|exact absurd rfl ho
    rw [e]
    exact ⟨[],es,[],rfl,h,by simp,trivial⟩
theorem YV {ks0:List Kd}:∀(xs:List SE) (ks:List Kd) (p0:Nat) (ds:List Dt),zo γ ks0 p0 xs ds→(∃p,ks=ks0.drop p∧p≤ks0.length∧p0 % ks0.length=p % ks0.length)→
  aG γ (yD ks0 xs ks)=some (ds.map Dt.v)
 | [],_,_,[],_,_=>rfl
 |x::xs,ks,p0,d::ds,h,⟨p,hp,hle,hmod⟩=>by
  obtain ⟨h1,⟨q0,h2,h3⟩,h4⟩:=h
  have step:∀(q:Kd) (ks':List Kd) (p':Nat),ks0[p0 % ks0.length]? =some q→ks'=ks0.drop p'→p'≤ks0.length→(p0+1) % ks0.length=p' % ks0.length→aG γ (.opq q x::yD ks0 xs ks')=some ((d::ds).map Dt.v):=by
   intro q ks' p' hq hk' hle' hm
   rw [hq] at h2
   obtain rfl:=Option.some.inj h2
   exact aP.2 ⟨d.v,ds.map Dt.v,gG h1 h3 rfl,YV xs ks' (p0+1) ds h4 ⟨p',hk',hle',hm⟩,rfl⟩
  cases ks with
  |nil=>
   have hpl:p=ks0.length:=by
    have:=congrArg List.length hp
    simp only [List.length_nil,List.length_drop] at this
    omega
   cases ks0 with
   |nil=>simp at h2
   |cons q ks'=>
    have h0:p0 % (q::ks').length=0:=by rw [hmod,hpl,Nat.mod_self]
    refine step q ks' 1 (by rw [h0];rfl) rfl (by simp) ?_
    rw [Nat.add_mod,h0,Nat.zero_add,Nat.mod_mod]
  |cons q ks'=>
   have hlt:p < ks0.length:=by
    rcases Nat.lt_or_ge p ks0.length with h'|h'
    ·exact h'
    ·rw [List.drop_eq_nil_of_le h'] at hp;cases hp
   have hd:=List.drop_eq_getElem_cons hlt
   rw [←hp] at hd
   injection hd with hd1 hd2
   have hm0:p0 % ks0.length=p:=by rw [hmod,Nat.mod_eq_of_lt hlt]
   refine step q ks' (p+1) (by rw [hm0,List.getElem?_eq_getElem hlt,hd1]) hd2 hlt ?_
   rw [Nat.add_mod,hm0,Nat.add_mod p 1,Nat.mod_eq_of_lt hlt]
 | [],_,_,_::_,h,_=>h.elim
 |_::_,_,_,[],h,_=>h.elim
theorem a3f {e:SE} {p:Nat×SE} (h:a4F e=some p):∃x,e=.a2 (.tk p.1) x p.2:=by
 unfold a4F at h
 cases e<;>first| (cases h;done)|skip
 rename_i o x y
 cases o<;>first| (cases h;done)|skip
 obtain rfl:=Option.some.inj h
 exact ⟨x,rfl⟩
theorem Gp {ks:List Kd} {sz:Nat} {i:SE} {kd:IntKind} {q:Nat} (hsz:ks.length=sz) (hi:aO γ i=some (.val (.int kd (.ofNat q)))):∀(l:List AV) (k:Nat) (e y':SE) (es:List Dt) (cs:List Value),
  aG γ l=some cs→aO γ e=some (.ls ks es)→q * sz+sz≤es.length→k+l.length≤sz→Gq C ks sz i l k e=some y'→
  ∃es',aO γ y'=some (.ls ks es')∧es'.length=es.length∧∀j,(es'[j]?).map Dt.v=if q * sz+k≤j∧j < q * sz+k+cs.length then cs[j - (q * sz+k)]? else (es[j]?).map Dt.v
 | [],k,e,y',es,cs,hcs,he,_,_,h=>by
   simp only [aG,Option.some.injEq] at hcs
   subst hcs
   obtain rfl:=Option.some.inj h
   exact ⟨es,he,rfl,fun j=>by rw [if_neg (by simp only [List.length_nil];omega)]⟩
 |v::l,k,e,y',es,cs,hcs,he,h1,h2,h=>by
  obtain ⟨cv,cl,g1,g2,rfl⟩:=aP.1 hcs
  simp only [List.length_cons] at h2
  simp only [Gq] at h
  rw [pY] at h
  cases hk:ks[k]? with
  |none=>rw [hk] at h;cases h
  |some kq=>
   rw [hk] at h
   simp only at h
   cases hx:seK C kq v with
   |none=>rw [hx] at h;cases h
   |some x=>
    rw [hx] at h
    simp only at h
    obtain ⟨d,d1,d2,d3⟩:=Yt hx g1
    have hmod:(q * sz+k) % ks.length=k:=by rw [hsz,Nat.mul_comm,Nat.mul_add_mod,Nat.mod_eq_of_lt (by omega)]
    have hup:aO γ (.a3 (.up sz k) e i x)=some (.ls ks (es.set (q * sz+k) d)):=by
     simp only [aO,he,hi,d1,Option.bind_some,e3]
     rw [if_pos ⟨by omega,kq,by rw [hmod];exact hk,d2⟩]
    obtain ⟨es',r1,r2,r3⟩:=Gp hsz hi l (k+1) _ y' (es.set (q * sz+k) d) cl g2 hup (by rw [List.length_set];exact h1) (by omega) h
    refine ⟨es',r1,by rw [r2,List.length_set],fun j=> ?_⟩
    rw [r3 j]
    simp only [List.length_cons]
    by_cases e1:j=q * sz+k
    ·subst e1
     rw [if_neg (by omega),if_pos (by omega),List.getElem?_set,if_pos rfl,if_pos (by omega),Nat.sub_self]
     simp [d3]
    ·by_cases e2:q * sz+(k+1)≤j∧j < q * sz+(k+1)+cl.length
     ·rw [if_pos e2,if_pos (by omega),show j - (q * sz+k)=(j - (q * sz+(k+1)))+1 by omega]
      simp
     ·rw [if_neg e2,if_neg (by omega),List.getElem?_set,if_neg (Ne.symm e1)]
theorem G6 (hR:Rel C base γ s w) (b:Nat) (i:SE) (sz k:Nat) (c:List AV) (cs:List Value) (hcs:aG γ c=some cs) {lc:Loc} (hl:γ b=some lc) {kd:IntKind} {q:Nat} (hi:aO γ i=some (.val (.int kd (.ofNat q)))):
  (DT C s b i sz k c).path (fun s'=>∃w',(storeCells ⟨lc.blk,lc.dl+(q * sz+k),none⟩ cs).run C.P w=.ok () w'∧Step C base γ s w γ s' w'):=by
 unfold DT
 cases hb:s.h.get b with
 |none=>exact R.bF _ _
 |some x0=>
  cases x0 with
  |vec el y=>
   simp only
   obtain ⟨l',o,h1,h2,vs,lo,hi',es,rfl,g1,g2,⟨ii,g3,g4,g5,g6,g7⟩,g8,g9⟩:=hR.blk b _ hb
   rw [hl] at h1;obtain rfl:=Option.some.inj h1
   cases hg:(Nat.beq sz (aJ C el).length && (!Nat.beq sz 0 && (Nat.ble (Nat.add k c.length) sz && oh c))) with
   |false=>exact R.bF _ _
   |true=>
    simp only [Bool.and_eq_true,Bool.not_eq_true'] at hg
    obtain ⟨q3,q4,q5,q6⟩:=hg
    have q3:=Nat.eq_of_beq_eq_true q3
    have q5:k+c.length≤sz:=Nat.le_of_ble_eq_true q5
    simp only
    cases hy:Gq C (aJ C el) sz i c k y with
    |none=>exact R.bF _ _
    |some y'=>
     simp only
     refine R.gu hR fun hn=> ?_
     have hbd:q * sz+sz≤es.length:=by
      rcases Classical.em (q * sz+sz≤es.length) with h|h
      ·exact h
      ·exact absurd ⟨_,_,_,_,rfl,fun hh=>h hh.2⟩ (iV hn (sJ g1 hi))
     obtain ⟨es',r1,r2,r3⟩:=Gp (C:=C) (γ:=γ) q3.symm hi c k y y' es cs hcs g1 hbd q5 hy
     have hcl:=bT hcs
     have hrun:=jk (P:=C.P) lc.blk el lo hi' cs (lc.dl+(q * sz+k)) 0 vs w h2 (by omega) (lX q6 hcs) (by
      intro z hz1 hz2 hz
      have:=g8 z hz.1 hz.2
      omega)
     have hlt:lc.blk < w.heap.size:=by
      rcases Nat.lt_or_ge lc.blk w.heap.size with h|h
      ·exact h
      ·rw [Array.getElem?_eq_none h] at h2;cases h2
     refine ⟨_,hrun, ?_⟩
     have hno:∀i' x' li,i'≠b→s.h.get i'=some x'→γ i'=some li→li.blk=lc.blk→False:=by
      intro i' x' li hne hx' hli hbl
      rcases hR.sep i' b x' _ li lc hx' hb hli hl hne hbl with h'|h'
      ·cases x'<;>simp [iR] at h'
      ·simp [iR] at h'
     have hget:∀i' x',i'≠b→(s.h.set b (.vec el y')).get i'=some x'→s.h.get i'=some x':=by
      intro i' x' hne hx'
      rwa [Tr.get_set_other _ _ (Ne.symm hne)] at hx'
     have hrel:Rel C base γ ⟨s.h.set b (.vec el y'),s.next,s.pc⟩ { w with heap:=w.heap.setIfInBounds lc.blk (.cells (jW vs (lc.dl+(q * sz+k)+0) cs) el (lo,hi')) }:=by
      refine hR.Fe hb hl hl ⟨rfl,rfl,rfl⟩ rfl (fun _ _=>rfl) hget (Tr.get_set_same _ _ _) (o':=.cells (jW vs (lc.dl+(q * sz+k)+0) cs) el (lo,hi')) (fun k' hk'=>by simp [Ne.symm hk']) (by simp [hlt]) (by simp) ?_
       (fun i' x' li hne hx' h3 h4=>(hno i' x' li hne (hget i' x' hne hx') h3 h4).elim) (fun i' x' li hne hx' h3 h4=>(hno i' x' li hne (hget i' x' hne hx') h3 h4).elim)
      refine ⟨_,lo,hi',es',rfl,r1,fun j d hj=> ?_,⟨ii,g3,g4,by rw [r2];exact g5,by rw [eH];exact g6,g7⟩,(fun off a b=>by rw [eH];exact g8 off a b),g9⟩
      have hv:=r3 j
      rw [hj] at hv
      rw [jV _ _ _ _ (by omega)]
      by_cases e:q * sz+k≤j∧j < q * sz+k+cs.length
      ·rw [if_pos e] at hv
       rw [if_pos (by omega),show lc.dl+j - (lc.dl+(q * sz+k)+0)=j - (q * sz+k) by omega,←hv];rfl
      ·rw [if_neg e] at hv
       rw [if_neg (by omega)]
       cases hej:es[j]? with
       |none=>rw [hej] at hv;cases hv
       |some d0=>
        rw [hej] at hv
        rw [g2 j d0 hej]
        exact hv.symm
     refine Step.of ⟨Grow.refl γ,hrel,⟨by simp,rfl,rfl,rfl, ?_⟩, ?_,Nat.le_refl _,fun _ _ h=>hR.lt h,fun _ l h=>.inl ⟨l,h⟩, ?_⟩
     ·intro k' ob hk' hn
      have:k'≠lc.blk:=fun h=>hn ⟨b,_,lc,hb,rfl,hl,h.symm⟩
      simp [Ne.symm this,hk']
     ·rintro k' ⟨i',x',li,h3,h4,h5,h6⟩ _
      by_cases e:i'=b
      ·subst e
       exact ⟨i',_,li,hb,rfl,h5,h6⟩
      ·exact ⟨i',x',li,hget i' x' e h3,h4,h5,h6⟩
     ·intro i' x' h3 _
      by_cases e:i'=b
      ·subst e;exact ⟨_,hb⟩
      ·exact ⟨x',hget i' x' e h3⟩
  |_=>exact R.bF _ _
theorem Sj (hR:Rel C base γ s w) (b:Nat) (i:SE) (sz k:Nat) (c:List AV) (cs:List Value) (hcs:aG γ c=some cs) {lc:Loc} (hl:γ b=some lc) {kd:IntKind} {q:Nat} (hi:aO γ i=some (.val (.int kd (.ofNat q)))):
  (ni C s b i sz k c).path (fun s'=>∃w',(storeCells ⟨lc.blk,lc.dl+(q * sz+k),none⟩ cs).run C.P w=.ok () w'∧Step C base γ s w γ s' w'):=by
 unfold ni
 cases hb:s.h.get b with
 |none=>exact R.bF _ _
 |some x0=>
  cases x0 with
  |vec el y=>
   simp only
   obtain ⟨l',o,h1,h2,vs,lo,hi',es,rfl,g1,g2,⟨ii,g3,g4,g5,g6,g7⟩,g8,g9⟩:=hR.blk b _ hb
   rw [hl] at h1;obtain rfl:=Option.some.inj h1
   obtain ⟨pre,es0,ds,u1,u2,u3,u4⟩:=TN y [] es g1
   rw [List.append_nil] at u1
   cases ht:a4F (wS y []).1 with
   |none=>exact G6 hR b i sz k c cs hcs hl hi
   |some p=>
    simp only
    cases hg:((Nat.beq p.1 sz && fZ p.2 i) && (Nat.beq sz (aJ C el).length && (!Nat.beq sz 0 && (Nat.ble (Nat.add k c.length) (wS y []).2.length && oh c)))) with
    |false=>exact G6 hR b i sz k c cs hcs hl hi
    |true=>
     simp only [Bool.and_eq_true,Bool.not_eq_true'] at hg
     obtain ⟨⟨q1,q2⟩,q3,q4,q5,q6⟩:=hg
     have q1:=Nat.eq_of_beq_eq_true q1
     have q2:=bW q2
     have q3:=Nat.eq_of_beq_eq_true q3
     have q5:k+c.length≤(wS y []).2.length:=Nat.le_of_ble_eq_true q5
     obtain ⟨x,hx⟩:=a3f ht
     rw [hx,q1,q2] at u2
     simp only [aO,hi,Option.bind_eq_some_iff] at u2
     obtain ⟨dx,hdx,d2,hd2,u2⟩:=u2
     obtain rfl:=Option.some.inj hd2
     simp only [e2] at u2
     cases dx<;>first| (cases u2;done)|skip
     rename_i ksx esx
     simp only at u2
     have hlen0:es0.length=q * sz∧aO γ (wS y []).1=some (.ls (aJ C el) es0):=by
      split at u2
      ·next hle=>
       have u2:=Option.some.inj u2
       injection u2 with u3' u4'
       refine ⟨by rw [←u4',List.length_take];omega, ?_⟩
       rw [hx,q1,q2]
       simp only [aO,hi,hdx,Option.bind_some,e2]
       rw [if_pos hle,u3',u4']
      ·cases u2
     obtain ⟨hlen0,hbase⟩:=hlen0
     have hpl:=Jl u4
     have hold:=YV pre (aJ C el) es0.length ds u4 ⟨0,rfl,Nat.zero_le _,by rw [hlen0,←q3,Nat.mul_mod_left];simp⟩
     rw [←u1] at hold
     have hnew:=iG (iG (rQ k hold) hcs) (A8 (k+c.length) hold)
     cases hy:yS C (aJ C el) ((yD (aJ C el) (wS y []).2 (aJ C el)).take k++c++(yD (aJ C el) (wS y []).2 (aJ C el)).drop (Nat.add k c.length)) (aJ C el) (wS y []).1 with
     |none=>exact R.bF _ _
     |some y'=>
      obtain ⟨ds',s1,s2⟩:=zI _ (aJ C el) _ y' es0 _ hnew hbase ⟨0,rfl,Nat.zero_le _,by rw [hlen0,←q3,Nat.mul_mod_left];simp⟩ hy
      have hcl:=bT hcs
      rw [u1] at q5
      have hdl:ds.length=pre.length:=hpl.symm
      have hvl:(ds.map Dt.v).length=pre.length:=by rw [List.length_map,hdl]
      have aee:es.length=q * sz+pre.length:=by rw [u3,List.length_append,hlen0,hdl]
      have hds':ds'.length=pre.length:=by
       have:=congrArg List.length s2
       simp only [List.length_map,List.length_append,List.length_take,List.length_drop] at this
       omega
      have hrun:=jk (P:=C.P) lc.blk el lo hi' cs (lc.dl+(q * sz+k)) 0 vs w h2 (by omega) (lX q6 hcs) (by
       intro z hz1 hz2 hz
       have:=g8 z hz.1 hz.2
       omega)
      have hlt:lc.blk < w.heap.size:=by
       rcases Nat.lt_or_ge lc.blk w.heap.size with h|h
       ·exact h
       ·rw [Array.getElem?_eq_none h] at h2;cases h2
      refine ⟨_,hrun, ?_⟩
      have hno:∀i' x' li,i'≠b→s.h.get i'=some x'→γ i'=some li→li.blk=lc.blk→False:=by
       intro i' x' li hne hx' hli hbl
       rcases hR.sep i' b x' _ li lc hx' hb hli hl hne hbl with h'|h'
       ·cases x'<;>simp [iR] at h'
       ·simp [iR] at h'
      have hget:∀i' x',i'≠b→(s.h.set b (.vec el y')).get i'=some x'→s.h.get i'=some x':=by
       intro i' x' hne hx'
       rwa [Tr.get_set_other _ _ (Ne.symm hne)] at hx'
      have hrel:Rel C base γ ⟨s.h.set b (.vec el y'),s.next,s.pc⟩ { w with heap:=w.heap.setIfInBounds lc.blk (.cells (jW vs (lc.dl+(q * sz+k)+0) cs) el (lo,hi')) }:=by
       refine hR.Fe hb hl hl ⟨rfl,rfl,rfl⟩ rfl (fun _ _=>rfl) hget (Tr.get_set_same _ _ _) (o':=.cells (jW vs (lc.dl+(q * sz+k)+0) cs) el (lo,hi')) (fun k' hk'=>by simp [Ne.symm hk']) (by simp [hlt]) (by simp) ?_
        (fun i' x' li hne hx' h3 h4=>(hno i' x' li hne (hget i' x' hne hx') h3 h4).elim) (fun i' x' li hne hx' h3 h4=>(hno i' x' li hne (hget i' x' hne hx') h3 h4).elim)
       refine ⟨_,lo,hi',es0++ds',rfl,s1,fun j d hj=> ?_,⟨ii,g3,g4,by rw [List.length_append,hlen0,hds',←aee];exact g5,by rw [eH];exact g6,g7⟩,(fun off a b=>by rw [eH];exact g8 off a b),g9⟩
       have C9:cs.length=c.length:=hcl
       rw [jV _ _ _ _ (by omega)]
       rw [List.getElem?_append] at hj
       split at hj
       ·next hlt'=>
        rw [if_neg (by omega)]
        refine g2 j d ?_
        rw [u3,List.getElem?_append_left hlt'];exact hj
       ·next hge=>
        have hv:(ds'.map Dt.v)[j - es0.length]? =some d.v:=by rw [List.getElem?_map,hj];rfl
        rw [s2] at hv
        have hjl:j - es0.length < ds'.length:=(List.getElem?_eq_some_iff.1 hj).1
        have aaF:∀m:Nat,m < ds.length→(ds.map Dt.v)[m]? =vs[lc.dl+(q * sz+m)]? :=by
         intro m hm
         rw [List.getElem?_map,List.getElem?_eq_getElem hm]
         have:=g2 (q * sz+m) ds[m] (by rw [u3,List.getElem?_append_right (by omega),show q * sz+m - es0.length=m by omega,List.getElem?_eq_getElem hm])
         rw [this];rfl
        rw [List.append_assoc,List.getElem?_append] at hv
        split at hv
        ·next h5=>
         rw [List.length_take] at h5
         rw [List.getElem?_take,if_pos (by omega),aaF _ (by omega)] at hv
         rw [if_neg (by omega),←hv];congr 1;omega
        ·next h5=>
         rw [List.length_take] at h5 hv
         rw [List.getElem?_append] at hv
         split at hv
         ·next h6=>
          rw [if_pos (by omega),←hv];congr 1;omega
         ·next h6=>
          rw [List.getElem?_drop,aaF _ (by omega)] at hv
          rw [if_neg (by omega),←hv];congr 1;omega
      refine Step.of ⟨Grow.refl γ,hrel,⟨by simp,rfl,rfl,rfl, ?_⟩, ?_,Nat.le_refl _,fun _ _ h=>hR.lt h,fun _ l h=>.inl ⟨l,h⟩, ?_⟩
      ·intro k' ob hk' hn
       have:k'≠lc.blk:=fun h=>hn ⟨b,_,lc,hb,rfl,hl,h.symm⟩
       simp [Ne.symm this,hk']
      ·rintro k' ⟨i',x',li,h3,h4,h5,h6⟩ _
       by_cases e:i'=b
       ·subst e
        exact ⟨i',_,li,hb,rfl,h5,h6⟩
       ·exact ⟨i',x',li,hget i' x' e h3,h4,h5,h6⟩
      ·intro i' x' h3 _
       by_cases e:i'=b
       ·subst e;exact ⟨_,hb⟩
       ·exact ⟨x',hget i' x' e h3⟩
  |_=>exact R.bF _ _
theorem a5t (hC:Good C) (hR:Rel C base γ s w) (ht:bn γ nt t a.tmps) (ty:TypeId) (x y:Operand) (rt:TypeId):
  (zU ty x y rt C t s).path (fF C base γ s w ((US (Instr.storeAt ty (a.eval x) (a.eval y))).run C.P w)):=by
 refine R.bH _ (bI hR ht x) fun v hv=> ?_
 refine R.bH _ (bI hR ht y) fun u hu=> ?_
 refine R.bH (fun s'=>∃w',(Instr.storeAt ty (a.eval x) (a.eval y)).run C.P w=.ok () w'∧Step C base γ s w γ s' w') ?_ fun s' hs'=> ?_
 ·cases v with
  |ptr b off=>
   refine R.bH _ (dF hC ty) fun i hi=> ?_
   refine R.bH _ (vT u _ hu) fun c hc=> ?_
   show (match Nat.beq c.length i.size with|true=>jy s b off c|false=>R.bad _).path _
   cases hlen:Nat.beq c.length i.size
   ·trivial
   ·have hlen':c.length=i.size:=Nat.eq_of_beq_eq_true hlen
    simp only [aA,Option.map_eq_some_iff] at hv
    obtain ⟨lc,hl,he⟩:=hv
    refine R.bg ?_ (jH hR b off c _ hc lc hl)
    rintro s' ⟨w',h1,h2⟩
    refine ⟨w', ?_,h2⟩
    have hsz:(a.eval y).cells.size=i.size:=by
     have:=bT hc
     simp at this;omega
    rw [←he]
    simp only [Instr.storeAt,Instr.sureAddr,pure_bind,storeVar,Sem.run_bind,hi.2.size w,Result.andThen_ok,hsz,ne_eq,not_true_eq_false,if_false]
    exact h1
  |lu b k sz q=>
   refine R.bH _ (dF hC ty) fun i hi=> ?_
   refine R.bH _ (vT u _ hu) fun c hc=> ?_
   show (match Nat.beq c.length i.size with|true=>ni C s b k sz q c|false=>R.bad _).path _
   cases hlen:Nat.beq c.length i.size
   ·trivial
   ·have hlen':c.length=i.size:=Nat.eq_of_beq_eq_true hlen
    obtain ⟨lc,p,kd,hl,h0,hq,he⟩:=iC hv
    refine R.bg ?_ (Sj hR b k sz q c _ hc hl h0)
    rintro s' ⟨w',h1,h2⟩
    refine ⟨w', ?_,h2⟩
    have hsz:(a.eval y).cells.size=i.size:=by
     have:=bT hc
     simp at this;omega
    rw [he]
    simp only [Instr.storeAt,Instr.sureAddr,pure_bind,storeVar,Sem.run_bind,hi.2.size w,Result.andThen_ok,hsz,ne_eq,not_true_eq_false,if_false]
    exact h1
  |_=>trivial
 ·obtain ⟨w',h1,h2⟩:=hs'
  exact ⟨γ,w',by simp [US,h1],h2⟩
end
end Go.Proofs.YtjioppomopfifaaGreatDoor.Abs
namespace Go.Proofs.YtjioppomopfifaaGreatDoor.Abs
open Go
section
variable {C:Ctx} {base:Nat} {γ:G} {s:S} {w:World} {nt:Nat} {t:Tr AV} {a:Act}
theorem iF {elem:TypeId} {i:TI} (hi:C.T.get elem=some i) {vs:List AV} {cs:List Value} (hcs:aG γ vs=some cs) {arr:Array Value} {cp:Nat}
  (h1:vs.length≤cp * i.size) (h2:cp * i.size≤arr.size) (h3:∀(j:Nat) c,cs[j]? =some c→arr[j]? =some c) (blk:Nat) (fz:Nat) (sg:Bool) (lo hi':Nat)
  (hfr:∀off,lo≤off→off < hi'→off < fz∨(sg=true∧arr.size≤off)) (hlh:lo≤hi':=by omega):
  ∀γ',Grow γ γ'→fG C γ' ⟨blk,0,cp,none⟩ (.cells elem (Tr.ofList vs) vs.length fz [] false sg) (.cells arr elem (lo,hi')):=by
 intro γ' hg
 refine ⟨arr,lo,hi',rfl,by simp;omega, ?_,⟨i,hi,h1,by simp only [Nat.zero_add];omega,0,by simp⟩,fun _ off a b=>by simpa using hfr off a b,hlh⟩
 intro j v hj hv
 rw [Tr.iy] at hv
 obtain ⟨c,hc,hcc⟩:=oP j v hcs hv
 exact ⟨c,by simpa using h3 j c hcc,.inr (kD hg _ _ hc)⟩
theorem iw (P:Program) (elem:TypeId) (arr:Array Value) (w:World):(newRow elem arr).run P w=.ok ⟨w.heap.size,0,none⟩ (w.alloc (.cells arr elem (0,0))):=by
 simp [newRow]
theorem a5D (hC:Good C) (hR:Rel C base γ s w) (e:TypeId) (rt:TypeId):
  (a2l e rt C t s).path (fF C base γ s w ((VS (Instr.alloc e true (.tuple #[]))).run C.P w)):=by
 refine R.bH _ (dF hC e) fun i hi=> ?_
 refine R.bH _ (R.iM _ _) fun z hz=> ?_
 refine R.bH _ (R.aU _ _) fun _ hg=> ?_
 obtain ⟨v,h1,h2⟩:=hi.2.zero z hz
 have hlen:z.length=i.size:=Nat.eq_of_beq_eq_true hg
 have hcs:=h2 γ
 have hstep:=Step.alloc (base:=base) hR (jL e z) (.cells v.cells e (0,0)) 0 1 (w':=w.alloc (.cells v.cells e (0,0))) rfl rfl rfl rfl
  (iF hi.1 hcs (by omega) (by have:=bT hcs;simp at this;omega) (fun j c hj=>by simpa using hj) _ 0 false 0 0 (by omega))
 refine ⟨_,.pointer (some ⟨w.heap.size,0,none⟩),_, ?_, ?_,hstep⟩
 ·simp [VS,Instr.alloc,h1,newVar,iw]
 ·simp [aA]
theorem abv (hC:Good C) (hR:Rel C base γ s w) (ht:bn γ nt t a.tmps) (e:TypeId) (x:Operand) (rt:TypeId):
  (YS e x rt C t s).path (fF C base γ s w ((VS (Instr.box e (a.eval x))).run C.P w)):=by
 refine R.bH _ (bI hR ht x) fun v hv=> ?_
 refine R.bH _ (vT v _ hv) fun z hz=> ?_
 refine R.bH _ (dF hC e) fun i hi=> ?_
 refine R.bH _ (R.aU _ _) fun _ hg=> ?_
 have hlen:z.length=i.size:=Nat.eq_of_beq_eq_true hg
 have hstep:=Step.alloc (base:=base) hR (jL e z) (.cells (a.eval x).cells e (0,0)) 0 1 (w':=w.alloc (.cells (a.eval x).cells e (0,0))) rfl rfl rfl rfl
  (iF hi.1 hz (by omega) (by have:=bT hz;simp at this;omega) (fun j c hj=>by simpa using hj) _ 0 false 0 0 (by omega))
 refine ⟨_,.pointer (some ⟨w.heap.size,0,none⟩),_, ?_, ?_,hstep⟩
 ·simp [VS,Instr.box,newVar,iw]
 ·simp [aA]
theorem UH (off:Nat):∀(l:List Value) (k:Nat) (arr:Array Value),off+k+l.length≤arr.size→
  ((l.zipIdx k).foldl (fun cs (c,j)=>cs.setIfInBounds (off+j) c) arr).toList=arr.toList.take (off+k)++l++arr.toList.drop (off+k+l.length)
 | [],k,arr,h=>by simp
 |v::l,k,arr,h=>by
  simp only [List.length_cons] at h
  rw [List.zipIdx_cons,List.foldl_cons,UH off l (k+1) _ (by simp;omega)]
  simp only [Array.toList_setIfInBounds,List.length_cons]
  apply List.ext_getElem?
  intro j
  simp only [List.getElem?_append,List.length_append,List.length_take,List.length_set,Array.length_toList,List.getElem?_take,List.getElem?_set,List.getElem?_drop,List.length_cons]
  rw [Nat.min_eq_left (by omega),Nat.min_eq_left (by omega)]
  by_cases h1:j < off+k
  ·rw [if_pos (by omega),if_pos (by omega),if_pos (by omega),if_neg (by omega),if_pos (by omega),if_pos (by omega),if_pos (by omega)]
  ·by_cases h2:j=off+k
   ·subst h2
    rw [if_pos (by omega),if_pos (by omega),if_pos (by omega),if_pos rfl,if_pos (by omega),if_pos (by omega),if_neg (by omega)]
    simp
   ·by_cases h3:j < off+k+1+l.length
    ·rw [if_pos (by omega),if_neg (by omega),if_pos (by omega),if_neg (by omega)]
     rw [show j - (off+k)=(j - (off+(k+1)))+1 by omega];simp
    ·rw [if_neg (by omega),if_neg (by omega),if_neg (by omega)]
     congr 1;omega
def aap (pa pc:Nat→Option (Nat×Nat)):Prop:=∀i x,pa i=some x→pc i=some x
theorem yU {pa pc:Nat→Option (Nat×Nat)} (hp:aap pa pc):∀(ps:List (Nat×AV)) (cps:List (Nat×Value)) (l:List AV) (r:List Value),
  (ps.map (·.1)=cps.map (·.1))→(∀(j:Nat) (p:Nat×AV) (q:Nat×Value),ps[j]? =some p→cps[j]? =some q→aA γ p.2=some q.2)→aG γ l=some r→
  (rO pa ps l).path (fun l'=>∃r',aG γ l'=some r'∧l'.length=l.length∧Instr.fill pc ⟨r⟩ cps=some ⟨r'⟩)
 | [],cps,l,r,hk,_,hr=>by
   have:cps=[]:=by cases cps with|nil=>rfl|cons x y=>simp at hk
   subst this
   exact ⟨r,hr,rfl,rfl⟩
 | (i,v)::ps,[],l,r,hk,_,hr=>by simp at hk
 | (i,v)::ps,(i',c)::cps,l,r,hk,hv,hr=>by
   simp only [List.map_cons,List.cons.injEq] at hk
   obtain ⟨rfl,hk⟩:=hk
   have hvc:aA γ v=some c:=hv 0 (i,v) (i,c) (by simp) (by simp)
   unfold rO
   cases hpi:pa i with
   |none=>trivial
   |some x=>
    obtain ⟨off,size⟩:=x
    simp only
    refine R.bH _ (vT v c hvc) fun z hz=> ?_
    cases hg:(Nat.beq z.length size && Nat.ble (Nat.add off size) l.length) with
    |false=>trivial
    |true=>
     simp only [Bool.and_eq_true] at hg
     have h1:z.length=size:=Nat.eq_of_beq_eq_true hg.1
     have h2:off+size≤l.length:=Nat.le_of_ble_eq_true hg.2
     have hzl:=bT hz
     have hrl:=bT hr
     simp at hzl
     have hr':=iG (iG (rQ off hr) hz) (A8 (off+size) hr)
     refine R.bg ?_ (yU hp ps cps _ _ hk (fun j p q hp hq=>hv (j+1) p q (by simpa using hp) (by simpa using hq)) hr')
     rintro l' ⟨r',g1,g2,g3⟩
     refine ⟨r',g1, ?_, ?_⟩
     ·rw [g2];simp;omega
     ·rw [Instr.fill,hp i _ hpi]
      simp only
      have:¬ ((c.cells.size≠size || decide (off+c.cells.size > (Array.mk r).size))=true):=by
       simp;omega
      rw [if_neg this]
      rw [←g3]
      congr 1
      apply Array.ext'
      have:=UH off c.cells.toList 0 ⟨r⟩ (by simp;omega)
      simp only [Nat.add_zero] at this
      rw [←Array.foldl_toList,Array.toList_zipIdx]
      rw [this]
      simp only [Array.length_toList]
      rw [show off+c.cells.size=off+size by omega]
theorem DY (hR:Rel C base γ s w) (ht:bn γ nt t a.tmps):∀l:List (Nat×Operand),
  (XA C t l).path (fun ps=>ps.map (·.1)=(l.map fun (i,x)=>(i,a.eval x)).map (·.1)∧∀(j:Nat) (p:Nat×AV) (q:Nat×Value),ps[j]? =some p→(l.map fun (i,x)=>(i,a.eval x))[j]? =some q→aA γ p.2=some q.2)
 | []=>by refine ⟨rfl, ?_⟩;intro j p q h;simp at h
 | (i,x)::l=>by
   unfold XA
   refine R.bH _ (bI hR ht x) fun v hv=> ?_
   refine R.bH _ (DY hR ht l) fun ps hps=> ?_
   refine ⟨by simpa using hps.1, ?_⟩
   intro j p q hp hq
   cases j with
   |zero=>simp at hp hq;subst hp;subst hq;exact hv
   |succ j=>exact hps.2 j p q (by simpa using hp) (by simpa using hq)
theorem KT (hC:Good C):∀fs:List Field,(Ed C fs).path (fun pl=>∀w,((fs.mapM fun f=>do pure (f.offset,←sizeOf f.type):Sem (List (Nat×Nat)))).run C.P w=.ok pl w)
 | []=>by intro w;simp
 |f::fs=>by
  unfold Ed
  refine R.bH _ (dF hC f.type) fun i hi=> ?_
  refine R.bH _ (KT hC fs) fun l hl=> ?_
  intro w
  simp only [List.mapM_cons,Sem.run_bind,hi.2.size w,Result.andThen_ok,Sem.run_pure,hl w,bind_assoc,pure_bind]
theorem a5C (hC:Good C) (hR:Rel C base γ s w) (ht:bn γ nt t a.tmps) (ty:TypeId) (parts:Array (Nat×Operand)) (rt:TypeId):
  (Ea ty parts rt C t s).path (fF C base γ s w ((VS (Instr.build ty (parts.map fun (i,x)=>(i,a.eval x)))).run C.P w)):=by
 refine R.bH _ (oH hC ty) fun z hz=> ?_
 obtain ⟨_,v,_,_,hz1,hz2⟩:=hz
 refine R.bH _ (DY hR ht parts.toList) fun ps hps=> ?_
 refine R.bH _ (bJ hC ty) fun d hd=> ?_
 have hzr:aG γ z=some v.cells.toList:=hz2 γ
 have hlist:(parts.map fun (i,x)=>(i,a.eval x)).toList=parts.toList.map fun (i,x)=>(i,a.eval x):=by simp
 cases d with
 |struct fs=>
  refine R.bH _ (KT hC fs.toList) fun pl hpl=> ?_
  refine R.bH _ (yU (γ:=γ) (pa:=nth pl) (pc:=fun i=>pl[i]?) (fun i x h=>by rw [pY] at h;exact h) ps _ z _ hps.1 hps.2 hzr) fun cs hcs=> ?_
  obtain ⟨r,h1,_,h3⟩:=hcs
  refine dR hR (c:=.agg ⟨r⟩) ?_ (by simp [aA,h1])
  unfold Instr.build
  simp only [Sem.run_bind,hz1 w,Result.andThen_ok,iU hd w,Array.mapM_eq_mapM_toList,Sem.run_map,hpl w,hlist]
  have:Instr.fill (fun x=>(List.toArray pl)[x]?) v.cells (parts.toList.map fun (i,x)=>(i,a.eval x))=some ⟨r⟩:=by
   rw [←h3]
   congr 1
   funext x;simp
  rw [this];rfl
 |array n e=>
  refine R.bH _ (dF hC e) fun i hi=> ?_
  refine R.bH _ (yU (γ:=γ) (pa:=fun k=>some (Nat.mul k i.size,i.size)) (pc:=fun k=>some (k * i.size,i.size)) (fun _ x h=>h) ps _ z _ hps.1 hps.2 hzr) fun cs hcs=> ?_
  obtain ⟨r,h1,_,h3⟩:=hcs
  refine dR hR (c:=.agg ⟨r⟩) ?_ (by simp [aA,h1])
  unfold Instr.build
  simp only [Sem.run_bind,hz1 w,Result.andThen_ok,iU hd w,hi.2.size w,hlist]
  have:Instr.fill (fun k=>some (k * i.size,i.size)) v.cells (parts.toList.map fun (i,x)=>(i,a.eval x))=some ⟨r⟩:=by
   rw [←h3]
  rw [this];rfl
 |_=>trivial
theorem nZ {γ:G} {z:List AV} {r:List Value} (h:aG γ z=some r):∀n,∃q,aG γ (Fp z n)=some q∧q.length=n * r.length∧∀j,j < n * r.length→q[j]? =r[j % r.length]?
 | 0=>⟨[],by simp [Fp,aG],by simp,by simp⟩
 |n+1=>by
  obtain ⟨q,h1,h2,h3⟩:=nZ h n
  refine ⟨r++q,iG h h1,by simp [h2,Nat.succ_mul,Nat.add_comm], ?_⟩
  intro j hj
  rw [List.getElem?_append]
  split
  ·next hlt=>rw [Nat.mod_eq_of_lt hlt]
  ·next hge=>
   have hge':r.length≤j:=by omega
   rw [h3 (j - r.length) (by rw [Nat.succ_mul] at hj;omega)]
   rw [Nat.mod_eq_sub_mod hge']
theorem Sr (hC:Good C) (hR:Rel C base γ s w) (ht:bn γ nt t a.tmps) (ty:TypeId) (len:Nat) (parts:Array (Nat×Operand)) (rt:TypeId):
  (pX ty len parts rt C t s).path (fF C base γ s w ((VS (Instr.buildSlice ty len (parts.map fun (i,x)=>(i,a.eval x)))).run C.P w)):=by
 refine R.bH _ (bJ hC ty) fun d hd=> ?_
 cases d with
 |slice e=>
  refine R.bH _ (dF hC e) fun i hi=> ?_
  refine R.bH _ (R.aU _ _) fun _ hg=> ?_
  have hle:len * i.size≤16777216:=Nat.le_of_ble_eq_true hg
  refine R.bH (fun z=>∃r,aG γ z=some r∧(len * i.size≠0→r.length=i.size∧∃v:Value,(zeroValue e).run C.P w=.ok v w∧r=v.cells.toList)∧(len * i.size=0→z=[])) ?_ fun z hz=> ?_
  ·unfold zC
   cases hb:Nat.beq (Nat.mul len i.size) 0
   ·have hne:len * i.size≠0:=fun h=>by rw [show Nat.mul len i.size=0 from h] at hb;cases hb
    refine R.bH _ (oH hC e) fun z hz=> ?_
    obtain ⟨_,v,_,_,h1,h2⟩:=hz
    refine R.bH _ (R.aU _ _) fun _ hg2=> ?_
    refine ⟨_,h2 γ,fun _=>⟨?_,v,h1 w,rfl⟩,fun h=>absurd h hne⟩
    have:=bT (h2 γ)
    rw [this];exact Nat.eq_of_beq_eq_true hg2
   ·have he:len * i.size=0:=Nat.eq_of_beq_eq_true hb
    exact ⟨[],rfl,fun h=>absurd he h,fun _=>rfl⟩
  ·obtain ⟨r,hr,hz1,hz0⟩:=hz
   refine R.bH _ (DY hR ht parts.toList) fun ps hps=> ?_
   obtain ⟨q,hq1,hq2,hq3⟩:=nZ hr len
   refine R.bH _ (yU (γ:=γ) (pa:=fun k=>some (Nat.mul k i.size,i.size)) (pc:=fun k=>some (k * i.size,i.size)) (fun _ x h=>h) ps _ _ _ hps.1 hps.2 hq1) fun cs hcs=> ?_
   obtain ⟨r',g1,g2,g3⟩:=hcs
   have hlist:(parts.map fun (i,x)=>(i,a.eval x)).toList=parts.toList.map fun (i,x)=>(i,a.eval x):=by simp
   have hql:q.length=len * i.size:=by
    rw [hq2]
    by_cases h0:len * i.size=0
    ·have hz:=hz0 h0;subst hz
     simp only [aG,Option.some.injEq] at hr;subst hr;simp [h0]
    ·rw [(hz1 h0).1]
   have hcl:cs.length=len * i.size:=by rw [g2,←bT hq1,hql]
   have hstep:=Step.alloc (base:=base) hR (jL e cs) (.cells ⟨r'⟩ e (0,0)) 0 len (w':=w.alloc (.cells ⟨r'⟩ e (0,0))) rfl rfl rfl rfl
    (iF hi.1 g1 (by omega) (by have:=bT g1;simp;omega) (fun j c hj=>by simpa using hj) _ 0 false 0 0 (by omega))
   refine ⟨_,.slice (some ⟨w.heap.size,0,none⟩) len len,_, ?_,by simp [aA],hstep⟩
   have hbig:¬ (len * i.size > 2 ^ 24):=by omega
   unfold VS Instr.buildSlice
   simp only [Sem.run_bind,iU hd w,Result.andThen_ok,hi.2.size w,if_neg hbig,pure_bind,hlist,bind_assoc]
   have Zn:∀zv:Array Value,(len * i.size≠0→zv.toList=r)→Instr.fill (fun k=>some (k * i.size,i.size)) (Array.map (fun x=>zv[x % zv.size]!) (Array.range (len * i.size))) (parts.toList.map fun (i,x)=>(i,a.eval x))=some ⟨r'⟩:=by
    intro zv hzv
    rw [←g3]
    congr 1
    apply Array.ext'
    apply List.ext_getElem?
    intro j
    simp only [Array.toList_map,Array.toList_range,List.getElem?_map]
    by_cases hj:j < len * i.size
    ·have hne:len * i.size≠0:=by omega
     have hzs:=hzv hne
     obtain ⟨hrl,v,_,_⟩:=hz1 hne
     have hsz:zv.size=i.size:=by rw [←hrl,←hzs];simp
     have hpos:0 < i.size:=by
      rcases Nat.eq_zero_or_pos i.size with h|h
      ·rw [h] at hne;simp at hne
      ·exact h
     rw [hq3 j (by rw [hrl];exact hj),List.getElem?_range hj]
     simp only [Option.map_some]
     have hm:j % zv.size < zv.size:=Nat.mod_lt _ (by omega)
     rw [getElem!_pos zv _ hm,hrl,←hsz,←hzs]
     simp [hm]
    ·rw [List.getElem?_eq_none (by simp;omega),List.getElem?_eq_none (by omega)];rfl
   by_cases h0:len * i.size=0
   ·simp only [h0,if_true,Sem.run_pure]
    have:=Zn #[] (fun h=>absurd h0 h)
    rw [h0] at this
    simp only [Sem.run_bind,Sem.run_pure,Result.andThen_ok,this,iw]
   ·obtain ⟨_,v,hv,hrv⟩:=hz1 h0
    have:=Zn v.cells (fun _=>hrv.symm)
    simp only [if_neg h0,Sem.run_bind,hv,Result.andThen_ok,Sem.run_pure,this,iw]
 |_=>trivial
end
end Go.Proofs.YtjioppomopfifaaGreatDoor.Abs
namespace Go.Proofs.YtjioppomopfifaaGreatDoor.Abs
open Go
section
variable {C:Ctx} {base:Nat} {γ:G} {s:S} {w:World} {nt:Nat} {t:Tr AV} {a:Act}
theorem wrap_small (n:Nat) (h:n≤1099511627776):IntKind.i64.wrap (n:Int)=(n:Int):=by
 have h1:((n:Int) % (2 ^ IntKind.i64.bits:Int))=n:=by
  show (n:Int) % (18446744073709551616:Int)=n
  omega
 unfold IntKind.wrap
 simp only [h1]
 rw [if_neg]
 simp only [Bool.and_eq_true,decide_eq_true_eq,not_and]
 intro _
 show ¬ ((n:Int) ≥ (9223372036854775808:Int))
 omega
theorem VA (hC:Good C) (e:TypeId) {i:TI} (_hi:C.T.get e=some i) (n:Nat):
  (zC C e n i.size).path (fun z=>∃r,aG γ z=some r∧(n≠0→r.length=i.size∧∃v:Value,(zeroValue e).run C.P w=.ok v w∧r=v.cells.toList)∧(n=0→z=[])):=by
 unfold zC
 cases hb:Nat.beq n 0
 ·have hne:n≠0:=fun h=>by rw [h] at hb;cases hb
  refine R.bH _ (oH hC e) fun z hz=> ?_
  obtain ⟨_,v,_,_,h1,h2⟩:=hz
  refine R.bH _ (R.aU _ _) fun _ hg2=> ?_
  refine ⟨_,h2 γ,fun _=>⟨?_,v,h1 w,rfl⟩,fun h=>absurd h hne⟩
  have:=bT (h2 γ)
  rw [this];exact Nat.eq_of_beq_eq_true hg2
 ·have he:n=0:=Nat.eq_of_beq_eq_true hb
  exact ⟨[],rfl,fun h=>absurd he h,fun _=>rfl⟩
theorem yR {r:List Value} {n m:Nat} (hn:n=m * r.length) (zv:Array Value) (hz:n≠0→zv.toList=r) {q:List Value}
  (hq:q.length=n) (hq3:∀j,j < n→q[j]? =r[j % r.length]?):Array.map (fun x=>zv[x % zv.size]!) (Array.range n)=⟨q⟩:=by
 apply Array.ext'
 apply List.ext_getElem?
 intro j
 simp only [Array.toList_map,Array.toList_range,List.getElem?_map]
 by_cases hj:j < n
 ·have hne:n≠0:=by omega
  have hzs:=hz hne
  have hsz:zv.size=r.length:=by rw [←hzs];simp
  have hpos:0 < r.length:=by
   rcases Nat.eq_zero_or_pos r.length with h|h
   ·rw [h] at hn;simp at hn;omega
   ·exact h
  rw [hq3 j hj,List.getElem?_range hj]
  simp only [Option.map_some]
  have hm:j % zv.size < zv.size:=Nat.mod_lt _ (by omega)
  rw [getElem!_pos zv _ hm,←hsz,←hzs]
  simp [hm]
 ·rw [List.getElem?_eq_none (by simp;omega),List.getElem?_eq_none (by omega)];rfl
theorem a3b {v:AV} {k:Kd} (h:aa5 v k=true):BI k=true∧∀(γ:G) n,aA γ v=some (Ju k n).v:=by
 cases k<;>first| (cases h;done)|skip
 ·cases v<;>first| (cases h;done)|skip
  simp only [aa5,Bool.and_eq_true] at h
  obtain rfl:=jf h.1
  obtain rfl:=of_decide_eq_true h.2
  exact ⟨rfl,fun _ _=>rfl⟩
 ·cases v<;>first| (cases h;done)|skip
  rename_i b
  cases b
  ·exact ⟨rfl,fun _ _=>rfl⟩
  ·cases h
 ·cases v<;>first| (cases h;done)|skip
  rename_i l
  cases l
  ·exact ⟨rfl,fun _ _=>rfl⟩
  ·cases h
 ·cases v<;>first| (cases h;done)|skip
  exact ⟨rfl,fun _ _=>rfl⟩
theorem Oe:∀{l:List AV} {ks:List Kd},a15 l ks=true→ks.all BI=true∧l.length=ks.length∧∀(γ:G) RJ,aG γ l=some ((iT ks RJ).map Dt.v)
 | [],[],_=>⟨rfl,rfl,fun _ _=>rfl⟩
 | [],_::_,h=>by cases h
 |_::_,[],h=>by cases h
 |v::l,k::ks,h=>by
  simp only [a15,Bool.and_eq_true] at h
  obtain ⟨h1,h2⟩:=a3b h.1
  obtain ⟨g1,g2,g3⟩:=Oe h.2
  refine ⟨by simp [h1,g1],by simp [g2],fun γ RJ=> ?_⟩
  cases RJ with
  |nil=>exact aP.2 ⟨_,_,h2 γ 0,g3 γ [],rfl⟩
  |cons n m=>exact aP.2 ⟨_,_,h2 γ n,g3 γ m,rfl⟩
theorem a0R (hC:Good C) (hR:Rel C base γ s w) {ty e:TypeId} (hd:C.P.underlying ty=some (.slice e)) {vx vy:AV} {cx cy:Value} (hvx:aA γ vx=some cx) (hvy:aA γ vy=some cy):
  (a2r C s e vx vy).path (fF C base γ s w ((VS (Instr.makeSlice ty cx cy)).run C.P w)):=by
 refine R.bH _ (dF hC e) fun i hi=> ?_
 refine R.bH _ (oH hC e) fun z hz=> ?_
 obtain ⟨_,v,_,_,hz1,hz2⟩:=hz
 refine R.bH _ (R.aU _ _) fun _ hg=> ?_
 simp only [Bool.and_eq_true,Bool.not_eq_true'] at hg
 obtain ⟨q1,q2,q3,q4,q5,q6⟩:=hg
 have q1:=jG q1
 have q2:=jG q2
 have q3:=bW q3
 have q4:i.size=z.length:=Nat.eq_of_beq_eq_true q4
 obtain ⟨n0,hn0,rfl⟩:=vK hvx q1
 obtain ⟨n1,hn1,rfl⟩:=vK hvy q2
 rw [←q3,hn0] at hn1
 have hn1:=Option.some.inj hn1
 injection hn1 with hn1;injection hn1 with _ hn1
 subst hn1
 obtain ⟨zf1,zf2,zf3⟩:=Oe q6
 refine R.gu hR fun hn=> ?_
 have hbd:0≤n0∧n0.toNat * i.bytes≤1099511627776∧n0≤1099511627776:=by
  rcases Classical.em (0≤n0∧n0.toNat * i.bytes≤1099511627776∧n0≤1099511627776) with h|h
  ·exact h
  ·exact absurd ⟨_,_,rfl,h⟩ (iV hn (RY hn0))
 obtain ⟨c,rfl⟩:=Int.eq_ofNat_of_zero_le hbd.1
 have h2:c * i.bytes≤1099511627776:=hbd.2.1
 have h3:c≤1099511627776:=by omega
 have hr:aG γ z=some ((iT (aJ C e) (Ep C (aJ C e))).map Dt.v):=zf3 γ _
 obtain ⟨q,hq1,hq2,hq3⟩:=nZ hr c
 have hzl:(iT (aJ C e) (Ep C (aJ C e))).length=i.size:=by rw [rD,←zf2,q4]
 have hrl:((iT (aJ C e) (Ep C (aJ C e))).map Dt.v).length=i.size:=by rw [List.length_map,hzl]
 have hn:c * i.size=c * ((iT (aJ C e) (Ep C (aJ C e))).map Dt.v).length:=by rw [hrl]
 have hql:q.length=c * i.size:=by rw [hq2,hn]
 have abG:aO γ (.a1 (.zs (aJ C e) (Ep C (aJ C e))) (dW vx))=some (.ls (aJ C e) (OW (iT (aJ C e) (Ep C (aJ C e))) c)):=by
  simp only [aO,hn0,Option.bind_some,e1]
  show (if _ then _ else _)=_
  rw [if_pos zf1]
 have hstep:=Step.alloc (base:=base) hR (.vec e (.a1 (.zs (aJ C e) (Ep C (aJ C e))) (dW vx))) (.cells ⟨q⟩ e (0,0)) 0 c (w':=w.alloc (.cells ⟨q⟩ e (0,0))) rfl rfl rfl rfl
  (fun γ' hg=>⟨_,0,0,_,rfl,dP hg _ _ abG,fun j d hj=>by
     have hlt:j < c * i.size:=by rw [←hzl,←yT];exact (List.getElem?_eq_some_iff.1 hj).1
     rw [GN _ _ _ (by rw [hzl];exact hlt)] at hj
     have:=hq3 j (by rw [←hn];exact hlt)
     rw [hrl,List.getElem?_map,←hzl,hj] at this
     simpa using this,
    ⟨i,hi.1,by rw [q4,zf2];rfl,by rw [yT,hzl];exact Nat.le_refl _,by simp [hql],0,by simp⟩,fun off _ h=>absurd h (Nat.not_lt_zero _),Nat.le_refl _⟩)
 refine ⟨_,.slice (some ⟨w.heap.size,0,none⟩) c c,_, ?_, ?_,hstep⟩
 ·obtain ⟨a4G,t1,t2,t3,_⟩:=hi.2.info
  have hw2:IntKind.i64.wrap (c:Int)=(c:Int):=wrap_small c h3
  have hcond:¬ ((decide ((c:Int) < 0) || decide ((a4G.bytes:Int) * (c:Int) > 2 ^ 48) || decide ((c:Int) < 0) || decide ((c:Int) > (c:Int)))=true):=by
   have:(a4G.bytes:Int) * (c:Int)=((c * i.bytes:Nat):Int):=by rw [t2];push_cast;rw [Int.mul_comm]
   rw [this]
   simp only [Bool.or_eq_true,decide_eq_true_eq,not_or]
   refine ⟨⟨⟨?_, ?_⟩, ?_⟩, ?_⟩<;>omega
  have ha:∀k n,(Go.asInt (.int k n)).run C.P w=.ok n w:=fun _ _=>rfl
  unfold VS Instr.makeSlice
  simp only [Sem.run_bind,iU hd w,Result.andThen_ok,ha,Sem.run_pure,typeInfo,run_program,t1,hw2]
  rw [if_neg hcond]
  simp only [Sem.run_bind,run_askRoom,Result.andThen_ok,hi.2.size w,Int.toNat_natCast]
  have hzr:v.cells.toList=(iT (aJ C e) (Ep C (aJ C e))).map Dt.v:=Option.some.inj ((hz2 γ).symm.trans hr)
  by_cases h0:c * i.size=0
  ·have hze:=yR (n:=c * i.size) (m:=c) hn #[] (fun h=>absurd h0 h) hql (fun j hj=>by rw [hn] at hj;exact hq3 j hj)
   rw [if_pos h0]
   simp only [Sem.run_bind,Sem.run_pure,Result.andThen_ok]
   rw [hze,iw]
   rfl
  ·have hze:=yR (n:=c * i.size) (m:=c) hn v.cells (fun _=>hzr) hql (fun j hj=>by rw [hn] at hj;exact hq3 j hj)
   rw [if_neg h0]
   simp only [Sem.run_bind,hz1 w,Result.andThen_ok,Sem.run_pure]
   rw [hze,iw]
   rfl
 ·have a1:=dP hstep.grow _ _ hn0
  simp only [aA,Option.bind_eq_some_iff]
  exact ⟨⟨w.heap.size,0,c,none⟩,if_pos trivial,_,a1,_,a1,by unfold a3d;exact if_pos ⟨Nat.le_refl _,Nat.le_refl _⟩⟩
theorem VT (hC:Good C) (hR:Rel C base γ s w) (ht:bn γ nt t a.tmps) (ty:TypeId) (x y:Operand) (rt:TypeId):
  (sO ty x y rt C t s).path (fF C base γ s w ((VS (Instr.makeSlice ty (a.eval x) (a.eval y))).run C.P w)):=by
 refine R.bH _ (bJ hC ty) fun d hd=> ?_
 cases d with
 |slice e=>
  refine R.bH _ (bI hR ht x) fun vx hvx=> ?_
  refine R.bH _ (bI hR ht y) fun vy hvy=> ?_
  cases aev:CW vx with
  |true=>exact a0R hC hR hd hvx hvy
  |false=>
  simp only
  refine R.bH _ (lQ vx) fun l hl=> ?_
  obtain ⟨kl,rfl⟩:=hl
  refine R.bH _ (lQ vy) fun c hc=> ?_
  obtain ⟨kc,rfl⟩:=hc
  refine R.bH _ (dF hC e) fun i hi=> ?_
  refine R.bH _ (R.aU _ _) fun _ hg=> ?_
  simp only [Bool.and_eq_true] at hg
  have h1:l≤c:=Nat.le_of_ble_eq_true hg.1.1
  have h2:c * i.bytes≤1099511627776:=Nat.le_of_ble_eq_true hg.1.2
  have h3:c≤1099511627776:=Nat.le_of_ble_eq_true hg.2
  refine R.bH _ (VA (γ:=γ) (w:=w) hC e hi.1 _) fun z hz=> ?_
  obtain ⟨r,hr,hz1,hz0⟩:=hz
  simp only [aA,Option.some.injEq] at hvx hvy
  obtain ⟨q,hq1,hq2,hq3⟩:=nZ hr c
  have hn:c * i.size=c * r.length:=by
   by_cases h0:c * i.size=0
   ·have:=hz0 h0;subst this
    simp only [aG,Option.some.injEq] at hr;subst hr;simpa using h0
   ·rw [(hz1 h0).1]
  have hql:q.length=c * i.size:=by rw [hq2,hn]
  have hstep:=Step.alloc (base:=base) hR (jL e (Fp z c)) (.cells ⟨q⟩ e (0,0)) 0 c (w':=w.alloc (.cells ⟨q⟩ e (0,0))) rfl rfl rfl rfl
   (iF hi.1 hq1 (by have:=bT hq1;omega) (by simp;omega) (fun j c hj=>by simpa using hj) _ 0 false 0 0 (by omega))
  refine ⟨_,.slice (some ⟨w.heap.size,0,none⟩) l c,_, ?_,by simp [aA],hstep⟩
  obtain ⟨a4G,t1,t2,t3,_⟩:=hi.2.info
  have hw1:IntKind.i64.wrap (Int.ofNat l)=(l:Int):=wrap_small l (by omega)
  have hw2:IntKind.i64.wrap (Int.ofNat c)=(c:Int):=wrap_small c h3
  have hcond:¬ ((decide ((c:Int) < 0) || decide ((a4G.bytes:Int) * (c:Int) > 2 ^ 48) || decide ((l:Int) < 0) || decide ((l:Int) > (c:Int)))=true):=by
   have:(a4G.bytes:Int) * (c:Int)=((c * i.bytes:Nat):Int):=by rw [t2];push_cast;rw [Int.mul_comm]
   rw [this]
   simp only [Bool.or_eq_true,decide_eq_true_eq,not_or]
   refine ⟨⟨⟨?_, ?_⟩, ?_⟩, ?_⟩<;>omega
  have ha:∀k n,(Go.asInt (.int k n)).run C.P w=.ok n w:=fun _ _=>rfl
  unfold VS Instr.makeSlice
  rw [←hvx,←hvy]
  simp only [Sem.run_bind,iU hd w,Result.andThen_ok,ha,Sem.run_pure,typeInfo,run_program,t1,hw1,hw2]
  rw [if_neg hcond]
  simp only [Sem.run_bind,run_askRoom,Result.andThen_ok,hi.2.size w,Int.toNat_natCast]
  by_cases h0:c * i.size=0
  ·have hze:=yR (n:=c * i.size) (m:=c) hn #[] (fun h=>absurd h0 h) hql (fun j hj=>by rw [hn] at hj;exact hq3 j hj)
   rw [if_pos h0]
   simp only [Sem.run_bind,Sem.run_pure,Result.andThen_ok]
   rw [hze,iw]
   rfl
  ·obtain ⟨_,v,hv,hrv⟩:=hz1 h0
   have hze:=yR (n:=c * i.size) (m:=c) hn v.cells (fun _=>hrv.symm) hql (fun j hj=>by rw [hn] at hj;exact hq3 j hj)
   rw [if_neg h0]
   simp only [Sem.run_bind,hv,Result.andThen_ok,Sem.run_pure]
   rw [hze,iw]
   rfl
 |_=>trivial
end
end Go.Proofs.YtjioppomopfifaaGreatDoor.Abs
namespace Go.Proofs.YtjioppomopfifaaGreatDoor.Abs
open Go
section
variable {C:Ctx} {base:Nat} {γ:G} {s:S} {w:World} {nt:Nat} {t:Tr AV} {a:Act}
def yQ:Option Nat→Option Value→Prop
 |none,none=>True
 |some n,some c=>∃k,c=.int k (.ofNat n)
 |_,_=>False
theorem O8 (hR:Rel C base γ s w) (ht:bn γ nt t a.tmps) (x:Option Operand):
  (evO C t x).path (fun v=>match v,x.map a.eval with|none,none=>True|some v,some c=>aA γ v=some c|_,_=>False):=by
 cases x with
 |none=>trivial
 |some x=>
  refine R.bH _ (bI hR ht x) fun v hv=> ?_
  exact hv
theorem Ce (v:Option AV) (c:Option Value) (h:match v,c with|none,none=>True|some v,some c=>aA γ v=some c|_,_=>False):
  (VO v).path (fun n=>yQ n c):=by
 cases v with
 |none=>cases c with
  |none=>trivial
  |some c=>exact h.elim
 |some v=>cases c with
  |none=>exact h.elim
  |some c=>
   refine R.bH _ (lQ v) fun n hn=> ?_
   obtain ⟨k,rfl⟩:=hn
   simp only [aA,Option.some.injEq] at h
   exact ⟨k,h.symm⟩
theorem run_sliceBound {P:Program} (k:IntKind) (n y:Nat) (code:BoundsCode) (h:n≤y) (w:World):(Instr.sliceBound (.int k (n:Int)) y code).run P w=.ok n w:=by
 have h0:(0:Int)≤(n:Int)∧(n:Int)≤(y:Int):=⟨Int.natCast_nonneg n,Int.ofNat_le.2 h⟩
 simp only [Instr.sliceBound,asIntOf,pure_bind,h0,and_self,if_true]
 rfl
theorem iD {P:Program} (b:Bool) (len cap:Nat) {lo hi mx:Option Nat} {clo chi cmx:Option Value} (h1:yQ lo clo) (h2:yQ hi chi) (h3:yQ mx cmx)
  (hg:inB (lo.getD 0) (hi.getD len) (mx.getD cap) cap hi mx=true) (w:World):
  (Instr.sliceBounds b len cap clo chi cmx).run P w=.ok (lo.getD 0,hi.getD len,mx.getD cap) w:=by
 simp only [inB,Bool.and_eq_true] at hg
 obtain ⟨⟨⟨g1,g2⟩,g3⟩,g4⟩:=hg
 have g1:=Nat.le_of_ble_eq_true g1
 have g2:=Nat.le_of_ble_eq_true g2
 have g3:=Nat.le_of_ble_eq_true g3
 unfold Instr.sliceBounds
 cases mx with
 |none=>
  cases cmx with
  |some c=>exact h3.elim
  |none=>
   cases hi with
   |none=>cases chi with
    |some c=>exact h2.elim
    |none=>cases lo with
     |none=>cases clo with
      |some c=>exact h1.elim
      |none=>rfl
     |some l=>cases clo with
      |none=>exact h1.elim
      |some c=>
       obtain ⟨k,rfl⟩:=h1
       simp only [Option.getD] at g1 g2 g3 ⊢
       simp [run_sliceBound _ _ _ _ g3]
   |some h=>cases chi with
    |none=>exact h2.elim
    |some c=>
     obtain ⟨k,rfl⟩:=h2
     cases lo with
     |none=>cases clo with
      |some c=>exact h1.elim
      |none=>
       simp only [Option.getD] at g1 g2 g3 ⊢
       simp [run_sliceBound _ _ _ _ g2]
     |some l=>cases clo with
      |none=>exact h1.elim
      |some c=>
       obtain ⟨k',rfl⟩:=h1
       simp only [Option.getD] at g1 g2 g3 ⊢
       simp [run_sliceBound _ _ _ _ g2,run_sliceBound _ _ _ _ g3]
 |some m=>
  cases cmx with
  |none=>exact h3.elim
  |some cm=>
   obtain ⟨km,rfl⟩:=h3
   cases hi with
   |none=>simp at g4
   |some h=>cases chi with
    |none=>exact h2.elim
    |some c=>
     obtain ⟨k,rfl⟩:=h2
     cases lo with
     |none=>cases clo with
      |some c=>exact h1.elim
      |none=>
       simp only [Option.getD] at g1 g2 g3 ⊢
       simp [run_sliceBound _ _ _ _ g2,run_sliceBound _ _ _ _ g1]
     |some l=>cases clo with
      |none=>exact h1.elim
      |some c=>
       obtain ⟨k',rfl⟩:=h1
       simp only [Option.getD] at g1 g2 g3 ⊢
       simp [run_sliceBound _ _ _ _ g2,run_sliceBound _ _ _ _ g3,run_sliceBound _ _ _ _ g1]
theorem FC (m a off sz blk dl:Nat):(if m=a then (⟨blk,dl+off,none⟩:Addr) else Addr.add ⟨blk,dl+off,none⟩ (a * sz))=⟨blk,dl+zX m a off sz,none⟩:=by
 unfold zX
 by_cases h:m=a
 ·subst h;simp
 ·have:Nat.beq m a=false:=by
    cases hb:Nat.beq m a
    ·rfl
    ·exact absurd (Nat.eq_of_beq_eq_true hb) h
  rw [if_neg h,this,addr_add]
  simp only
  congr 1
  show dl+off+a * sz=dl+(off+a * sz)
  omega
theorem Bg (l:List UInt8) (a h:Nat):(ByteArray.mk ⟨l⟩).extract a h=⟨⟨(l.take h).drop a⟩⟩:=by
 apply ByteArray.ext
 simp only [ByteArray.data_extract]
 apply Array.ext'
 simp [List.extract,List.drop_take]
theorem Ew (v:Option AV) (c:Option Value) (h:match v,c with|none,none=>True|some v,some c=>aA γ v=some c|_,_=>False) (d:SE) (dn:Nat) (hd:aO γ d=some (.val (.int .i64 dn))):
  (Ot v d).path (fun l=>∃q n,aO γ l=some (.val (.int q n))∧∀n':Nat,n=n'→∃o,yQ o c∧o.getD dn=n'):=by
 cases v with
 |none=>cases c with
  |none=>exact ⟨_,_,hd,fun n' e=>⟨none,trivial,by show dn=n';omega⟩⟩
  |some c=>exact h.elim
 |some v=>cases c with
  |none=>exact h.elim
  |some c=>
   show (match FQ (wU v) with|true=>R.ok (dW v)|false=>R.bad _).path _
   cases hi:FQ (wU v) with
   |false=>exact R.bF _ _
   |true=>
    obtain ⟨q,hq⟩:=Ad hi
    obtain ⟨n,h1,h2⟩:=vK h hq
    exact ⟨q,n,h1,fun n' e=>⟨some n',⟨q,by rw [h2,e];rfl⟩,rfl⟩⟩
theorem YC (hR:Rel C base γ s w) {d:TypeDesc} {ty:TypeId} (hd:C.P.underlying ty=some d) {x:AV} {cx:Value} (hv:aA γ x=some cx) (vlo vhi vmx:Option AV) (clo chi cmx:Option Value)
  (hlo:match vlo,clo with|none,none=>True|some v,some c=>aA γ v=some c|_,_=>False) (hhi:match vhi,chi with|none,none=>True|some v,some c=>aA γ v=some c|_,_=>False)
  (hmx:match vmx,cmx with|none,none=>True|some v,some c=>aA γ v=some c|_,_=>False):
  (a0o s d x vlo vhi vmx).path (fun r=>∃c,aA γ r=some c∧(Instr.sliceAt ty cx clo chi cmx).run C.P w=.ok c w):=by
 unfold a0o
 cases d<;>first|exact R.bF _ _|skip
 cases hk:wU x<;>first|exact R.bF _ _|skip
 cases vmx with
 |some _=>exact R.bF _ _
 |none=>
  cases cmx with
  |some _=>exact hmx.elim
  |none=>
   obtain ⟨str,h1,rfl⟩:=Vk hv hk
   have hlen:aO γ (.a1 .len (dW x))=some (.val (.int .i64 str.size)):=by simp only [aO,h1,Option.bind_some,Go.Proofs.YtjioppomopfifaaGreatDoor.Abs.e1]
   refine R.bH _ (Ew vlo clo hlo (.int .i64 0) 0 rfl) fun l hl=> ?_
   refine R.bH _ (Ew vhi chi hhi (.a1 .len (dW x)) str.size hlen) fun h hh=> ?_
   obtain ⟨q1,n1,g1,g2⟩:=hl
   obtain ⟨q2,n2,g3,g4⟩:=hh
   suffices key:0≤n1∧n1≤n2∧n2≤(str.size:Int)→(R.ok (AV.opq .str (.a3 .sub (dW x) l h))).path (fun r=>∃c,aA γ r=some c∧(Instr.sliceAt ty (.string str) clo chi none).run C.P w=.ok c w) by
    cases hkn:a2M (dW x) s.pc l h with
    |true=>exact key (a1K (fun f hf=>(hR.pc f hf).2) h1 hkn g1 g3)
    |false=>
     refine R.gu hR fun hn=>key ?_
     rcases Classical.em (0≤n1∧n1≤n2∧n2≤(str.size:Int)) with h|h
     ·exact h
     ·exact absurd ⟨q1,n1,q2,n2,_,rfl,h⟩ (iV hn (JC g1 g3 hlen))
   intro hb
   obtain ⟨m1,rfl⟩:=Int.eq_ofNat_of_zero_le hb.1
   obtain ⟨m2,rfl⟩:=Int.eq_ofNat_of_zero_le (Int.le_trans hb.1 hb.2.1)
   obtain ⟨o1,i1,e1'⟩:=g2 m1 rfl
   obtain ⟨o2,i2,e2'⟩:=g4 m2 rfl
   refine ⟨_,gG (d:=.val (.string ⟨⟨(str.data.toList.take m2).drop m1⟩⟩)) ?_ ⟨_,rfl⟩ rfl, ?_⟩
   ·simp only [aO,h1,g1,g3,Option.bind_some,e3]
    simp
   ·have hg:inB (o1.getD 0) (o2.getD str.size) ((none:Option Nat).getD str.size) str.size o2 none=true:=by
      rw [e1',e2']
      simp only [inB,Option.getD,Option.isNone,Bool.or_true,Bool.and_true,Bool.and_eq_true,Nat.ble_eq]
      omega
    have:=iD (P:=C.P) false str.size str.size i1 i2 (show yQ none none from trivial) hg w
    rw [e1',e2'] at this
    unfold Instr.sliceAt
    rw [aI hd]
    simp only [Instr.slice]
    rw [aI hd]
    simp only [Option.isSome_none,Bool.false_eq_true,if_false,Sem.run_bind,this,Result.andThen_ok,Sem.run_pure]
    have e:str.extract m1 m2=⟨⟨(str.data.toList.take m2).drop m1⟩⟩:=by
     have:=Bg str.data.toList m1 m2
     rwa [←Fa] at this
    rw [e]
    rfl
theorem wW {l:Loc} {n c:Nat} (h1:n≤c) (h2:c≤l.cp):a3d l (.val (.int .i64 (.ofNat n))) (.val (.int .i64 (.ofNat c)))=some (.slice (some ⟨l.blk,l.dl,none⟩) n c):=by
 show (if n≤c∧c≤l.cp then _ else _)=_
 rw [if_pos ⟨h1,h2⟩]
theorem YI (hC:Good C) (hR:Rel C base γ s w) {d:TypeDesc} {ty:TypeId} (hd:C.P.underlying ty=some d) {b:Nat} {n c:SE} {cx:Value} (hv:aA γ (.rE b n c)=some cx) (vlo vhi vmx:Option AV) (clo chi cmx:Option Value)
  (hlo:match vlo,clo with|none,none=>True|some v,some c=>aA γ v=some c|_,_=>False) (hhi:match vhi,chi with|none,none=>True|some v,some c=>aA γ v=some c|_,_=>False)
  (hmx:match vmx,cmx with|none,none=>True|some v,some c=>aA γ v=some c|_,_=>False):
  (a1I C s d b n c vlo vhi vmx).path (fun r=>∃c,aA γ r=some c∧(Instr.sliceAt ty cx clo chi cmx).run C.P w=.ok c w):=by
 unfold a1I
 cases d<;>first|exact R.bF _ _|skip
 rename_i e
 refine R.bH _ (dF hC e) fun i hi'=> ?_
 cases vmx with
 |some _=>exact R.bF _ _
 |none=>
  cases cmx with
  |some _=>exact hmx.elim
  |none=>
   simp only
   cases hz:a14 vlo with
   |false=>exact R.bF _ _
   |true=>
    obtain ⟨lc,k,q,hl,hn0,hc0,hk,hq,rfl⟩:=gZ hv
    have low:∃o:Option Nat,yQ o clo∧o.getD 0=0:=by
     cases vlo with
     |none=>cases clo with
      |none=>exact ⟨none,trivial,rfl⟩
      |some _=>exact hlo.elim
     |some v=>cases clo with
      |none=>exact hlo.elim
      |some cl=>
       cases v<;>first| (cases hz;done)|skip
       rename_i kd m
       have hm:m=0:=of_decide_eq_true hz
       subst hm
       simp only [aA,Option.some.injEq] at hlo
       exact ⟨some 0,⟨kd,hlo.symm⟩,rfl⟩
    obtain ⟨lo,ad7,hlo0⟩:=low
    have fin:∀(o:Option Nat) (m:Nat) (r:AV),yQ o chi→o.getD k=m→m≤k→aA γ r=some (.slice (some ⟨lc.blk,lc.dl,none⟩) m q)→
      ∃c,aA γ r=some c∧(Instr.sliceAt ty (.slice (some ⟨lc.blk,lc.dl,none⟩) k q) clo chi none).run C.P w=.ok c w:=by
     intro o m r ho hm hmk hr
     refine ⟨_,hr, ?_⟩
     have hg:inB (lo.getD 0) (o.getD k) ((none:Option Nat).getD q) q o none=true:=by
      rw [hlo0,hm]
      simp only [inB,Option.getD,Option.isNone,Bool.or_true,Bool.and_true,Bool.and_eq_true,Nat.ble_eq]
      omega
     have:=iD (P:=C.P) true k q ad7 ho (show yQ none none from trivial) hg w
     rw [hlo0,hm] at this
     simp only [Option.getD_none] at this
     unfold Instr.sliceAt
     rw [aI hd]
     simp only [Instr.slice]
     rw [aI hd]
     simp only [Sem.run_bind,this,Result.andThen_ok,hi'.2.size w,Sem.run_pure,Nat.sub_zero,Nat.zero_mul,Option.map_some,Addr.add,if_true,ite_self]
    cases vhi with
    |none=>
     cases chi with
     |some _=>exact hhi.elim
     |none=>exact fin none k _ trivial rfl (Nat.le_refl _) hv
    |some h=>
     cases chi with
     |none=>exact hhi.elim
     |some ch=>
      simp only
      cases hkd:o7 (wU h) (.int .i64) with
      |false=>exact R.bF _ _
      |true=>
       obtain ⟨m,h1,h2⟩:=vK hhi (jG hkd)
       refine R.gu hR fun hn=> ?_
       have hb:0≤m∧m≤(k:Int):=by
        rcases Classical.em (0≤m∧m≤(k:Int)) with h|h
        ·exact h
        ·exact absurd ⟨.i64,0,.i64,m,_,rfl,fun hh=>h hh.2⟩ (iV hn (JC (show aO γ (.int .i64 0)=some (.val (.int .i64 0)) from rfl) h1 hn0))
       obtain ⟨p,rfl⟩:=Int.eq_ofNat_of_zero_le hb.1
       refine fin (some p) p _ ⟨.i64,by rw [h2];rfl⟩ rfl (by omega) ?_
       simp only [aA,hl,h1,hc0,Option.bind_some]
       exact wW (by omega) hq
theorem ok_slice (hC:Good C) (hR:Rel C base γ s w) (ht:bn γ nt t a.tmps) (ty:TypeId) (x:Operand) (lo hi mx:Option Operand) (rt:TypeId):
  (D5 ty x lo hi mx rt C t s).path (fF C base γ s w ((VS (Instr.sliceAt ty (a.eval x) (lo.map a.eval) (hi.map a.eval) (mx.map a.eval))).run C.P w)):=by
 refine R.bH _ (bI hR ht x) fun v hv=> ?_
 refine R.bH _ (O8 hR ht lo) fun vlo hlo=> ?_
 refine R.bH _ (O8 hR ht hi) fun vhi hhi=> ?_
 refine R.bH _ (O8 hR ht mx) fun vmx hmx=> ?_
 refine R.bH (fun r=>∃c,aA γ r=some c∧(Instr.sliceAt ty (a.eval x) (lo.map a.eval) (hi.map a.eval) (mx.map a.eval)).run C.P w=.ok c w) ?_ fun r hr=>(let ⟨c,h1,h2⟩:=hr;dR hR h2 h1)
 by_cases hvs:∃b n c,v=.rE b n c
 ·obtain ⟨b,n,c,rfl⟩:=hvs
  refine R.bH _ (bJ hC ty) fun d hd=> ?_
  exact YI hC hR hd hv vlo vhi vmx _ _ _ hlo hhi hmx
 have hany:Yo C s ty v vlo vhi vmx=Vj C s ty v vlo vhi vmx:=by
  cases v<;>first|rfl|exact absurd ⟨_,_,_,rfl⟩ hvs
 rw [hany]
 unfold Vj
 cases hq:CW v || Wn vlo || Wn vhi with
 |true=>
  refine R.bH _ (bJ hC ty) fun d hd=> ?_
  exact YC hR hd hv vlo vhi vmx _ _ _ hlo hhi hmx
 |false=>
 refine R.bH _ (Ce vlo _ hlo) fun l hl=> ?_
 refine R.bH _ (Ce vhi _ hhi) fun h hh=> ?_
 refine R.bH _ (Ce vmx _ hmx) fun m hm=> ?_
 refine R.bH _ (bJ hC ty) fun d hd=> ?_
 cases v with
 |str q=>
  cases d with
  |string=>
   refine R.bH _ (R.aU _ _) fun _ hg=> ?_
   simp only [Bool.and_eq_true] at hg
   obtain ⟨hg,hn⟩:=hg
   have hmn:m=none:=by cases m<;>simp_all
   subst hmn
   cases hcm:mx.map a.eval with
   |some _=>rw [hcm] at hm;exact hm.elim
   |none=>
    simp only [aA,Option.some.injEq] at hv
    refine ⟨_,rfl, ?_⟩
    unfold Instr.sliceAt
    rw [aI hd]
    simp only [Instr.slice]
    rw [aI hd]
    rw [←hv]
    have hsz:(ByteArray.mk ⟨q⟩).size=q.length:=rfl
    have:=iD (P:=C.P) false q.length q.length hl hh (show yQ none none from trivial) (by simpa using hg) w
    simp only [Option.isSome_none,Bool.false_eq_true,if_false,hsz,Sem.run_bind,this,Result.andThen_ok,Sem.run_pure,Bg]
  |_=>trivial
 |aW=>
  cases d with
  |slice e=>
   refine R.bH _ (dF hC e) fun i hi'=> ?_
   refine R.bH _ (R.aU _ _) fun _ hg=> ?_
   simp only [aA,Option.some.injEq] at hv
   refine ⟨_,rfl, ?_⟩
   unfold Instr.sliceAt
   rw [aI hd]
   simp only [Instr.slice]
   rw [aI hd]
   rw [←hv]
   have:=iD (P:=C.P) true 0 0 hl hh hm hg w
   simp only [inB,Bool.and_eq_true] at hg
   have g1:=Nat.le_of_ble_eq_true hg.1.1.1
   have g2:=Nat.le_of_ble_eq_true hg.1.1.2
   have g3:=Nat.le_of_ble_eq_true hg.1.2
   have e1:m.getD 0=0:=by omega
   have e2:h.getD 0=0:=by omega
   have e3:l.getD 0=0:=by omega
   simp only [Sem.run_bind,this,Result.andThen_ok,hi'.2.size w,Sem.run_pure,e1,e2,e3]
   rfl
  |_=>trivial
 |sl b off len cap=>
  cases d with
  |slice e=>
   refine R.bH _ (dF hC e) fun i hi'=> ?_
   refine R.bH _ (R.aU _ _) fun _ hg=> ?_
   simp only [aA,Option.map_eq_some_iff] at hv
   obtain ⟨lc,hlc,he⟩:=hv
   refine ⟨.slice (some ⟨lc.blk,lc.dl+zX (m.getD cap) (l.getD 0) off i.size,none⟩) (h.getD len - l.getD 0) (m.getD cap - l.getD 0),by simp [aA,hlc], ?_⟩
   unfold Instr.sliceAt
   rw [aI hd]
   simp only [Instr.slice]
   rw [aI hd]
   rw [←he]
   have:=iD (P:=C.P) true len cap hl hh hm hg w
   simp only [Sem.run_bind,this,Result.andThen_ok,hi'.2.size w,Sem.run_pure,Option.map_some]
   have h2:=FC (m.getD cap) (l.getD 0) off i.size lc.blk lc.dl
   rw [←h2]
   split<;>rfl
  |_=>trivial
 |gQ b pre e0 len sz=>
  cases d with
  |slice e=>
   refine R.bH _ (dF hC e) fun i hi'=> ?_
   cases m with
   |none=>
    refine R.bH _ (R.aU _ _) fun _ hg=> ?_
    simp only [Bool.and_eq_true] at hg
    obtain ⟨hg1,hg2⟩:=hg
    simp only [aA,Option.map_eq_some_iff] at hv
    obtain ⟨lc,hlc,he⟩:=hv
    obtain ⟨k1,k2,k3⟩:=sQ hR hi'.1 hlc hg1
    have k3':e0+h.getD len≤lc.cp:=k3
    have aew:l.getD 0≤h.getD len:=Nat.le_of_ble_eq_true hg2
    have hb:inB (l.getD 0) (h.getD len) ((none:Option Nat).getD (lc.cp - e0)) (lc.cp - e0) h none=true:=by
     simp only [inB,Bool.and_eq_true,Option.getD_none]
     refine ⟨⟨⟨Nat.ble_eq_true_of_le (Nat.le_refl _),Nat.ble_eq_true_of_le (by omega)⟩,hg2⟩,by simp⟩
    have hrun:=iD (P:=C.P) true len (lc.cp - e0) hl hh hm hb w
    have hgoal:∀v,(∀c,aA γ v=some c→c=.slice (if lc.cp - e0=l.getD 0 then some ⟨lc.blk,lc.dl+(if e0 < lc.cp then e0 else pre) * sz,none⟩ else (some ⟨lc.blk,lc.dl+(if e0 < lc.cp then e0 else pre) * sz,none⟩:Option Addr).map (·.add (l.getD 0 * i.size))) (h.getD len - l.getD 0) (lc.cp - e0 - l.getD 0))→
      (∃c,aA γ v=some c)→∃c,aA γ v=some c∧(Instr.sliceAt ty (a.eval x) (lo.map a.eval) (hi.map a.eval) (mx.map a.eval)).run C.P w=.ok c w:=by
     rintro v hv ⟨c,hc⟩
     refine ⟨c,hc, ?_⟩
     rw [hv c hc]
     unfold Instr.sliceAt
     rw [aI hd]
     simp only [Instr.slice]
     rw [aI hd]
     rw [←he]
     simp only [Option.getD_none] at hrun
     simp only [Sem.run_bind,hrun,Result.andThen_ok,hi'.2.size w,Sem.run_pure]
    cases hl0:l.getD 0 with
    |zero=>
     refine hgoal _ (fun c hc=> ?_) ⟨_,by simp [aA,hlc];rfl⟩
     simp only [aA,hlc,Option.map_some,Option.some.injEq] at hc
     rw [←hc,hl0]
     simp only [Nat.sub_zero,Nat.zero_mul,Option.map_some,Addr.add,if_true,ite_self]
    |succ n=>
     refine hgoal _ (fun c hc=> ?_) ⟨_,by simp [aA,hlc];rfl⟩
     simp only [aA,hlc,Option.map_some,Option.some.injEq] at hc
     rw [←hc,hl0]
     have hlt:e0 < lc.cp:=by omega
     simp only [hlt,if_true,Option.map_some,addr_add,k1]
     have e1:lc.cp - (e0.add (n+1))=lc.cp - e0 - (n+1):=by show lc.cp - (e0+(n+1))=_;omega
     by_cases hq:lc.cp - e0=n+1
     ·have:¬ (e0.add (n+1) < lc.cp):=by show ¬ (e0+(n+1) < lc.cp);omega
      rw [if_pos hq,if_neg this,e1];rfl
     ·have:(e0.add (n+1) < lc.cp):=by show (e0+(n+1) < lc.cp);omega
      rw [if_neg hq,if_pos this,e1]
      congr 3
      show lc.dl+(e0+(n+1)) * sz=lc.dl+e0 * sz+(n+1) * sz
      rw [Nat.add_mul];omega
   |some m=>
    refine R.bH _ (R.aU _ _) fun _ hg=> ?_
    simp only [Bool.and_eq_true,Bool.not_eq_true'] at hg
    obtain ⟨⟨⟨hg1,hg2⟩,hg3⟩,hg4⟩:=hg
    simp only [aA,Option.map_eq_some_iff] at hv
    obtain ⟨lc,hlc,he⟩:=hv
    obtain ⟨k1,k2,k3⟩:=sQ hR hi'.1 hlc hg1
    have k3':e0+len≤lc.cp:=k3
    have hm':m≤len:=Nat.le_of_ble_eq_true hg2
    have hlen:len≠0:=by rintro rfl;exact absurd hg3 (by decide)
    have hlt:e0 < lc.cp:=by omega
    rw [if_pos hlt] at he
    refine ⟨.slice (some ⟨lc.blk,lc.dl+zX m (l.getD 0) (e0 * sz) sz,none⟩) (h.getD len - l.getD 0) (m - l.getD 0),by simp [aA,hlc], ?_⟩
    have hb:inB (l.getD 0) (h.getD len) ((some m:Option Nat).getD (lc.cp - e0)) (lc.cp - e0) h (some m)=true:=by
     simp only [inB,Bool.and_eq_true,Option.getD_some] at hg4 ⊢
     exact ⟨⟨⟨Nat.ble_eq_true_of_le (by omega),hg4.1.1.2⟩,hg4.1.2⟩,hg4.2⟩
    unfold Instr.sliceAt
    rw [aI hd]
    simp only [Instr.slice]
    rw [aI hd]
    rw [←he]
    have:=iD (P:=C.P) true len (lc.cp - e0) hl hh hm hb w
    simp only [Option.getD_some] at this
    simp only [Sem.run_bind,this,Result.andThen_ok,hi'.2.size w,Sem.run_pure,Option.map_some]
    have h2:=FC m (l.getD 0) (e0 * i.size) i.size lc.blk lc.dl
    rw [←k1,←h2]
    split<;>rfl
  |_=>trivial
 |ptr b off=>
  cases d with
  |array n e=>
   refine R.bH _ (dF hC e) fun i hi'=> ?_
   refine R.bH _ (R.aU _ _) fun _ hg=> ?_
   simp only [aA,Option.map_eq_some_iff] at hv
   obtain ⟨lc,hlc,he⟩:=hv
   refine ⟨.slice (some ⟨lc.blk,lc.dl+zX (m.getD n) (l.getD 0) off i.size,none⟩) (h.getD n - l.getD 0) (m.getD n - l.getD 0),by simp [aA,hlc], ?_⟩
   unfold Instr.sliceAt
   rw [aI hd]
   rw [←he]
   have:=iD (P:=C.P) false n n hl hh hm hg w
   simp only [Instr.sureAddr,pure_bind,Sem.run_bind,this,Result.andThen_ok,hi'.2.size w,Sem.run_pure]
   rw [←FC (m.getD n) (l.getD 0) off i.size lc.blk lc.dl]
  |_=>trivial
 |_=>trivial
end
end Go.Proofs.YtjioppomopfifaaGreatDoor.Abs
namespace Go.Proofs.YtjioppomopfifaaGreatDoor.Abs
open Go
section
variable {C:Ctx} {base:Nat} {γ:G} {s:S} {w:World} {nt:Nat} {t:Tr AV} {a:Act}
theorem Dn (γ:G):∀l:List UInt8,aG γ (sH l)=some (l.map fun b=>Value.int .u8 b.toNat)
 | []=>rfl
 |b::l=>by
  show aG γ (.int .u8 (.ofNat b.toNat)::sH l)=_
  exact aP.2 ⟨_,_,rfl,Dn γ l,rfl⟩
theorem xZ:∀l:List UInt8,(sH l).length=l.length
 | []=>rfl
 |_::l=>by simp [sH,xZ l]
theorem yx (_hC:Good C) (hR:Rel C base γ s w) (e:TypeId) {i:TI} (hi:C.T.get e=some i) (x:AV) (cx:Value) (hx:aA γ x=some cx):
  (srcCells s e i.size x).path (fun r=>∃cs,aG γ r.2=some cs∧r.2.length=r.1 * i.size∧(∀w':World,(Builtin.lenOf cx).run C.P w'=.ok r.1 w')∧(∀n,n≤r.1→(Builtin.firstCells i.size n cx).run C.P w=.ok ⟨cs.take (n * i.size)⟩ w)):=by
 cases x with
 |aW=>
  simp only [aA,Option.some.injEq] at hx;subst hx
  refine ⟨[],rfl,by simp,fun w'=>rfl,fun n hn=> ?_⟩
  simp [Builtin.firstCells]
 |str l=>
  simp only [aA,Option.some.injEq] at hx;subst hx
  show (match Nat.beq i.size 1 with|true=>R.ok (l.length,sH l)|false=>R.bad _).path _
  cases hb:Nat.beq i.size 1
  ·trivial
  ·have h1:i.size=1:=Nat.eq_of_beq_eq_true hb
   refine ⟨_,Dn γ l,by simp [xZ,h1],fun w'=>rfl,fun n hn=> ?_⟩
   simp only [Builtin.firstCells,Bg,h1,Nat.mul_one]
   rw [Sem.run_pure]
   congr 1
   apply Array.ext'
   simp [List.map_take]
 |sl b off len cap=>
  simp only [aA,Option.map_eq_some_iff] at hx
  obtain ⟨lc,hl,rfl⟩:=hx
  refine R.bH _ (uM hR b off _) fun vs hvs=> ?_
  obtain ⟨P5,cs,h1,h2,h3,h4⟩:=hvs
  rw [hl] at h1;obtain rfl:=Option.some.inj h1
  refine ⟨cs,h2,h3,fun w'=>rfl,fun n hn=> ?_⟩
  have hlen:=bT h2
  have h3':vs.length=len * i.size:=h3
  have hle:n * i.size≤cs.length:=by rw [hlen,h3'];exact Nat.mul_le_mul_right _ hn
  simp only [Builtin.firstCells]
  exact iH (fun j v hj=>by
   rw [List.getElem?_take] at hj
   split at hj
   ·exact h4 j v hj
   ·cases hj) _ (by simp;omega)
 |gQ b pre e0 len sz=>
  simp only [aA,Option.map_eq_some_iff] at hx
  obtain ⟨lc,hl,rfl⟩:=hx
  refine R.bH _ (R.aU _ _) fun _ hg=> ?_
  obtain ⟨k1,k2,k3⟩:=sQ hR hi hl hg
  have k3':e0+len≤lc.cp:=k3
  subst k1
  refine R.bH _ (uM hR b _ _) fun vs hvs=> ?_
  obtain ⟨P5,cs,h1,h2,h3,h4⟩:=hvs
  rw [hl] at h1;obtain rfl:=Option.some.inj h1
  refine ⟨cs,h2,h3,fun w'=>rfl,fun n hn=> ?_⟩
  have hlen:=bT h2
  have h3':vs.length=len * i.size:=h3
  have hle:n * i.size≤cs.length:=by rw [hlen,h3'];exact Nat.mul_le_mul_right _ hn
  simp only [Builtin.firstCells]
  by_cases h0:len=0
  ·subst h0
   have:n=0:=by omega
   subst this
   simp [loadCells,loadCellsFrom]
  ·have hlt:e0 < lc.cp:=by omega
   simp only [hlt,if_true]
   exact iH (fun j v hj=>by
    rw [List.getElem?_take] at hj
    split at hj
    ·exact h4 j v hj
    ·cases hj) _ (by simp;omega)
 |_=>trivial
theorem Io (nl:Nat):∀(r c:Nat),c≤nl→Builtin.growBy nl r c≤nl+(nl+768) / 4+1
 | 0,c,h=>by simp [Builtin.growBy];omega
 |r+1,c,h=>by
  unfold Builtin.growBy
  split
  ·omega
  ·by_cases h2:c+(c+768) / 4≤nl
   ·exact Io nl r _ h2
   ·have:Builtin.growBy nl r (c+(c+768) / 4)=c+(c+768) / 4:=by
      cases r with
      |zero=>rfl
      |succ r=>unfold Builtin.growBy;rw [if_pos (by omega)]
    rw [this]
    have:(c+768) / 4≤(nl+768) / 4:=Nat.div_le_div_right (by omega)
    omega
theorem Sv (nl oc:Nat) (h:oc < nl):Builtin.nextslicecap nl oc≤4 * nl+1000:=by
 unfold Builtin.nextslicecap
 split
 ·omega
 ·split
  ·omega
  ·have:=Io nl 4 oc (by omega)
   omega
def a7Q (P:Program) (w:World) (xd:TypeDesc) (i:TI) (e:TypeId) (cx:Value) (n:Nat) (cn:List Value):Prop:=
 (FT xd=false∧(∀w':World,(Builtin.lenOf cx).run P w'=.ok n w')∧∀d,(Builtin.firstCells i.size n cx).run P { w with drawn:=d }=.ok ⟨cn⟩ { w with drawn:=d })∨
 (FT xd=true∧(∃k,cx=.int k n)∧n * i.bytes≤68719476736∧n≤68719476736∧∃zv:Value,(∀w':World,(zeroValue e).run P w'=.ok zv w')∧(if n * i.size=0 then (#[]:Array Value) else Builtin.zeroCells zv.cells n)=⟨cn⟩)
theorem pI (_hC:Good C) {st xt e:TypeId} {i:TI} {xd:TypeDesc} (hst:C.P.underlying st=some (.slice e)) (hxt:C.P.underlying xt=some xd) (_hi:C.T.get e=some i) (hT:EW C.P e i)
  {rest:List TypeId} {rt:TypeId} {b:Option Addr} {sLen sCap n:Nat} {cx:Value} {co cn:List Value} {z:List AV} (hz:i.zero=some z) (hzl:z.length=i.size)
  (hsrc:a7Q C.P w xd i e cx n cn) (hcap:sCap < sLen+n) (hby:(sLen+n) * i.bytes≤68719476736) (hne:sLen+n≤68719476736)
  (hco:∀d,(Builtin.firstCells i.size sLen (.slice b sLen sCap)).run C.P { w with drawn:=d }=.ok ⟨co⟩ { w with drawn:=d })
  (_hcol:co.length=sLen * i.size) (_hcnl:cn.length=n * i.size):
  ∃(cap:Nat) (rest':Array Value),sLen+n≤cap∧rest'.size=(cap - (sLen+n)) * i.size∧
   (Builtin.append_ ⟨st::xt::rest⟩ rt #[.slice b sLen sCap,cx]).run C.P w=
     .ok (.slice (some ⟨w.heap.size,0,none⟩) (sLen+n) cap) { w with drawn:=w.drawn+1,heap:=w.heap.push (.cells (⟨co⟩++⟨cn⟩++rest') e (0,0)) }:=by
 obtain ⟨ti,t1,t2,t3,_⟩:=hT.info
 obtain ⟨zv,hzv,hzc⟩:=hT.zero z hz
 have hzs:zv.cells.size=i.size:=by
  have:=bT (hzc (fun _=>none));simp at this;omega
 let cap:=(Question.appendCap (sLen+n) sCap e).cut (w.tape w.drawn (.appendCap (sLen+n) sCap e))
 have hcapge:sLen+n≤cap:=by
  show sLen+n≤sLen+n+_
  omega
 refine ⟨cap,Builtin.zeroCells zv.cells (cap - (sLen+n)),hcapge,by simp [Builtin.zeroCells,hzs], ?_⟩
 have h1:¬ (((sLen+n:Nat):Int) > IntKind.i64.max∧ti.bytes=0):=by
  have:IntKind.i64.max=9223372036854775807:=by decide
  rw [this];omega
 have h1':¬ (((sLen+n:Nat):Int) > IntKind.i64.max):=by
  have:IntKind.i64.max=9223372036854775807:=by decide
  rw [this];omega
 have h2:¬ (Builtin.nextslicecap (sLen+n) sCap * ti.bytes > 2 ^ 48):=by
  have:=Sv (sLen+n) sCap hcap
  have h3:Builtin.nextslicecap (sLen+n) sCap * ti.bytes≤(4 * (sLen+n)+1000) * ti.bytes:=Nat.mul_le_mul_right _ this
  have h4:(4 * (sLen+n)+1000) * ti.bytes≤4 * ((sLen+n) * ti.bytes)+1000 * ti.bytes:=by rw [Nat.add_mul,Nat.mul_assoc];omega
  have h5:ti.bytes≤(sLen+n) * ti.bytes:=Nat.le_mul_of_pos_left _ (by omega)
  rw [t2] at *
  omega
 have hq:(Question.appendCap (sLen+n) sCap e).forced=false:=rfl
 rcases hsrc with ⟨hxi,hlen,hcn⟩| ⟨hxi,⟨kx,rfl⟩,hnb,hn,zv',abD,hcn⟩
 ·cases xd<;>first| (cases hxi;done)|skip
  all_goals (
   unfold Builtin.append_
   simp only [List.getElem?_toArray,List.getElem?_cons_zero,List.getElem?_cons_succ]
   rw [Sem.run_bind,iU hst]
   simp only [Result.andThen_ok]
   rw [Sem.run_bind,hT.size w]
   simp only [Result.andThen_ok,Sem.run_bind,iU hxt,Sem.run_pure,Bool.false_eq_true,if_false,Bool.not_false,if_true,false_or,hlen]
   rw [if_neg (by omega)]
   simp only [Sem.run_bind,typeInfo,run_program,t1,Result.andThen_ok,Sem.run_pure]
   rw [if_neg h1]
   simp only [Sem.run_bind,run_program,t1,Result.andThen_ok,Sem.run_pure]
   rw [if_neg h2]
   simp only [Sem.run_bind,run_choose,hq,Bool.false_eq_true,if_false,Result.andThen_ok,run_program,t1,Sem.run_pure,run_askRoom]
   rw [hco (w.drawn+1)]
   simp only [Result.andThen_ok]
   rw [hcn (w.drawn+1)]
   simp only [Result.andThen_ok,hzv]
   simp only [newRow,Sem.run_bind,run_newObj,Result.andThen_ok,Sem.run_pure]
   rfl)
 ·cases xd<;>first| (cases hxi;done)|skip
  have hw1:IntKind.i64.wrap (n:Int)=(n:Int):=wrap_small n (by omega)
  have ha:(Go.asInt (.int kx (n:Int))).run C.P w=.ok (n:Int) w:=rfl
  have hl0:¬ ((n:Int) < 0):=by omega
  have hlb:¬ ((n:Int) * (ti.bytes:Int) > 2 ^ 48):=by
   rw [t2]
   have:(n:Int) * (i.bytes:Int)=((n * i.bytes:Nat):Int):=by push_cast;rfl
   rw [this];omega
  unfold Builtin.append_
  simp only [List.getElem?_toArray,List.getElem?_cons_zero,List.getElem?_cons_succ]
  rw [Sem.run_bind,iU hst]
  simp only [Result.andThen_ok]
  rw [Sem.run_bind,hT.size w]
  simp only [Result.andThen_ok,Sem.run_bind,iU hxt,Sem.run_pure,if_true,true_or,and_true,Bool.not_true,Bool.false_eq_true,if_false,ha,hw1]
  rw [if_neg hl0]
  simp only [Sem.run_bind,typeInfo,run_program,t1,Result.andThen_ok,Sem.run_pure]
  rw [if_neg hlb]
  simp only [Sem.run_bind,Result.andThen_ok,Sem.run_pure,Int.toNat_natCast]
  rw [if_neg (show ¬ (sLen+n≤sCap) by omega)]
  simp only [Sem.run_bind,run_program,t1,Result.andThen_ok,Sem.run_pure]
  rw [if_neg h1']
  simp only [Sem.run_bind,run_program,t1,Result.andThen_ok,Sem.run_pure]
  rw [if_neg h2]
  simp only [Sem.run_bind,run_choose,hq,Bool.false_eq_true,if_false,Result.andThen_ok,run_program,t1,Sem.run_pure,run_askRoom]
  rw [hco (w.drawn+1)]
  simp only [Result.andThen_ok]
  have happ:(Sem.run C.P (if n * i.size=0 then (pure #[]:Sem (Array Value)) else do pure (Builtin.zeroCells (←zeroValue e).cells n)) { w with drawn:=w.drawn+1 })=.ok ⟨cn⟩ { w with drawn:=w.drawn+1 }:=by
   rw [←hcn]
   by_cases h0:n * i.size=0
   ·simp only [h0,if_true,Sem.run_pure]
   ·simp only [h0,if_false,Sem.run_bind,abD,Result.andThen_ok,Sem.run_pure]
  rw [happ]
  simp only [Result.andThen_ok,hzv]
  simp only [newRow,Sem.run_bind,run_newObj,Result.andThen_ok,Sem.run_pure]
  rfl
end
end Go.Proofs.YtjioppomopfifaaGreatDoor.Abs
namespace Go.Proofs.YtjioppomopfifaaGreatDoor.Abs
open Go
section
variable {C:Ctx} {base:Nat} {γ:G} {s:S} {w:World} {nt:Nat} {t:Tr AV} {a:Act}
theorem jP {st xt e:TypeId} {i:TI} {xd:TypeDesc} (hst:C.P.underlying st=some (.slice e)) (hxt:C.P.underlying xt=some xd) (hT:EW C.P e i)
  {rest:List TypeId} {rt:TypeId} {b:Option Addr} {sLen sCap n:Nat} {cx:Value} {cn:List Value}
  (hsrc:a7Q C.P w xd i e cx n cn) (hcap:sLen+n≤sCap) {w':World}
  (hst':∀ad,b=some ad→(storeCells (ad.add (sLen * i.size)) cn).run C.P w=.ok () w') (hnone:b=none→w'=w):
    (Builtin.append_ ⟨st::xt::rest⟩ rt #[.slice b sLen sCap,cx]).run C.P w=.ok (.slice b (sLen+n) sCap) w':=by
 rcases hsrc with ⟨hxi,hlen,hcn⟩| ⟨hxi,⟨kx,rfl⟩,hnb,hn,zv',abD,hcn⟩
 ·have hcn:=hcn w.drawn
  cases xd<;>first| (cases hxi;done)|skip
  all_goals (
   unfold Builtin.append_
   simp only [List.getElem?_toArray,List.getElem?_cons_zero,List.getElem?_cons_succ]
   rw [Sem.run_bind,iU hst]
   simp only [Result.andThen_ok]
   rw [Sem.run_bind,hT.size w]
   simp only [Result.andThen_ok,Sem.run_bind,iU hxt,Sem.run_pure,Bool.false_eq_true,if_false,Bool.not_false,if_true,hlen]
   rw [if_pos hcap]
   simp only [Sem.run_bind,hcn,Result.andThen_ok]
   cases b with
   |none=>simp only [hnone rfl];rfl
   |some ad=>
    simp only [Sem.run_bind,hst' ad rfl,Result.andThen_ok,Sem.run_pure])
 ·obtain ⟨ti,t1,t2,t3,_⟩:=hT.info
  cases xd<;>first| (cases hxi;done)|skip
  have hw1:IntKind.i64.wrap (n:Int)=(n:Int):=wrap_small n (by omega)
  have ha:(Go.asInt (.int kx (n:Int))).run C.P w=.ok (n:Int) w:=rfl
  have hl0:¬ ((n:Int) < 0):=by omega
  have hlb:¬ ((n:Int) * (ti.bytes:Int) > 2 ^ 48):=by
   rw [t2]
   have:(n:Int) * (i.bytes:Int)=((n * i.bytes:Nat):Int):=by push_cast;rfl
   rw [this];omega
  unfold Builtin.append_
  simp only [List.getElem?_toArray,List.getElem?_cons_zero,List.getElem?_cons_succ]
  rw [Sem.run_bind,iU hst]
  simp only [Result.andThen_ok]
  rw [Sem.run_bind,hT.size w]
  simp only [Result.andThen_ok,Sem.run_bind,iU hxt,Sem.run_pure,if_true,true_or,and_true,Bool.not_true,Bool.false_eq_true,if_false,ha,hw1]
  rw [if_neg hl0]
  simp only [Sem.run_bind,typeInfo,run_program,t1,Result.andThen_ok,Sem.run_pure]
  rw [if_neg hlb]
  simp only [Sem.run_bind,Result.andThen_ok,Sem.run_pure,Int.toNat_natCast]
  rw [if_pos hcap]
  have happ:(Sem.run C.P (if n * i.size=0 then (pure #[]:Sem (Array Value)) else do pure (Builtin.zeroCells (←zeroValue e).cells n)) w)=.ok ⟨cn⟩ w:=by
   rw [←hcn]
   by_cases h0:n * i.size=0
   ·simp only [h0,if_true,Sem.run_pure]
   ·simp only [h0,if_false,Sem.run_bind,abD,Result.andThen_ok,Sem.run_pure]
  simp only [Sem.run_bind,happ,Result.andThen_ok]
  cases b with
  |none=>simp only [hnone rfl];rfl
  |some ad=>
   simp only [Sem.run_bind,hst' ad rfl,Result.andThen_ok,Sem.run_pure]
theorem Rel.drawn (hR:Rel C base γ s w) {w':World} (hh:w'.heap=w.heap):Rel C base γ s w':=
 ⟨fun id b h=>by rw [hh];exact hR.blk id b h,hR.sep,hR.new,hR.glob,hR.low,by rw [hh];exact hR.bs,hR.pc,fun id l d h1 h2=>Dt.good.stays (fun k hf=>⟨by rw [hh];exact hf,by rw [hh]⟩) d (hR.rd id l d h1 h2)⟩
theorem Rel.stale (hR:Rel C base γ s w) {b:Nat} {e:TypeId} {cs:Tr AV} {k fz:Nat} {jX:List Nat} {st sg:Bool} (hb:s.h.get b=some (.cells e cs k fz jX st sg)):
  Rel C base γ ⟨s.h.set b (.cells e cs k fz jX true sg),s.next,s.pc⟩ w:=by
 have hsame:∀i x,(s.h.set b (.cells e cs k fz jX true sg)).get i=some x→(i=b∧x=.cells e cs k fz jX true sg)∨(i≠b∧s.h.get i=some x):=by
  intro i x hx
  rw [Tr.dH] at hx
  split at hx
  ·next h=>exact .inl ⟨h.symm,(Option.some.inj hx).symm⟩
  ·next h=>exact .inr ⟨Ne.symm h,hx⟩
 have adu:∀i x y l l',iR x i (.cells e cs k fz jX st sg) l l'→y=.cells e cs k fz jX true sg→iR x i y l l':=by
  intro i x y l l' h hy
  subst hy
  cases x<;>simp only [iR] at h ⊢
  exact ⟨h.1,trivial,h.2.2⟩
 have aaH:∀j y l l',iR (.cells e cs k fz jX st sg) j y l l'→iR (.cells e cs k fz jX true sg) j y l l':=by
  intro j y l l' h
  cases y<;>exact h
 refine ⟨?_, ?_,hR.new,hR.glob, ?_,hR.bs,hR.pc, ?_⟩
 ·intro i x hx
  rcases hsame i x hx with ⟨rfl,rfl⟩| ⟨_,hx'⟩
  ·obtain ⟨l,o,h1,h2,vs,lo,hi,rfl,g1,g2,g3,g4,glh⟩:=hR.blk i _ hb
   refine ⟨l,_,h1,h2,vs,lo,hi,rfl,g1, ?_,g3,(fun h=>by cases h),glh⟩
   exact g2
  ·obtain ⟨l,o,h1,h2,h3⟩:=hR.blk i x hx'
   exact ⟨l,o,h1,h2,h3.mono (Grow.refl γ) ⟨rfl,rfl,rfl⟩⟩
 ·intro i j x y l l' h1 h2 h3 h4 hne hbl
  rcases hsame i x h1 with ⟨rfl,rfl⟩| ⟨_,hx⟩
  ·rcases hsame j y h2 with ⟨rfl,_⟩| ⟨_,hy⟩
   ·exact absurd rfl hne
   ·rcases hR.sep i j _ y l l' hb hy h3 h4 hne hbl with h|h
    ·exact .inl (aaH _ _ _ _ h)
    ·exact .inr (adu _ _ _ _ _ h rfl)
  ·rcases hsame j y h2 with ⟨rfl,rfl⟩| ⟨_,hy⟩
   ·rcases hR.sep i j x _ l l' hx hb h3 h4 hne hbl with h|h
    ·exact .inl (adu _ _ _ _ _ h rfl)
    ·exact .inr (aaH _ _ _ _ h)
   ·exact hR.sep i j x y l l' hx hy h3 h4 hne hbl
 ·intro i x l h1 h2 h3
  rcases hsame i x h1 with ⟨rfl,rfl⟩| ⟨_,hx⟩
  ·rfl
  ·exact hR.low i x l hx h2 h3
 ·refine hR.rd' (Nat.le_refl _) (fun k _ _=>rfl) (fun k' _=> ?_) (fun id l d h1 h2=>⟨id,l,h1,h2⟩)
  rintro ⟨id,x,l,h1,h2,h3,h4⟩
  rcases hsame id x h1 with ⟨rfl,rfl⟩| ⟨_,hx⟩
  ·cases h2
  ·exact ⟨id,x,l,hx,h2,h3,h4⟩
theorem Step.stale (hR:Rel C base γ s w) {b:Nat} {e:TypeId} {cs:Tr AV} {k fz:Nat} {jX:List Nat} {st sg:Bool} (hb:s.h.get b=some (.cells e cs k fz jX st sg)):
  Step C base γ s w γ ⟨s.h.set b (.cells e cs k fz jX true sg),s.next,s.pc⟩ w:=by
 refine Step.of ⟨Grow.refl γ,hR.stale hb,Keep.refl _ _ _, ?_,Nat.le_refl _,fun _ _ h=>hR.lt h,fun _ l h=>.inl ⟨l,h⟩,fun id x h1 _=>by
  simp only [Tr.dH] at h1
  split at h1
  ·next h=>subst h;exact ⟨_,hb⟩
  ·exact ⟨x,h1⟩⟩
 rintro k' ⟨id,x,l,h1,h2,h3,h4⟩ _
 simp only [Tr.dH] at h1
 split at h1
 ·obtain rfl:=Option.some.inj h1;cases h2
 ·exact ⟨id,x,l,h1,h2,h3,h4⟩
theorem Rel.alias (hR:Rel C base γ s w) {b:Nat} {e:TypeId} {cs:Tr AV} {k fz:Nat} {jX:List Nat} {sg:Bool} (hb:s.h.get b=some (.cells e cs k fz jX false sg))
  {lc:Loc} (hl:γ b=some lc) {arr:Array Value} {lo hi:Nat} (ho:w.heap[lc.blk]? =some (.cells arr e (lo,hi))) {i:TI} (hi':C.T.get e=some i) {e0 len n:Nat}
  (hk:(e0+len) * i.size=k) (hroom:e0+len+n≤lc.cp) {old new:List AV} {cold a1Q:List Value} (hold:aG γ old=some cold) (hnew:aG γ new=some a1Q)
  (a2x:old.length=len * i.size) (adk:new.length=n * i.size) (adi:∀(j:Nat) v,cold[j]? =some v→arr[lc.dl+e0 * i.size+j]? =some v) (_hfz:fz≤k)
  (w':World) (hw':w'.heap=w.heap.setIfInBounds lc.blk (.cells (jW arr (lc.dl+k) a1Q) e (lo,hi))):
  Rel C base (fun id=>if id=s.next then some ⟨lc.blk,lc.dl+e0 * i.size,lc.cp - e0,none⟩ else γ id)
   ⟨(s.h.set b (.cells e cs k fz jX true sg)).set s.next (.cells e (Tr.ofList (old++new)) ((len+n) * i.size) (fz - e0 * i.size) (b::jX) false sg),s.next+1,s.pc⟩ w':=by
 have hS:=hR.stale hb
 obtain ⟨l',o,h1,h2,vs,lo',a8Q,hoo,g1,g2,⟨ii,g3,g4,g5,qd,g7⟩,g6,glh⟩:=hR.blk b _ hb
 rw [hl] at h1;obtain rfl:=Option.some.inj h1
 rw [ho] at h2;obtain rfl:=Option.some.inj h2
 cases hoo
 rw [hi'] at g3;obtain rfl:=Option.some.inj g3
 have hbne:b≠s.next:=Nat.ne_of_lt (hR.lt hl)
 have hlt:lc.blk < w.heap.size:=by
  rcases Nat.lt_or_ge lc.blk w.heap.size with h|h
  ·exact h
  ·rw [Array.getElem?_eq_none h] at ho;cases ho
 have hgrow:Grow γ (fun id=>if id=s.next then some ⟨lc.blk,lc.dl+e0 * i.size,lc.cp - e0,none⟩ else γ id):=by
  intro id l hl
  have:id≠s.next:=Nat.ne_of_lt (hR.lt hl)
  exact ⟨l,by simp [this,hl],rfl,rfl,rfl⟩
 have hmul:(e0+len+n) * i.size≤lc.cp * i.size:=Nat.mul_le_mul_right _ hroom
 have hexp:(e0+len+n) * i.size=k+n * i.size:=by rw [Nat.add_mul,hk]
 have hcl:=bT hnew
 have hget:∀id x,((s.h.set b (.cells e cs k fz jX true sg)).set s.next (.cells e (Tr.ofList (old++new)) ((len+n) * i.size) (fz - e0 * i.size) (b::jX) false sg)).get id=some x→
   (id=s.next∧x=.cells e (Tr.ofList (old++new)) ((len+n) * i.size) (fz - e0 * i.size) (b::jX) false sg)∨(id≠s.next∧(s.h.set b (.cells e cs k fz jX true sg)).get id=some x):=by
  intro id x hx
  rw [Tr.dH] at hx
  split at hx
  ·next h=>exact .inl ⟨h.symm,(Option.some.inj hx).symm⟩
  ·next h=>exact .inr ⟨Ne.symm h,hx⟩
 have hshare:∀id x lx,(s.h.set b (.cells e cs k fz jX true sg)).get id=some x→γ id=some lx→lx.blk=lc.blk→
   ∃e' cs' k' fz' a0c sg',x=.cells e' cs' k' fz' a0c true sg'∧id∈b::jX∧lx.dl+k'≤lc.dl+k:=by
  intro id x lx hx hγ hbl
  by_cases hid:id=b
  ·subst hid
   rw [Tr.get_set_same] at hx;obtain rfl:=Option.some.inj hx
   rw [hl] at hγ;obtain rfl:=Option.some.inj hγ
   exact ⟨_,_,_,_,_,_,rfl,by simp,Nat.le_refl _⟩
  ·have hx':=hx
   rw [Tr.get_set_other _ _ (Ne.symm hid)] at hx'
   rcases hR.sep b id _ x lc lx hb hx' hl hγ (Ne.symm hid) hbl.symm with h|h
   ·cases x<;>simp only [iR] at h
    obtain ⟨h1,h2,h3⟩:=h
    subst h2
    exact ⟨_,_,_,_,_,_,rfl,by simp [h1],h3⟩
   ·cases x<;>simp only [iR] at h
    exact absurd h.2.1 (by simp)
 have hin:lc.dl+k+a1Q.length≤arr.size:=by
  rw [hcl,adk];omega
 refine ⟨?_, ?_, ?_, ?_, ?_, ?_,hR.pc' hgrow, ?_⟩
 ·intro id x hx
  rcases hget id x hx with ⟨rfl,rfl⟩| ⟨hne,hx'⟩
  ·refine ⟨⟨lc.blk,lc.dl+e0 * i.size,lc.cp - e0,none⟩,.cells (jW arr (lc.dl+k) a1Q) e (lo,hi),by simp,by rw [hw'];simp [hlt], ?_⟩
   have hdk:lc.dl+e0 * i.size+len * i.size=lc.dl+k:=by rw [←hk,Nat.add_mul];omega
   refine ⟨_,lo,hi,rfl, ?_, ?_,⟨i,hi', ?_, ?_,qd+e0,by simp only;rw [g7,Nat.add_mul]⟩, ?_,glh⟩
   ·rw [eH];simp only;rw [Nat.add_mul];omega
   ·intro j v hj hv
    rw [Tr.iy,List.getElem?_append] at hv
    split at hv
    ·next hlt'=>
     obtain ⟨c,hc,hcc⟩:=oP j v hold hv
     refine ⟨c, ?_,.inr (kD hgrow _ _ hc)⟩
     rw [jV _ _ _ _ hin,if_neg (by simp only;omega)]
     exact adi j c hcc
    ·next hge=>
     obtain ⟨c,hc,hcc⟩:=oP _ v hnew hv
     refine ⟨c, ?_,.inr (kD hgrow _ _ hc)⟩
     have hjl:j - old.length < a1Q.length:=by
      rcases Nat.lt_or_ge (j - old.length) a1Q.length with h|h
      ·exact h
      ·rw [List.getElem?_eq_none h] at hcc;cases hcc
     rw [jV _ _ _ _ hin,if_pos (by simp only;omega)]
     rw [←hcc];congr 1;simp only;omega
   ·simp only;exact Nat.mul_le_mul_right _ (by omega)
   ·rw [eH];simp only
    have:lc.dl+e0 * i.size+(lc.cp - e0) * i.size=lc.dl+lc.cp * i.size:=by
     rw [Nat.add_assoc,←Nat.add_mul,show e0+(lc.cp - e0)=lc.cp by omega]
    omega
   ·intro _ off h1 h2
    rw [eH]
    rcases g6 rfl off h1 h2 with h|h
    ·left;simp only;omega
    ·right;exact h
  ·obtain ⟨l,o,q1,q2,q3⟩:=hS.blk id x hx'
   by_cases hbl:l.blk=lc.blk
   ·obtain ⟨e',cs',k',fz',a0c,sg',rfl,_,hle⟩:=hshare id x l hx' q1 hbl
    obtain ⟨vs,lo1,hi1,rfl,f1,f2,f3,f4,flh⟩:=q3
    rw [hbl,ho] at q2
    cases q2
    refine ⟨l,.cells (jW arr (lc.dl+k) a1Q) e (lo,hi),by simp [hne,q1],by rw [hw',hbl];simp [hlt], ?_⟩
    refine ⟨_,lo,hi,rfl,by rw [eH];exact f1, ?_,by rw [eH];exact f3,(fun h=>by cases h),glh⟩
    intro j v hj hv
    obtain ⟨c,hc,hcc⟩:=f2 j v hj hv
    refine ⟨c, ?_,hcc.grow hgrow⟩
    rw [jV _ _ _ _ hin,if_neg (by omega)]
    exact hc
   ·refine ⟨l,o,by simp [hne,q1],by rw [hw'];simp [Ne.symm hbl,q2],q3.mono hgrow ⟨rfl,rfl,rfl⟩⟩
 ·intro id id' x y l l' h1 h2 h3 h4 hne hbl
  rcases hget id x h1 with ⟨rfl,rfl⟩| ⟨hn1,hx⟩
  ·rcases hget id' y h2 with ⟨rfl,_⟩| ⟨hn2,hy⟩
   ·exact absurd rfl hne
   ·simp only [if_true] at h3;simp only [hn2,if_false] at h4
    obtain rfl:=Option.some.inj h3
    obtain ⟨e',cs',k',fz',a0c,sg',rfl,hm,hle⟩:=hshare id' y l' hy h4 hbl.symm
    left
    refine ⟨hm,rfl, ?_⟩
    simp only
    have:lc.dl+e0 * i.size+(len+n) * i.size=lc.dl+k+n * i.size:=by rw [←hk,Nat.add_mul,Nat.add_mul];omega
    omega
  ·rcases hget id' y h2 with ⟨rfl,rfl⟩| ⟨hn2,hy⟩
   ·simp only [if_true] at h4;simp only [hn1,if_false] at h3
    obtain rfl:=Option.some.inj h4
    obtain ⟨e',cs',k',fz',a0c,sg',rfl,hm,hle⟩:=hshare id x l hx h3 hbl
    right
    refine ⟨hm,rfl, ?_⟩
    simp only
    have:lc.dl+e0 * i.size+(len+n) * i.size=lc.dl+k+n * i.size:=by rw [←hk,Nat.add_mul,Nat.add_mul];omega
    omega
   ·simp only [hn1,if_false] at h3;simp only [hn2,if_false] at h4
    exact hS.sep id id' x y l l' hx hy h3 h4 hne hbl
 ·intro id hid
  have Sz:s.next+1≤id:=hid
  have:id≠s.next:=by omega
  simp only [this,if_false]
  exact hR.new id (by omega)
 ·intro g hg
  obtain ⟨l,q1,q2,q3⟩:=hR.glob g hg
  have:g≠s.next:=Nat.ne_of_lt (hR.lt q1)
  exact ⟨l,by simp [this,q1],q2,q3⟩
 ·intro id x l h1 h2 h3
  rcases hget id x h1 with ⟨rfl,rfl⟩| ⟨hn1,hx⟩
  ·simp only [if_true] at h2
   obtain rfl:=Option.some.inj h2
   have:=hR.low b _ lc hb hl h3
   cases this
  ·simp only [hn1,if_false] at h2
   exact hS.low id x l hx h2 h3
 ·rw [hw'];simp;exact hR.bs
 ·have hlv:Live γ s lc.blk:=⟨b,_,lc,hb,rfl,hl,rfl⟩
  refine hR.rd' (by rw [hw'];simp) (fun k hk hn=> ?_) (fun k hk=> ?_) (fun id l' d h1 h2=> ?_)
  ·have hne:lc.blk≠k:=fun e=>hn (e▸hlv)
   rw [hw'];simp [hne]
  ·rintro ⟨id,x,l,h1,h2,h3,h4⟩
   rcases hget id x h1 with ⟨rfl,rfl⟩| ⟨hn1,hx⟩
   ·simp only [if_true] at h3
    obtain rfl:=Option.some.inj h3
    exact h4▸hlv
   ·simp only [hn1,if_false] at h3
    rw [Tr.dH] at hx
    split at hx
    ·obtain rfl:=Option.some.inj hx;cases h2
    ·exact ⟨id,x,l,hx,h2,h3,h4⟩
  ·by_cases e:id=s.next
   ·simp only [e,if_true,Option.some.injEq] at h1
    subst h1
    cases h2
   ·simp only [e,if_false] at h1
    exact ⟨id,l',h1,h2⟩
end
end Go.Proofs.YtjioppomopfifaaGreatDoor.Abs
namespace Go.Proofs.YtjioppomopfifaaGreatDoor.Abs
open Go
section
variable {C:Ctx} {base:Nat} {γ:G} {s:S} {w:World} {nt:Nat} {t:Tr AV} {a:Act}
theorem fG.lt (hR:Rel C base γ s w) {id:Nat} {b:jc} {l:Loc} (h:s.h.get id=some b) (hl:γ id=some l):l.blk < w.heap.size:=by
 obtain ⟨l',o,h1,h2,_⟩:=hR.blk id b h
 rw [hl] at h1;obtain rfl:=Option.some.inj h1
 rcases Nat.lt_or_ge l.blk w.heap.size with h|h
 ·exact h
 ·rw [Array.getElem?_eq_none h] at h2;cases h2
theorem Step.ghost (hR:Rel C base γ s w) (d:Dt) (hd:∀F,d.good C w F):
  Step C base γ s w (fun id=>if id=s.next then some ⟨w.heap.size,0,0,some d⟩ else γ id) ⟨s.h,s.next+1,s.pc⟩ w:=by
 have hgrow:Grow γ (fun id=>if id=s.next then some ⟨w.heap.size,0,0,some d⟩ else γ id):=by
  intro id l hl
  have:id≠s.next:=Nat.ne_of_lt (hR.lt hl)
  exact ⟨l,by simp [this,hl],rfl,rfl,rfl⟩
 have hold:∀id b,s.h.get id=some b→id≠s.next:=by
  intro id b h
  obtain ⟨l,o,h1,_⟩:=hR.blk id b h
  exact Nat.ne_of_lt (hR.lt h1)
 have hlive:∀k,Live (fun id=>if id=s.next then some ⟨w.heap.size,0,0,some d⟩ else γ id) ⟨s.h,s.next+1,s.pc⟩ k→Live γ s k:=by
  rintro k ⟨id,b,l,h1,h2,h3,h4⟩
  have:=hold id b h1
  simp only [this,if_false] at h3
  exact ⟨id,b,l,h1,h2,h3,h4⟩
 have hgood:∀Z,eY C γ s w Z→eY C (fun id=>if id=s.next then some ⟨w.heap.size,0,0,some d⟩ else γ id) ⟨s.h,s.next+1,s.pc⟩ w Z:=by
  intro Z hg id l d' h1 h2
  by_cases e:id=s.next
  ·simp only [e,if_true,Option.some.injEq] at h1
   subst h1
   obtain rfl:=Option.some.inj h2
   exact hd _
  ·simp only [e,if_false] at h1
   exact Dt.good.stays (fun k hf=>⟨⟨hf.1,fun hh=>hf.2.1 (hlive k hh),hf.2.2⟩,rfl⟩) d' (hg id l d' h1 h2)
 refine ⟨hgrow,⟨?_, ?_, ?_, ?_, ?_,hR.bs,hR.pc' hgrow,hgood _ hR.rd⟩,Keep.refl γ s w,fun k h _=>hlive k h,Nat.le_succ _,fun _ _ h=>hR.lt h, ?_,fun id b h _=>⟨b,h⟩,fun Z _ hg=>hgood Z hg⟩
 ·intro id b h
  obtain ⟨l,o,h1,h2,h3⟩:=hR.blk id b h
  have:=hold id b h
  exact ⟨l,o,by simp [this,h1],h2,h3.mono hgrow ⟨rfl,rfl,rfl⟩⟩
 ·intro id id' b b' l l' h1 h2 h3 h4 hne hbl
  have e1:=hold id b h1
  have e2:=hold id' b' h2
  simp only [e1,if_false] at h3
  simp only [e2,if_false] at h4
  exact hR.sep id id' b b' l l' h1 h2 h3 h4 hne hbl
 ·intro id hid
  have Sz:s.next+1≤id:=hid
  have:id≠s.next:=by omega
  simp only [this,if_false]
  exact hR.new id (by omega)
 ·intro g hg
  obtain ⟨l,q1,q2,q3⟩:=hR.glob g hg
  have:g≠s.next:=Nat.ne_of_lt (hR.lt q1)
  exact ⟨l,by simp [this,q1],q2,q3⟩
 ·intro id b l h1 h2 h3
  have:=hold id b h1
  simp only [this,if_false] at h2
  exact hR.low id b l h1 h2 h3
 ·intro id l' h
  by_cases e:id=s.next
  ·simp only [e,if_true,Option.some.injEq] at h
   subst h
   exact .inr ⟨by omega,.inl (Nat.le_refl _)⟩
  ·simp only [e,if_false] at h
   exact .inl ⟨l',h⟩
theorem Step.del (hR:Rel C base γ s w) (b:Nat):Step C base γ s w γ ⟨s.h.del b,s.next,s.pc⟩ w:=by
 have hget:∀{id x},(s.h.del b).get id=some x→s.h.get id=some x:=by
  intro id x h
  rw [Tr.Ai] at h
  split at h
  ·cases h
  ·exact h
 have hlive:∀k,Live γ ⟨s.h.del b,s.next,s.pc⟩ k→Live γ s k:=fun k ⟨id,x,l,h1,h2,h3,h4⟩=>⟨id,x,l,hget h1,h2,h3,h4⟩
 refine Step.of ⟨Grow.refl γ,⟨fun id x h=>hR.blk id x (hget h),fun id id' x y l l' h1 h2=>hR.sep id id' x y l l' (hget h1) (hget h2),hR.new,hR.glob,fun id x l h=>hR.low id x l (hget h),hR.bs,hR.pc, ?_⟩,
  Keep.refl _ _ _,fun k h _=>hlive k h,Nat.le_refl _,fun _ _ h=>hR.lt h,fun _ l h=>.inl ⟨l,h⟩,fun id x h _=>⟨x,hget h⟩⟩
 exact hR.rd' (Nat.le_refl _) (fun _ _ _=>rfl) (fun k _ h=>hlive k h) (fun id l d h1 h2=>⟨id,l,h1,h2⟩)
theorem Step.move (hR:Rel C base γ s w) {b:Nat} {el:TypeId} {x:SE} {lc:Loc} {o':Obj} (hb:s.h.get b=some (.vec el x)) (hl:γ b=some lc) {y:jc} {w':World}
  (hw:w'={ w with heap:=w.heap.setIfInBounds lc.blk o' }) (hy:∀γ',Grow γ γ'→fG C γ' lc y o'):
  Step C base γ s w (fun id=>if id=s.next then some lc else γ id) ⟨(s.h.del b).set s.next y,s.next+1,s.pc⟩ w':=by
 have hlt:=fG.lt hR hb hl
 have hgrow:Grow γ (fun id=>if id=s.next then some lc else γ id):=by
  intro id l hl
  have:id≠s.next:=Nat.ne_of_lt (hR.lt hl)
  exact ⟨l,by simp [this,hl],rfl,rfl,rfl⟩
 have hget:∀{id z},((s.h.del b).set s.next y).get id=some z→(id=s.next∧z=y)∨(id≠s.next∧id≠b∧s.h.get id=some z):=by
  intro id z h
  rw [Tr.dH] at h
  split at h
  ·next e=>exact .inl ⟨e.symm,(Option.some.inj h).symm⟩
  ·next e=>
   rw [Tr.Ai] at h
   split at h
   ·cases h
   ·next e2=>exact .inr ⟨Ne.symm e,Ne.symm e2,h⟩
 have hno:∀{id z l},id≠b→s.h.get id=some z→γ id=some l→l.blk≠lc.blk:=by
  intro id z l hne h h2 hbl
  rcases hR.sep id b z _ l lc h hb h2 hl hne hbl with h'|h'
  ·cases z<;>simp [iR] at h'
  ·simp [iR] at h'
 have hlv:Live γ s lc.blk:=⟨b,_,lc,hb,rfl,hl,rfl⟩
 have hheap:∀{k:Nat},k≠lc.blk→w'.heap[k]? =w.heap[k]? :=by
  intro k hk
  rw [hw];simp [Ne.symm hk]
 have hsz:w'.heap.size=w.heap.size:=by rw [hw];simp
 have hlive:∀k,Live (fun id=>if id=s.next then some lc else γ id) ⟨(s.h.del b).set s.next y,s.next+1,s.pc⟩ k→Live γ s k:=by
  rintro k ⟨id,z,l,h1,h2,h3,h4⟩
  rcases hget h1 with ⟨rfl,rfl⟩| ⟨hn1,hn2,hz⟩
  ·simp only [if_true] at h3
   obtain rfl:=Option.some.inj h3
   exact h4▸hlv
  ·simp only [hn1,if_false] at h3
   exact ⟨id,z,l,hz,h2,h3,h4⟩
 have hdat:∀id l' d,(if id=s.next then some lc else γ id)=some l'→l'.v=some d→∃id0 l,γ id0=some l∧l.v=some d:=by
  intro id l' d h1 h2
  by_cases e:id=s.next
  ·rw [if_pos e] at h1
   obtain rfl:=Option.some.inj h1
   exact ⟨b,lc,hl,h2⟩
  ·rw [if_neg e] at h1
   exact ⟨id,l',h1,h2⟩
 have hkeep:Keep γ s w w':=by
  refine ⟨Nat.le_of_eq hsz.symm,by rw [hw],by rw [hw],by rw [hw],fun k o hk hn=> ?_⟩
  rw [hheap fun e=>hn (by rw [e];exact hlv)];exact hk
 refine Step.of' ⟨hgrow,⟨?_, ?_, ?_, ?_, ?_,by rw [hsz];exact hR.bs,hR.pc' hgrow, ?_⟩,hkeep,fun k h _=>hlive k h,Nat.le_succ _,fun _ _ h=>hR.lt h, ?_, ?_⟩ hdat
 ·intro id z h
  rcases hget h with ⟨rfl,rfl⟩| ⟨hn1,hn2,hz⟩
  ·exact ⟨lc,o',by simp,by rw [hw];simp [hlt],hy _ hgrow⟩
  ·obtain ⟨l,o,h1,h2,h3⟩:=hR.blk id z hz
   exact ⟨l,o,by simp [hn1,h1],by rw [hheap (hno hn2 hz h1)];exact h2,h3.mono hgrow ⟨rfl,rfl,rfl⟩⟩
 ·intro id id' z z' l l' h1 h2 h3 h4 hne hbl
  rcases hget h1 with ⟨rfl,rfl⟩| ⟨hn1,hn2,hz⟩
  ·rcases hget h2 with ⟨rfl,_⟩| ⟨hm1,hm2,hz'⟩
   ·exact absurd rfl hne
   ·simp only [if_true] at h3
    obtain rfl:=Option.some.inj h3
    simp only [hm1,if_false] at h4
    exact absurd hbl.symm (hno hm2 hz' h4)
  ·simp only [hn1,if_false] at h3
   rcases hget h2 with ⟨rfl,_⟩| ⟨hm1,hm2,hz'⟩
   ·simp only [if_true] at h4
    obtain rfl:=Option.some.inj h4
    exact absurd hbl (hno hn2 hz h3)
   ·simp only [hm1,if_false] at h4
    exact hR.sep id id' z z' l l' hz hz' h3 h4 hne hbl
 ·intro id hid
  have Sz:s.next+1≤id:=hid
  have:id≠s.next:=by omega
  simp only [this,if_false]
  exact hR.new id (by omega)
 ·intro g hg
  obtain ⟨l,q1,q2,q3⟩:=hR.glob g hg
  have:g≠s.next:=Nat.ne_of_lt (hR.lt q1)
  exact ⟨l,by simp [this,q1],q2,q3⟩
 ·intro id z l h1 h2 h3
  rcases hget h1 with ⟨rfl,rfl⟩| ⟨hn1,hn2,hz⟩
  ·simp only [if_true] at h2
   obtain rfl:=Option.some.inj h2
   have:=hR.low b _ lc hb hl h3
   cases this
  ·simp only [hn1,if_false] at h2
   exact hR.low id z l hz h2 h3
 ·exact hR.rd' (Nat.le_of_eq hsz.symm) (fun k _ hn=>hheap fun e=>hn (e▸hlv)) (fun k _ h=>hlive k h) hdat
 ·intro id l' h
  by_cases e:id=s.next
  ·simp only [e,if_true,Option.some.injEq] at h
   subst h
   exact .inr ⟨by omega,.inr ⟨b,_,lc,hb,hl,rfl⟩⟩
  ·simp only [e,if_false] at h
   exact .inl ⟨l',h⟩
 ·intro id z h hlt'
  rcases hget h with ⟨rfl,_⟩| ⟨_,_,hz⟩
  ·omega
  ·exact ⟨z,hz⟩
theorem YJ (hC:Good C) (hR:Rel C base γ s w) {st xt e:TypeId} {i:TI} {xd:TypeDesc} (hst:C.P.underlying st=some (.slice e)) (hxt:C.P.underlying xt=some xd) (hi:C.T.get e=some i) (hT:EW C.P e i)
  {rest:List TypeId} {rt:TypeId} {z:List AV} (hz:i.zero=some z) (hzl:z.length=i.size) {b:Nat} {n c:SE} {cb cx:Value} (hcb:aA γ (.rE b n c)=some cb) {cnt:Nat} {new:List AV} {cs:List Value}
  (hcs:aG γ new=some cs) (hcl:new.length=cnt * i.size) (hsrc:a7Q C.P w xd i e cx cnt cs):
  (a1W C s e i.size i.bytes b n cnt new).path (fF C base γ s w ((VS (Builtin.append_ ⟨st::xt::rest⟩ rt ⟨[cb,cx]⟩)).run C.P w)):=by
 obtain ⟨lc,k,q,hl,hn0,hc0,hk,hq,rfl⟩:=gZ hcb
 unfold a1W
 cases hb:s.h.get b with
 |none=>trivial
 |some x0=>
  cases x0 with
  |vec el x=>
   obtain ⟨l',o,h1,h2,vs,lo,hi',es,rfl,g1,g2,⟨i',g3,g4,g5,g6,g7⟩,g8,g9⟩:=hR.blk b _ hb
   rw [hl] at h1;obtain rfl:=Option.some.inj h1
   refine R.bH _ (R.aU _ _) fun _ hg=> ?_
   simp only [Bool.and_eq_true,Bool.not_eq_true'] at hg
   obtain ⟨e1,e2',e3',e4,e5,e6⟩:=hg
   obtain rfl:=Nat.eq_of_beq_eq_true e1
   rw [hi] at g3;obtain rfl:=Option.some.inj g3
   have hsz0:i.size≠0:=by intro h;rw [h] at e5;cases e5
   have hks:(aJ C el).length=i.size:=g4.symm
   cases hy:yS C (aJ C el) new (aJ C el) (.a2 (.tk i.size) x n) with
   |none=>trivial
   |some y=>
    refine R.gu hR fun hn=> ?_
    have hbd:k * i.size≤es.length∧(k+cnt) * i.bytes≤68719476736∧k+cnt≤68719476736:=by
     rcases Classical.em (k * i.size≤es.length∧(k+cnt) * i.bytes≤68719476736∧k+cnt≤68719476736) with h|h
     ·exact h
     ·exact absurd ⟨_,_,_,rfl,fun hh=>h hh.2⟩ (iV hn (sJ g1 hn0))
    have htk:aO γ (.a2 (.tk i.size) x n)=some (.ls (aJ C el) (es.take (k * i.size))):=by
     simp only [aO,g1,hn0,Option.bind_some,e2]
     rw [if_pos hbd.1]
    have htl:(es.take (k * i.size)).length=k * i.size:=by rw [List.length_take];omega
    obtain ⟨ds,hys,hds⟩:=zI new (aJ C el) _ y _ cs hcs htk ⟨0,rfl,Nat.zero_le _,by rw [htl,hks,Nat.mul_mod_left];simp⟩ hy
    have C9:cs.length=cnt * i.size:=by rw [bT hcs,hcl]
    have hdl:ds.length=cnt * i.size:=by rw [←C9,←hds,List.length_map]
    have hadd:aO γ (.a2 (.bin .add) n (.int .i64 (.ofNat cnt)))=some (.val (.int .i64 (.ofNat (k+cnt)))):=by
     simp only [aO,hn0,Option.bind_some,e2,kG,dB,if_true,intOp]
     have:IntKind.i64.wrap (Int.ofNat k+Int.ofNat cnt)=Int.ofNat (k+cnt):=by
      have:=wrap_small (k+cnt) (by omega)
      rw [show Int.ofNat k+Int.ofNat cnt=((k+cnt:Nat):Int) by simp]
      exact this
     rw [this]
     rfl
    have hall:∀(j:Nat) d,(es.take (k * i.size)++ds)[j]? =some d→(j < k * i.size∧es[j]? =some d)∨(k * i.size≤j∧j < k * i.size+cs.length∧cs[j - k * i.size]? =some d.v):=by
     intro j d hj
     rw [List.getElem?_append] at hj
     split at hj
     ·next h=>
      rw [htl] at h
      rw [List.getElem?_take,if_pos h] at hj
      exact .inl ⟨h,hj⟩
     ·next h=>
      rw [htl] at h hj
      have hlt:j - k * i.size < ds.length:=(List.getElem?_eq_some_iff.1 hj).1
      refine .inr ⟨by omega,by omega, ?_⟩
      rw [←hds,List.getElem?_map,hj]
      rfl
    have hlen:(es.take (k * i.size)++ds).length=(k+cnt) * i.size:=by rw [List.length_append,htl,hdl,Nat.add_mul]
    have hlt0:Int.ofNat k < Int.ofNat (k+cnt):=by
     have:cnt≠0:=by intro h;rw [h] at e4;cases e4
     simp only [Int.ofNat_eq_natCast]
     omega
    rcases Nat.lt_or_ge q (k+cnt) with hcap|hcap
    ·
     have Ij:((es.take (k * i.size)).map Dt.v).length=k * i.size:=by rw [List.length_map,htl]
     have hco:∀d,(Builtin.firstCells i.size k (.slice (some ⟨lc.blk,lc.dl,none⟩) k q)).run C.P { w with drawn:=d }=.ok ⟨(es.take (k * i.size)).map Dt.v⟩ { w with drawn:=d }:=by
      intro d
      simp only [Builtin.firstCells]
      refine iH (fun j v hj=> ?_) _ Ij
      rw [List.getElem?_map,List.getElem?_take] at hj
      split at hj
      ·obtain ⟨dd,hdd,rfl⟩:=Option.map_eq_some_iff.1 hj
       have:=g2 j dd hdd
       simp only [World.cell?,h2]
       exact this
      ·cases hj
     obtain ⟨cap,rest',hc1,hc2,hrun⟩:=pI (w:=w) hC hst hxt hi hT (rest:=rest) (rt:=rt) (b:=some ⟨lc.blk,lc.dl,none⟩) (sLen:=k) (sCap:=q) hz hzl hsrc hcap hbd.2.1 hbd.2.2 hco Ij C9
     have st0:=Step.del hR b
     have st1:=Step.alloc (base:=base) st0.rel (.vec el y) (.cells (⟨(es.take (k * i.size)).map Dt.v⟩++⟨cs⟩++rest') el (0,0)) 0 cap
      (w':={ w with drawn:=w.drawn+1,heap:=w.heap.push (.cells (⟨(es.take (k * i.size)).map Dt.v⟩++⟨cs⟩++rest') el (0,0)) }) rfl rfl rfl rfl
      (fun γ' hg=>by
        refine ⟨_,0,0,es.take (k * i.size)++ds,rfl,dP hg _ _ hys,fun j d hj=> ?_,⟨i,hi,g4, ?_, ?_,0,by simp⟩,fun off _ h=>absurd h (Nat.not_lt_zero _),Nat.le_refl _⟩
        ·have hj2:(((es.take (k * i.size)).map Dt.v)++cs)[j]? =some d.v:=by
           rw [←hds,←List.map_append,List.getElem?_map,hj];rfl
         have hlt:j < (((es.take (k * i.size)).map Dt.v)++cs).length:=(List.getElem?_eq_some_iff.1 hj2).1
         rw [Nat.zero_add,Array.getElem?_append_left (by simpa using hlt)]
         simpa using hj2
        ·rw [hlen];exact Nat.mul_le_mul_right _ hc1
        ·simp only [Array.size_append,List.size_toArray]
         rw [Ij,C9,hc2,←Nat.add_mul,←Nat.add_mul]
         rw [show k+cnt+(cap - (k+cnt))=cap by omega]
         simp)
     have st2:=Step.ghost st1.rel (.val (.int .i64 (.ofNat cap))) (fun _=>rfl)
     have st3:=Step.add st2.rel (f:=.inr n (.a2 (.bin .add) n (.int .i64 (.ofNat cnt)))) rfl ⟨_,_,_,dP ((st0.trans st1).trans st2).grow _ _ hn0,dP ((st0.trans st1).trans st2).grow _ _ hadd,Int.natCast_nonneg k,hlt0⟩
     have hst:=((st0.trans st1).trans st2).trans st3
     refine ⟨_,.slice (some ⟨w.heap.size,0,none⟩) (k+cnt) cap,_, ?_, ?_,hst⟩
     ·simp only [VS,Sem.run_bind,hrun,Result.andThen_ok];rfl
     ·have e0:s.next≠s.next+1:=by omega
      have a1:=dP hst.grow _ _ hadd
      simp only [aA,Option.bind_eq_some_iff]
      refine ⟨⟨w.heap.size,0,cap,none⟩, ?_,_,a1,.val (.int .i64 (.ofNat cap)), ?_, ?_⟩
      ·exact (if_neg e0).trans (if_pos trivial)
      ·show ((if s.next+1=s.next+1 then _ else _:Option Loc).bind fun l=>l.v)=_
       rw [if_pos rfl];rfl
      ·exact wW (l:=⟨w.heap.size,0,cap,none⟩) hc1 (Nat.le_refl _)
    ·
     have hkk:(k+cnt) * i.size≤lc.cp * i.size:=Nat.mul_le_mul_right _ (by omega)
     have hkm:(k+cnt) * i.size=k * i.size+cnt * i.size:=Nat.add_mul _ _ _
     have hrun:=jk (P:=C.P) lc.blk el lo hi' cs (lc.dl+k * i.size) 0 vs w h2 (by omega) (lX e6 hcs) (by
      intro p hp1 hp2 hp
      rcases g8 p hp.1 hp.2 with h|h<;>omega)
     have hap:=jP (w:=w) hst hxt hT (rest:=rest) (rt:=rt) (b:=some ⟨lc.blk,lc.dl,none⟩) (sLen:=k) (sCap:=q) hsrc hcap
      (fun ad h=>by obtain rfl:=Option.some.inj h;rw [addr_add];exact hrun) (fun h=>by cases h)
     have st1:=Step.move hR hb hl (y:=.vec el y) (o':=.cells (jW vs (lc.dl+k * i.size+0) cs) el (lo,hi')) rfl (fun γ' hg=>by
      refine ⟨_,lo,hi',es.take (k * i.size)++ds,rfl,dP hg _ _ hys,fun j d hj=> ?_,⟨i,hi,g4,by rw [hlen];exact hkk,by rw [eH];exact g6,g7⟩,fun off a b=>by rw [eH];exact g8 off a b,g9⟩
      rw [jV _ _ _ _ (by omega)]
      rcases hall j d hj with ⟨h,hh⟩| ⟨h,h',hh⟩
      ·rw [if_neg (by omega)];exact g2 j d hh
      ·rw [if_pos (by omega),←hh];congr 1;omega)
     have st2:=Step.ghost st1.rel (.val (.int .i64 (.ofNat q))) (fun _=>rfl)
     have st3:=Step.add st2.rel (f:=.inr n (.a2 (.bin .add) n (.int .i64 (.ofNat cnt)))) rfl ⟨_,_,_,dP (st1.trans st2).grow _ _ hn0,dP (st1.trans st2).grow _ _ hadd,Int.natCast_nonneg k,hlt0⟩
     have hst:=(st1.trans st2).trans st3
     refine ⟨_,.slice (some ⟨lc.blk,lc.dl,none⟩) (k+cnt) q,_, ?_, ?_,hst⟩
     ·simp only [VS,Sem.run_bind,hap,Result.andThen_ok];rfl
     ·have e0:s.next≠s.next+1:=by omega
      have a1:=dP hst.grow _ _ hadd
      simp only [aA,Option.bind_eq_some_iff]
      refine ⟨lc, ?_,_,a1,.val (.int .i64 (.ofNat q)), ?_, ?_⟩
      ·exact (if_neg e0).trans (if_pos trivial)
      ·show ((if s.next+1=s.next+1 then _ else _:Option Loc).bind fun l=>l.v)=_
       rw [if_pos rfl];rfl
      ·exact wW hcap hq
  |_=>trivial
theorem YK (hC:Good C) (hR:Rel C base γ s w) {st xt e:TypeId} {i:TI} {xd:TypeDesc} (hst:C.P.underlying st=some (.slice e)) (hxt:C.P.underlying xt=some xd) (hi:C.T.get e=some i) (hT:EW C.P e i)
  {rest:List TypeId} {rt:TypeId} {z:List AV} (hz:i.zero=some z) (hzl:z.length=i.size) {b:Nat} {n c:SE} {cb cx:Value} (hcb:aA γ (.rE b n c)=some cb) {X:SE} {tx:ByteArray} (hX:aO γ X=some (.val (.string tx)))
  (hsrc:i.size=1→a7Q C.P w xd i e cx tx.size (tx.data.toList.map fun b=>Value.int .u8 b.toNat)):
  (a1X C s e i.size i.bytes b n X).path (fF C base γ s w ((VS (Builtin.append_ ⟨st::xt::rest⟩ rt ⟨[cb,cx]⟩)).run C.P w)):=by
 obtain ⟨lc,k,q,hl,hn0,hc0,hk,hq,rfl⟩:=gZ hcb
 unfold a1X
 cases hb:s.h.get b with
 |none=>trivial
 |some x0=>
  cases x0 with
  |vec el x=>
   obtain ⟨l',o,h1,h2,vs,lo,hi',es,rfl,g1,g2,⟨i',g3,g4,g5,g6,g7⟩,g8,g9⟩:=hR.blk b _ hb
   rw [hl] at h1;obtain rfl:=Option.some.inj h1
   refine R.bH _ (R.aU _ _) fun _ hg=> ?_
   simp only [Bool.and_eq_true] at hg
   obtain ⟨e1',e2',e3'⟩:=hg
   obtain rfl:=Nat.eq_of_beq_eq_true e1'
   rw [hi] at g3;obtain rfl:=Option.some.inj g3
   have hsz1:i.size=1:=Nat.eq_of_beq_eq_true e2'
   have hks:=nV e3'
   have hsrc:=hsrc hsz1
   revert hsrc
   generalize hcnt:tx.size=cnt
   generalize abN:(tx.data.toList.map fun b=>Value.int .u8 b.toNat)=cs
   intro hsrc
   refine R.gu hR fun hn=> ?_
   have hbd:k * i.size≤es.length∧(k+cnt) * i.bytes≤68719476736∧k+cnt≤68719476736:=by
    rcases Classical.em (k≤es.length∧(k+cnt) * i.bytes≤68719476736∧k+cnt≤68719476736) with h|h
    ·rw [hsz1,Nat.mul_one];exact h
    ·exact absurd ⟨_,_,_,_,rfl,fun hh=>h (by rw [←hcnt];exact hh.2)⟩ (iV hn (JC g1 hn0 hX))
   have htk:aO γ (.a2 (.tk 1) x n)=some (.ls (aJ C el) (es.take (k * i.size))):=by
    simp only [aO,g1,hn0,Option.bind_some,e2,hsz1]
    rw [if_pos (by have:=hbd.1;rw [hsz1] at this;exact this)]
   have htl:(es.take (k * i.size)).length=k * i.size:=by rw [List.length_take];omega
   obtain ⟨ds,hds0⟩:∃ds,ds=bytesD tx.data.toList:=⟨_,rfl⟩
   have hds:ds.map Dt.v=cs:=by rw [hds0,←abN];simp [bytesD,Dt.v]
   obtain ⟨y,hy⟩:∃y,y=SE.a2 .cat (.a2 (.tk 1) x n) (.a1 .sb X):=⟨_,rfl⟩
   have hys:aO γ y=some (.ls (aJ C el) (es.take (k * i.size)++ds)):=by
    rw [hy]
    show ((aO γ (.a2 (.tk 1) x n)).bind fun u=>(aO γ (.a1 .sb X)).bind (e2 .cat u))=_
    rw [htk]
    simp [aO,hX,e1,e2,hks,hds0]
   rw [←hy]
   have C9:cs.length=cnt * i.size:=by rw [←abN,List.length_map,hsz1,Nat.mul_one,←hcnt];rfl
   have hdl:ds.length=cnt * i.size:=by rw [←C9,←hds,List.length_map]
   have hlX:aO γ (.a1 .len X)=some (.val (.int .i64 (.ofNat cnt))):=by
    simp only [aO,hX,Option.bind_some,e1,←hcnt];rfl
   have hadd:aO γ (.a2 (.bin .add) n (.a1 .len X))=some (.val (.int .i64 (.ofNat (k+cnt)))):=by
    show ((aO γ n).bind fun u=>(aO γ (.a1 .len X)).bind (e2 (.bin .add) u))=_
    rw [hn0,hlX]
    simp only [Option.bind_some,e2,kG,dB,if_true,intOp]
    have:IntKind.i64.wrap (Int.ofNat k+Int.ofNat cnt)=Int.ofNat (k+cnt):=by
     have:=wrap_small (k+cnt) (by omega)
     rw [show Int.ofNat k+Int.ofNat cnt=((k+cnt:Nat):Int) by simp]
     exact this
    rw [this]
    rfl
   have hone:∀v∈cs,v.oneCell'=true:=by
    intro v hv
    rw [←abN] at hv
    obtain ⟨b, -,rfl⟩:=List.mem_map.1 hv
    rfl
   have hall:∀(j:Nat) d,(es.take (k * i.size)++ds)[j]? =some d→(j < k * i.size∧es[j]? =some d)∨(k * i.size≤j∧j < k * i.size+cs.length∧cs[j - k * i.size]? =some d.v):=by
    intro j d hj
    rw [List.getElem?_append] at hj
    split at hj
    ·next h=>
     rw [htl] at h
     rw [List.getElem?_take,if_pos h] at hj
     exact .inl ⟨h,hj⟩
    ·next h=>
     rw [htl] at h hj
     have hlt:j - k * i.size < ds.length:=(List.getElem?_eq_some_iff.1 hj).1
     refine .inr ⟨by omega,by omega, ?_⟩
     rw [←hds,List.getElem?_map,hj]
     rfl
   have hlen:(es.take (k * i.size)++ds).length=(k+cnt) * i.size:=by rw [List.length_append,htl,hdl,Nat.add_mul]
   rcases Nat.lt_or_ge q (k+cnt) with hcap|hcap
   ·
    have Ij:((es.take (k * i.size)).map Dt.v).length=k * i.size:=by rw [List.length_map,htl]
    have hco:∀d,(Builtin.firstCells i.size k (.slice (some ⟨lc.blk,lc.dl,none⟩) k q)).run C.P { w with drawn:=d }=.ok ⟨(es.take (k * i.size)).map Dt.v⟩ { w with drawn:=d }:=by
     intro d
     simp only [Builtin.firstCells]
     refine iH (fun j v hj=> ?_) _ Ij
     rw [List.getElem?_map,List.getElem?_take] at hj
     split at hj
     ·obtain ⟨dd,hdd,rfl⟩:=Option.map_eq_some_iff.1 hj
      have:=g2 j dd hdd
      simp only [World.cell?,h2]
      exact this
     ·cases hj
    obtain ⟨cap,rest',hc1,hc2,hrun⟩:=pI (w:=w) hC hst hxt hi hT (rest:=rest) (rt:=rt) (b:=some ⟨lc.blk,lc.dl,none⟩) (sLen:=k) (sCap:=q) hz hzl hsrc hcap hbd.2.1 hbd.2.2 hco Ij C9
    have st0:=Step.del hR b
    have st1:=Step.alloc (base:=base) st0.rel (.vec el y) (.cells (⟨(es.take (k * i.size)).map Dt.v⟩++⟨cs⟩++rest') el (0,0)) 0 cap
     (w':={ w with drawn:=w.drawn+1,heap:=w.heap.push (.cells (⟨(es.take (k * i.size)).map Dt.v⟩++⟨cs⟩++rest') el (0,0)) }) rfl rfl rfl rfl
     (fun γ' hg=>by
       refine ⟨_,0,0,es.take (k * i.size)++ds,rfl,dP hg _ _ hys,fun j d hj=> ?_,⟨i,hi,g4, ?_, ?_,0,by simp⟩,fun off _ h=>absurd h (Nat.not_lt_zero _),Nat.le_refl _⟩
       ·have hj2:(((es.take (k * i.size)).map Dt.v)++cs)[j]? =some d.v:=by
          rw [←hds,←List.map_append,List.getElem?_map,hj];rfl
        have hlt:j < (((es.take (k * i.size)).map Dt.v)++cs).length:=(List.getElem?_eq_some_iff.1 hj2).1
        rw [Nat.zero_add,Array.getElem?_append_left (by simpa using hlt)]
        simpa using hj2
       ·rw [hlen];exact Nat.mul_le_mul_right _ hc1
       ·simp only [Array.size_append,List.size_toArray]
        rw [Ij,C9,hc2,←Nat.add_mul,←Nat.add_mul]
        rw [show k+cnt+(cap - (k+cnt))=cap by omega]
        simp)
    have st2:=Step.ghost st1.rel (.val (.int .i64 (.ofNat cap))) (fun _=>rfl)
    have hst:=(st0.trans st1).trans st2
    refine ⟨_,.slice (some ⟨w.heap.size,0,none⟩) (k+cnt) cap,_, ?_, ?_,hst⟩
    ·simp only [VS,Sem.run_bind,hrun,Result.andThen_ok];rfl
    ·have e0:s.next≠s.next+1:=by omega
     have a1:=dP hst.grow _ _ hadd
     simp only [aA,Option.bind_eq_some_iff]
     refine ⟨⟨w.heap.size,0,cap,none⟩, ?_,_,a1,.val (.int .i64 (.ofNat cap)), ?_, ?_⟩
     ·exact (if_neg e0).trans (if_pos trivial)
     ·show ((if s.next+1=s.next+1 then _ else _:Option Loc).bind fun l=>l.v)=_
      rw [if_pos rfl];rfl
     ·exact wW (l:=⟨w.heap.size,0,cap,none⟩) hc1 (Nat.le_refl _)
   ·
    have hkk:(k+cnt) * i.size≤lc.cp * i.size:=Nat.mul_le_mul_right _ (by omega)
    have hkm:(k+cnt) * i.size=k * i.size+cnt * i.size:=Nat.add_mul _ _ _
    have hrun:=jk (P:=C.P) lc.blk el lo hi' cs (lc.dl+k * i.size) 0 vs w h2 (by omega) hone (by
     intro p hp1 hp2 hp
     rcases g8 p hp.1 hp.2 with h|h<;>omega)
    have hap:=jP (w:=w) hst hxt hT (rest:=rest) (rt:=rt) (b:=some ⟨lc.blk,lc.dl,none⟩) (sLen:=k) (sCap:=q) hsrc hcap
     (fun ad h=>by obtain rfl:=Option.some.inj h;rw [addr_add];exact hrun) (fun h=>by cases h)
    have st1:=Step.move hR hb hl (y:=.vec el y) (o':=.cells (jW vs (lc.dl+k * i.size+0) cs) el (lo,hi')) rfl (fun γ' hg=>by
     refine ⟨_,lo,hi',es.take (k * i.size)++ds,rfl,dP hg _ _ hys,fun j d hj=> ?_,⟨i,hi,g4,by rw [hlen];exact hkk,by rw [eH];exact g6,g7⟩,fun off a b=>by rw [eH];exact g8 off a b,g9⟩
     rw [jV _ _ _ _ (by omega)]
     rcases hall j d hj with ⟨h,hh⟩| ⟨h,h',hh⟩
     ·rw [if_neg (by omega)];exact g2 j d hh
     ·rw [if_pos (by omega),←hh];congr 1;omega)
    have st2:=Step.ghost st1.rel (.val (.int .i64 (.ofNat q))) (fun _=>rfl)
    have hst:=st1.trans st2
    refine ⟨_,.slice (some ⟨lc.blk,lc.dl,none⟩) (k+cnt) q,_, ?_, ?_,hst⟩
    ·simp only [VS,Sem.run_bind,hap,Result.andThen_ok];rfl
    ·have e0:s.next≠s.next+1:=by omega
     have a1:=dP hst.grow _ _ hadd
     simp only [aA,Option.bind_eq_some_iff]
     refine ⟨lc, ?_,_,a1,.val (.int .i64 (.ofNat q)), ?_, ?_⟩
     ·exact (if_neg e0).trans (if_pos trivial)
     ·show ((if s.next+1=s.next+1 then _ else _:Option Loc).bind fun l=>l.v)=_
      rw [if_pos rfl];rfl
     ·exact wW hcap hq
  |_=>trivial
end
end Go.Proofs.YtjioppomopfifaaGreatDoor.Abs
namespace Go.Proofs.YtjioppomopfifaaGreatDoor.Abs
open Go
section
variable {C:Ctx} {base:Nat} {γ:G} {s:S} {w:World} {nt:Nat} {t:Tr AV} {a:Act}
theorem rM {P:Program} {n m:Nat} {x:AV} {cx:Value} (hx:aA γ x=some cx) {r:Array Value} (w:World) (d:Nat) (h:(Builtin.firstCells n m cx).run P w=.ok r w)
  (hc:∀blk off j v,cx=.slice (some ⟨blk,off,none⟩) j v→True):(Builtin.firstCells n m cx).run P { w with drawn:=d }=.ok r { w with drawn:=d }:=by
 cases cx with
 |slice b l c=>
  cases b with
  |none=>simp only [Builtin.firstCells,Sem.run_pure,Result.ok.injEq] at h ⊢;exact ⟨h.1,trivial⟩
  |some ad=>
   simp only [Builtin.firstCells] at h ⊢
   have key:∀(k i:Nat) (acc:Array Value) (r:Array Value),(loadCellsFrom ad i k acc).run P w=.ok r w→(loadCellsFrom ad i k acc).run P { w with drawn:=d }=.ok r { w with drawn:=d }:=by
    intro k
    induction k with
    |zero=>intro i acc r h;simp only [loadCellsFrom,Sem.run_pure,Result.ok.injEq] at h ⊢;exact ⟨h.1,trivial⟩
    |succ k ih=>
     intro i acc r h
     simp only [loadCellsFrom,Sem.run_bind,run_load] at h ⊢
     have hcell:World.cell? { w with drawn:=d } (ad.add i)=w.cell? (ad.add i):=rfl
     have aec:World.farLoad P { w with drawn:=d } (ad.add i) (Mode.plain==Mode.atomic)=w.farLoad P (ad.add i) (Mode.plain==Mode.atomic):=rfl
     rw [hcell,aec]
     cases hq:w.cell? (ad.add i) with
     |some v=>rw [hq] at h;simp only [Result.andThen_ok] at h ⊢;exact ih _ _ _ h
     |none=>
      rw [hq] at h
      cases hf:w.farLoad P (ad.add i) (Mode.plain==Mode.atomic) with
      |ok x=>rw [hf] at h;simp only [Result.andThen_ok] at h ⊢;exact ih _ _ _ h
      |error e=>rw [hf] at h;simp only [Result.andThen_halt] at h;cases h
   exact key _ _ _ _ h
 |string s'=>simp only [Builtin.firstCells,Sem.run_pure,Result.ok.injEq] at h ⊢;exact ⟨h.1,trivial⟩
 |_=>simp [Builtin.firstCells] at h
theorem YL (hC:Good C) (hR:Rel C base γ s w) {e:TypeId} {i:TI} (hi:C.T.get e=some i) (hT:EW C.P e i) (xd:TypeDesc) {z:List AV} (hz:i.zero=some z) (hzl:z.length=i.size) (x:AV) (cx:Value) (hx:aA γ x=some cx):
  (a7K s e i.size i.bytes z x (FT xd)).path (fun r=>∃cs,aG γ r.2=some cs∧r.2.length=r.1 * i.size∧a7Q C.P w xd i e cx r.1 cs):=by
 cases hxi:FT xd with
 |false=>
  refine R.bg ?_ (yx hC hR e hi x cx hx)
  rintro r ⟨cs,hcs,hcl,hlen,hfc⟩
  have hfull:(Builtin.firstCells i.size r.1 cx).run C.P w=.ok ⟨cs⟩ w:=by
   have:=hfc r.1 (Nat.le_refl _)
   rw [this]
   congr 2
   rw [List.take_of_length_le (by rw [bT hcs,hcl];exact Nat.le_refl _)]
  exact ⟨cs,hcs,hcl,.inl ⟨hxi,hlen,fun d=>rM (γ:=γ) hx w d hfull (fun _ _ _ _ _=>trivial)⟩⟩
 |true=>
  show (do let n ←BA x;bP (Nat.ble (Nat.mul n i.bytes) 68719476736 && Nat.ble n 68719476736) _;R.ok (n,Fp z n):R (Nat×List AV)).path _
  refine R.bH _ (lQ x) fun n hn=> ?_
  obtain ⟨k,rfl⟩:=hn
  refine R.bH _ (R.aU _ _) fun _ hg=> ?_
  simp only [Bool.and_eq_true] at hg
  have h1:n * i.bytes≤68719476736:=Nat.le_of_ble_eq_true hg.1
  have h2:n≤68719476736:=Nat.le_of_ble_eq_true hg.2
  simp only [aA,Option.some.injEq] at hx
  subst hx
  obtain ⟨zv,hzv,hzc⟩:=hT.zero z hz
  have hr:=hzc γ
  have hrl:zv.cells.toList.length=i.size:=by rw [bT hr,hzl]
  obtain ⟨q,hq1,hq2,hq3⟩:=nZ hr n
  refine ⟨q,hq1, ?_,.inr ⟨hxi,⟨k,rfl⟩,h1,h2,zv,hzv, ?_⟩⟩
  ·have:=bT hq1
   show (Fp z n).length=n * i.size
   rw [←this,hq2,hrl]
  ·have hn:n * i.size=n * zv.cells.toList.length:=by rw [hrl]
   by_cases h0:n * i.size=0
   ·rw [if_pos h0]
    have:q=[]:=List.eq_nil_of_length_eq_zero (by rw [hq2,←hn];exact h0)
    rw [this]
   ·rw [if_neg h0]
    unfold Builtin.zeroCells
    have hsz:zv.cells.size=i.size:=by simpa using hrl
    rw [hsz]
    have:=yR (n:=n * i.size) (m:=n) hn zv.cells (fun _=>rfl) (q:=q) (by rw [hq2,←hn]) (fun j hj=>hq3 j (by rw [←hn];exact hj))
    rw [hsz] at this
    exact this
theorem Yl {int:Bool} {x base:AV} {b:Nat} {n e:SE} (h:Ve int x base=some (b,n,e)):int=false∧∃c,x=.opq .str e∧base=.rE b n c:=by
 unfold Ve at h
 cases int with
 |true=>cases h
 |false=>
  simp only at h
  split at h
  ·rename_i k e'
   cases hk:o7 k .str with
   |false=>rw [hk] at h;cases h
   |true=>
    rw [hk] at h
    simp only at h
    split at h
    ·simp only [Option.some.injEq,Prod.mk.injEq] at h
     obtain ⟨rfl,rfl,rfl⟩:=h
     exact ⟨rfl,_,by rw [jG hk],rfl⟩
    ·cases h
  ·cases h
theorem a3J (hC:Good C) (hR:Rel C base γ s w) (argTypes:List TypeId) (args:List AV) (aY:List Value) (hargs:aG γ args=some aY) (rt:TypeId):
  (Ru C s argTypes args).path (fF C base γ s w ((VS (Builtin.append_ ⟨argTypes⟩ rt ⟨aY⟩)).run C.P w)):=by
 unfold Ru
 split
 case h_2=>trivial
 rename_i bv x st xt rest
 obtain ⟨cb,cl1,hcb,h1,rfl⟩:=aP.1 hargs
 obtain ⟨cx,cl2,hcx,h2,rfl⟩:=aP.1 h1
 simp only [aG,Option.some.injEq] at h2;subst h2
 refine R.bH _ (bJ hC st) fun d hd=> ?_
 cases d with
 |slice e=>
  refine R.bH _ (dF hC e) fun i hi=> ?_
  refine R.bH _ (bJ hC xt) fun xd hxd=> ?_
  refine R.bH _ (R.aU _ _) fun _ hg=> ?_
  have hsz0:Nat.beq i.size 0=false:=by simpa using hg
  have hsz:i.size≠0:=by intro h;rw [h] at hsz0;cases hsz0
  refine R.bH (fun z=>i.zero=some z) ?_ fun z hz=> ?_
  ·refine R.bg ?_ (oH hC e)
   rintro z ⟨i',_,q1,q2,_⟩
   rw [hi.1] at q1;obtain rfl:=Option.some.inj q1;exact q2
  refine R.bH _ (R.aU _ _) fun _ hg2=> ?_
  have hzl:z.length=i.size:=Nat.eq_of_beq_eq_true hg2
  cases hss:Ve (FT xd) x bv with
  |some p=>
   obtain ⟨b,n,ex⟩:=p
   obtain ⟨hxi,c,rfl,rfl⟩:=Yl hss
   obtain ⟨dd,hX,⟨tx,rfl⟩,rfl⟩:=fE hcx
   exact YK hC hR hd hxd hi.1 hi.2 hz hzl hcb hX (fun h1=>.inl ⟨hxi,fun _=>rfl,fun d=>by
    obtain ⟨⟨l⟩⟩:=tx
    have hl:(ByteArray.mk ⟨l⟩).size=l.length:=rfl
    simp only [Builtin.firstCells,Dt.v,hl,Bg]
    rw [Sem.run_pure]
    congr 1
    apply Array.ext'
    simp⟩)
  |none=>
  simp only
  refine R.bH _ (YL hC hR hi.1 hi.2 xd hz hzl x cx hcx) fun r hr=> ?_
  obtain ⟨cs,hcs,hcl,hsrc⟩:=hr
  have C9:cs.length=r.1 * i.size:=by rw [bT hcs,hcl]
  have PL:∀(b:Option Addr) (sLen sCap:Nat) (co:List Value) (old:List AV),cb=.slice b sLen sCap→aG γ old=some co→old.length=sLen * i.size→sCap < sLen+r.1→
    (Builtin.firstCells i.size sLen (.slice b sLen sCap)).run C.P w=.ok ⟨co⟩ w→
    (KA s e i.size i.bytes (sLen+r.1) (old++r.2)).path (fF C base γ s w ((VS (Builtin.append_ ⟨st::xt::rest⟩ rt ⟨[cb,cx]⟩)).run C.P w)):=by
   intro b sLen sCap co old hcb' hold a2x hcap hco
   refine R.bH _ (R.aU _ _) fun _ hg=> ?_
   simp only [Bool.and_eq_true] at hg
   have hby:(sLen+r.1) * i.bytes≤68719476736:=Nat.le_of_ble_eq_true hg.1.1
   have hne:sLen+r.1≤68719476736:=Nat.le_of_ble_eq_true hg.1.2
   obtain ⟨cap,rest',hc1,hc2,hrun⟩:=pI (w:=w) hC hd hxd hi.1 hi.2 (rest:=rest) (rt:=rt) hz hzl hsrc hcap hby hne
    (fun d=>rM (γ:=γ) (x:=bv) (by rw [hcb,hcb']) w d hco (fun _ _ _ _ _=>trivial))
    (by rw [bT hold,a2x]) C9
   have hall:=iG hold hcs
   have hstep:=Step.alloc (base:=base) hR (jL e (old++r.2)) (.cells (⟨co⟩++⟨cs⟩++rest') e (0,0)) 0 cap
    (w':={ w with drawn:=w.drawn+1,heap:=w.heap.push (.cells (⟨co⟩++⟨cs⟩++rest') e (0,0)) }) rfl rfl rfl rfl
    (iF hi.1 hall (by rw [List.length_append,a2x,hcl,←Nat.add_mul];exact Nat.mul_le_mul_right _ hc1)
      (by
        simp only [Array.size_append,List.size_toArray]
        rw [hc2,bT hold,a2x,C9,←Nat.add_mul,←Nat.add_mul]
        rw [show sLen+r.1+(cap - (sLen+r.1))=cap by omega];exact Nat.le_refl _)
      (fun j c hj=>by
        rw [Array.getElem?_append_left (by
         simp only [Array.size_append,List.size_toArray]
         rcases Nat.lt_or_ge j (co++cs).length with h|h
         ·simpa using h
         ·rw [List.getElem?_eq_none h] at hj;cases hj)]
        simpa using hj) _ 0 false 0 0 (by omega))
   refine ⟨_,.slice (some ⟨w.heap.size,0,none⟩) (sLen+r.1) cap,_, ?_, ?_,hstep⟩
   ·rw [hcb']
    simp only [VS,Sem.run_bind,hrun,Result.andThen_ok]
    rfl
   ·simp only [aA,if_true,Option.map_some,Option.some.injEq]
    simp only [Nat.zero_add,Nat.sub_zero]
    congr 2
    split<;>simp
  cases bv with
  |aW=>
   simp only [aA,Option.some.injEq] at hcb
   show (match r.1 with| 0=>R.ok (Nx.val .aW s)|m+1=>KA s e i.size i.bytes (m+1) r.2).path _
   cases hn:r.1 with
   |zero=>
    show (R.ok (Nx.val .aW s)).path _
    rw [hn] at hsrc
    have:=jP (w:=w) (w':=w) hd hxd hi.2 (rest:=rest) (rt:=rt) (b:=none) (sLen:=0) (sCap:=0) hsrc (by omega) (fun _ h=>by cases h) (fun _=>rfl)
    rw [←hcb]
    exact dR hR this rfl
   |succ m=>
    show (KA s e i.size i.bytes (m+1) r.2).path _
    have:=PL none 0 0 [] [] hcb.symm rfl (by simp) (by omega) (by simp [Builtin.firstCells])
    rw [hn] at this
    simpa using this
  |sl b off len cap=>
   simp only [aA,Option.map_eq_some_iff] at hcb
   obtain ⟨lc,hl,hcb⟩:=hcb
   show (a7L s e i.size i.bytes b off len cap r.1 r.2).path _
   unfold a7L
   cases hle:Nat.ble (Nat.add len r.1) cap with
   |true=>
    have hle':len+r.1≤cap:=Nat.le_of_ble_eq_true hle
    show (jy s b (Nat.add off (Nat.mul len i.size)) r.2 >>= fun s'=>R.ok (Nx.val (.sl b off (Nat.add len r.1) cap) s')).path _
    refine R.bH _ (jH hR b _ r.2 cs hcs lc hl) fun s' hs'=> ?_
    obtain ⟨w',hw1,hw2⟩:=hs'
    have:=jP (w:=w) (w':=w') hd hxd hi.2 (rest:=rest) (rt:=rt) (b:=some ⟨lc.blk,lc.dl+off,none⟩) (sLen:=len) (sCap:=cap) hsrc hle'
     (fun ad h=>by obtain rfl:=Option.some.inj h;rw [addr_add,Nat.add_assoc];exact hw1) (fun h=>by cases h)
    rw [←hcb]
    refine ⟨γ,.slice (some ⟨lc.blk,lc.dl+off,none⟩) (len+r.1) cap,w', ?_, ?_,hw2⟩
    ·simp only [VS,Sem.run_bind,this,Result.andThen_ok];rfl
    ·simp only [aA,hl];rfl
   |false=>
    have hgt:cap < len+r.1:=by
     rcases Nat.lt_or_ge cap (len+r.1) with h|h
     ·exact h
     ·have:=Nat.ble_eq_true_of_le h;rw [show len.add r.1=len+r.1 from rfl,this] at hle;cases hle
    show (rdCells s b off (Nat.mul len i.size) >>= fun old=>KA s e i.size i.bytes (Nat.add len r.1) (old++r.2)).path _
    refine R.bH _ (uM hR b off _) fun old hold=> ?_
    obtain ⟨P5,co,q1,q2,q3,q4⟩:=hold
    rw [hl] at q1;obtain rfl:=Option.some.inj q1
    exact PL (some ⟨lc.blk,lc.dl+off,none⟩) len cap co old hcb.symm q2 q3 hgt (by
     simp only [Builtin.firstCells]
     exact iH q4 _ (by rw [bT q2];exact q3))
  |gQ b pre e0 len sz'=>
   have hcb0:=hcb
   simp only [aA,Option.map_eq_some_iff] at hcb
   obtain ⟨lc,hl,hcb⟩:=hcb
   show (match r.1 with| 0=>(bP (oOk s b e (Nat.add e0 len) i.size sz') "append: nothing" >>= fun _=>R.ok (Nx.val (.gQ b pre e0 len sz') s))|m+1=>(match Nat.beq i.size sz' with|true=>Rw s e i.size i.bytes b pre e0 len (m+1) r.2|false=>R.bad _)).path _
   cases hn:r.1 with
   |zero=>
    show (bP (oOk s b e (Nat.add e0 len) i.size sz') _ >>= fun _=>R.ok (Nx.val (.gQ b pre e0 len sz') s)).path _
    refine R.bH _ (R.aU _ _) fun _ hg3=> ?_
    obtain ⟨_,_,hcp⟩:=sQ hR hi.1 hl hg3
    have abO:e0+len≤lc.cp:=hcp
    rw [hn] at hsrc
    have hcs0:cs=[]:=by
     have:cs.length=0:=by rw [C9,hn];simp
     exact List.eq_nil_of_length_eq_zero this
    subst hcs0
    have:=jP (w:=w) (w':=w) hd hxd hi.2 (rest:=rest) (rt:=rt) (b:=some ⟨lc.blk,lc.dl+(if e0 < lc.cp then e0 else pre) * sz',none⟩) (sLen:=len) (sCap:=lc.cp - e0) hsrc (by omega) (fun _ _=>rfl) (fun h=>by cases h)
    rw [←hcb]
    exact dR hR this (by simp [aA,hl])
   |succ m=>
    show (match Nat.beq i.size sz' with|true=>Rw s e i.size i.bytes b pre e0 len (m+1) r.2|false=>R.bad _).path _
    cases hbs:Nat.beq i.size sz' with
    |false=>trivial
    |true=>
     have hsz':i.size=sz':=Nat.eq_of_beq_eq_true hbs
     subst hsz'
     show (Rw s e i.size i.bytes b pre e0 len (m+1) r.2).path _
     rw [hn] at hsrc C9 hcl
     unfold Rw
     cases hb:s.h.get b with
     |none=>trivial
     |some q=>
      cases q with
      |cells el cells k fz jX st' sg=>
       cases st' with
       |true=>trivial
       |false=>
        simp only
        refine R.bH _ (R.aU _ _) fun _ hg3=> ?_
        have hel:el=e:=Nat.eq_of_beq_eq_true hg3
        subst hel
        obtain ⟨l',o,q1,q2,vs,lo,a8Q,hoo,g1,g2,⟨ii,g3,g4,g5,_,_⟩,g6,_⟩:=hR.blk b _ hb
        rw [hl] at q1;obtain rfl:=Option.some.inj q1
        subst hoo
        rw [hi.1] at g3;obtain rfl:=Option.some.inj g3
        cases hin:Nat.ble (Nat.mul (Nat.add (Nat.add e0 len) (m+1)) i.size) k with
        |true=>
         have hin':(e0+len+(m+1)) * i.size≤k:=Nat.le_of_ble_eq_true hin
         have hroom:e0+len+(m+1)≤lc.cp:=Nat.le_of_mul_le_mul_right (Nat.le_trans hin' g4) (Nat.pos_of_ne_zero hsz)
         show (jy s b (Nat.mul (Nat.add e0 len) i.size) r.2 >>= fun s'=>R.ok (Nx.val (.gQ b pre e0 (Nat.add len (m+1)) i.size) s')).path _
         refine R.bH _ (jH hR b _ r.2 cs hcs lc hl) fun s' hs'=> ?_
         obtain ⟨w',hw1,hw2⟩:=hs'
         have hlt:e0 < lc.cp:=by omega
         have:=jP (w:=w) (w':=w') hd hxd hi.2 (rest:=rest) (rt:=rt) (b:=some ⟨lc.blk,lc.dl+(if e0 < lc.cp then e0 else pre) * i.size,none⟩) (sLen:=len) (sCap:=lc.cp - e0) hsrc (by omega)
          (fun ad h=>by
            obtain rfl:=Option.some.inj h
            rw [if_pos hlt,addr_add]
            rw [show lc.dl+e0 * i.size+len * i.size=lc.dl+(e0+len) * i.size by rw [Nat.add_mul];omega];exact hw1) (fun h=>by cases h)
         rw [←hcb]
         refine ⟨γ,.slice (some ⟨lc.blk,lc.dl+(if e0 < lc.cp then e0 else pre) * i.size,none⟩) (len+(m+1)) (lc.cp - e0),w', ?_, ?_,hw2⟩
         ·simp only [VS,Sem.run_bind,this,Result.andThen_ok];rfl
         ·simp only [aA,hl];rfl
        |false=>
         show (a1Y s el i.size i.bytes b e0 len (m+1) cells k fz jX sg r.2).path _
         unfold a1Y
         refine R.bH _ (R.aU _ _) fun _ hg4=> ?_
         simp only [Bool.and_eq_true] at hg4
         obtain ⟨⟨⟨⟨⟨p1,p2⟩,p3⟩,p4⟩,p5⟩,p6⟩:=hg4
         have hk:(e0+len) * i.size=k:=Nat.eq_of_beq_eq_true p1
         have hfz:fz≤k:=Nat.le_of_ble_eq_true p5
         have hle0:e0+len≤lc.cp:=Nat.le_of_mul_le_mul_right (by rw [hk];exact g4) (Nat.pos_of_ne_zero hsz)
         refine R.bH _ (nD g2 (Nat.mul len i.size) (Nat.mul e0 i.size) (by show e0 * i.size+len * i.size≤k;rw [←Nat.add_mul,hk];exact Nat.le_refl _)) fun old hold=> ?_
         obtain ⟨co,o1,o2,o3⟩:=hold
         have o2':old.length=len * i.size:=o2
         have hblt:b < s.next:=hR.lt hl
         by_cases hroom:e0+len+(m+1)≤lc.cp
         ·
          have hlt:e0 < lc.cp:=by omega
          have hmul:(e0+len+(m+1)) * i.size≤lc.cp * i.size:=Nat.mul_le_mul_right _ hroom
          have hexp:(e0+len+(m+1)) * i.size=k+(m+1) * i.size:=by rw [Nat.add_mul,hk]
          have hst:=jk (P:=C.P) lc.blk el lo a8Q cs (lc.dl+k) 0 vs w q2 (by rw [C9];omega) (lX p6 hcs) (by
           intro q hq1 hq2 hq
           rcases g6 rfl q hq.1 hq.2 with h| ⟨_,h⟩
           ·omega
           ·rw [C9] at hq2;omega)
          have hrun:=jP (w:=w) (w':={ w with heap:=w.heap.setIfInBounds lc.blk (.cells (jW vs (lc.dl+k+0) cs) el (lo,a8Q)) }) hd hxd hi.2 (rest:=rest) (rt:=rt)
           (b:=some ⟨lc.blk,lc.dl+(if e0 < lc.cp then e0 else pre) * i.size,none⟩) (sLen:=len) (sCap:=lc.cp - e0) hsrc (by omega)
           (fun ad h=>by
             obtain rfl:=Option.some.inj h
             rw [if_pos hlt,addr_add]
             rw [show lc.dl+e0 * i.size+len * i.size=lc.dl+k by rw [←hk,Nat.add_mul];omega];exact hst) (fun h=>by cases h)
          have hal:=hR.alias hb hl q2 hi.1 hk hroom o1 hcs o2' hcl (fun j v hj=>o3 j v hj) hfz
           { w with heap:=w.heap.setIfInBounds lc.blk (.cells (jW vs (lc.dl+k+0) cs) el (lo,a8Q)) } rfl
          rw [←hcb]
          refine ⟨fun id=>if id=s.next then some ⟨lc.blk,lc.dl+e0 * i.size,lc.cp - e0,none⟩ else γ id,.slice (some ⟨lc.blk,lc.dl+(if e0 < lc.cp then e0 else pre) * i.size,none⟩) (len+(m+1)) (lc.cp - e0),_,(by simp only [VS,Sem.run_bind,hrun,Result.andThen_ok];rfl), ?_, ?_⟩
          ·have:¬ (lc.cp - e0=0):=by omega
           simp only [aA,if_true,Option.map_some,Option.some.injEq]
           rw [if_pos hlt,if_pos (by omega)]
           simp
          ·refine Step.of' ⟨?_,hal,⟨by simp,rfl,rfl,rfl, ?_⟩, ?_,Nat.le_succ _,fun _ _ h=>hR.lt h, ?_, ?_⟩ fun id l' d h1 h2=>(by
             by_cases e:id=s.next
             ·simp only [e,if_true,Option.some.injEq] at h1
              subst h1
              cases h2
             ·simp only [e,if_false] at h1
              exact ⟨id,l',h1,h2⟩)
           ·intro id l hl'
            have:id≠s.next:=Nat.ne_of_lt (hR.lt hl')
            exact ⟨l,by simp [this,hl'],rfl,rfl,rfl⟩
           ·intro kk ob hkk hnl
            have:kk≠lc.blk:=fun h=>hnl ⟨b,_,lc,hb,rfl,hl,h.symm⟩
            simp [Ne.symm this,hkk]
           ·rintro kk ⟨id,x',l,h1,h2,h3,h4⟩ _
            simp only [Tr.dH] at h1
            by_cases e1:s.next=id
            ·subst e1
             simp only [if_true] at h3
             obtain rfl:=Option.some.inj h3
             exact ⟨b,_,lc,hb,rfl,hl,h4⟩
            ·rw [if_neg e1] at h1
             have e1':id≠s.next:=Ne.symm e1
             simp only [e1',if_false] at h3
             by_cases e2:b=id
             ·subst e2
              simp only [if_true,Option.some.injEq] at h1
              subst h1;cases h2
             ·rw [if_neg e2] at h1
              exact ⟨id,x',l,h1,h2,h3,h4⟩
           ·intro id l' h
            by_cases e:id=s.next
            ·simp only [e,if_true,Option.some.injEq] at h
             subst h
             exact .inr ⟨by omega,.inr ⟨b,_,lc,hb,hl,rfl⟩⟩
            ·simp only [e,if_false] at h
             exact .inl ⟨l',h⟩
           ·intro id x' h1 hlt1
            simp only [Tr.dH] at h1
            rw [if_neg (by omega)] at h1
            by_cases e2:b=id
            ·subst e2;exact ⟨_,hb⟩
            ·rw [if_neg e2] at h1
             exact ⟨x',h1⟩
         ·
          have hby:(len+(m+1)) * i.bytes≤68719476736:=Nat.le_of_ble_eq_true p2
          have hne:len+(m+1)≤68719476736:=Nat.le_of_ble_eq_true p3
          have Ij:co.length=len * i.size:=by rw [bT o1,o2']
          have hco:(Builtin.firstCells i.size len (.slice (some ⟨lc.blk,lc.dl+(if e0 < lc.cp then e0 else pre) * i.size,none⟩) len (lc.cp - e0))).run C.P w=.ok ⟨co⟩ w:=by
           simp only [Builtin.firstCells]
           by_cases hlen0:len=0
           ·subst hlen0
            have:co=[]:=List.eq_nil_of_length_eq_zero (by rw [Ij];simp)
            subst this
            simp only [Nat.zero_mul]
            rfl
           ·have hlt:e0 < lc.cp:=by omega
            rw [if_pos hlt]
            refine iH (fun j v hj=> ?_) _ Ij
            have hv:=o3 j v hj
            have hv':vs[lc.dl+e0 * i.size+j]? =some v:=hv
            simp only [World.cell?,q2]
            simpa using hv'
          obtain ⟨cap,rest',hc1,hc2,hrun⟩:=pI (w:=w) hC hd hxd hi.1 hi.2 (rest:=rest) (rt:=rt) (b:=some ⟨lc.blk,lc.dl+(if e0 < lc.cp then e0 else pre) * i.size,none⟩) (sCap:=lc.cp - e0) hz hzl hsrc (by omega) hby hne
           (fun d=>rM (γ:=γ) (x:=.gQ b pre e0 len i.size) (by simp only [aA,hl];rfl) w d hco (fun _ _ _ _ _=>trivial))
           Ij C9
          have hall:=iG o1 hcs
          have hst:=Step.stale hR hb
          have hstep:=Step.alloc (base:=base) hst.rel (.cells el (Tr.ofList (old++r.2)) ((len+(m+1)) * i.size) (fz - e0 * i.size) (b::jX) false sg) (.cells (⟨co⟩++⟨cs⟩++rest') el (0,0)) 0 cap
           (w':={ w with drawn:=w.drawn+1,heap:=w.heap.push (.cells (⟨co⟩++⟨cs⟩++rest') el (0,0)) }) rfl rfl rfl rfl
           (by
             intro γ' g1
             have:=iF (C:=C) hi.1 hall (by rw [List.length_append,o2',hcl,←Nat.add_mul];exact Nat.mul_le_mul_right _ hc1) (arr:=⟨co⟩++⟨cs⟩++rest')
              (by
                simp only [Array.size_append,List.size_toArray]
                rw [hc2,Ij,C9,←Nat.add_mul,←Nat.add_mul]
                rw [show len+(m+1)+(cap - (len+(m+1)))=cap by omega];exact Nat.le_refl _)
              (fun j c hj=>by
                rw [Array.getElem?_append_left (by
                 simp only [Array.size_append,List.size_toArray]
                 rcases Nat.lt_or_ge j (co++cs).length with h|h
                 ·simpa using h
                 ·rw [List.getElem?_eq_none h] at hj;cases hj)]
                simpa using hj) w.heap.size (fz - e0 * i.size) sg 0 0 (by omega) (by omega) γ' g1
             rw [List.length_append,o2',hcl,←Nat.add_mul] at this
             exact this)
          refine ⟨_,.slice (some ⟨w.heap.size,0,none⟩) (len+(m+1)) cap,_, ?_, ?_,hst.trans hstep⟩
          ·rw [←hcb]
           simp only [VS,Sem.run_bind,hrun,Result.andThen_ok]
           rfl
          ·simp only [aA,if_true,Option.map_some,Option.some.injEq]
           simp only [Nat.zero_add,Nat.sub_zero]
           congr 2
           split<;>simp
      |_=>trivial
  |rE b n c=>exact YJ hC hR hd hxd hi.1 hi.2 hz hzl hcb hcs hcl hsrc
  |_=>trivial
 |_=>trivial
end
end Go.Proofs.YtjioppomopfifaaGreatDoor.Abs
namespace Go.Proofs.YtjioppomopfifaaGreatDoor.Abs
open Go
section
variable {C:Ctx} {base:Nat} {γ:G} {s:S} {w:World} {nt:Nat} {t:Tr AV} {a:Act}
def MapAt (γ:G) (s:S) (w:World) (x:AV) (cx:Value) (m:List ME×Nat):Prop:=
 (x=.iW∧cx=.map none∧m=([],0))∨
 (∃r lc ents,x=.iY r∧γ r=some lc∧cx=.map (some lc.blk)∧s.h.get r=some (.map m.1 m.2)∧w.heap[lc.blk]? =some (.map ents m.2)∧
   dZ γ m.1 ents.toList∧(∃d,∀e∈m.1,keyOf d e.k=true))
theorem iI (hR:Rel C base γ s w) (x:AV) (cx:Value) (hx:aA γ x=some cx):(rJ s x).path (MapAt γ s w x cx):=by
 cases x with
 |iW=>simp only [aA,Option.some.injEq] at hx;exact .inl ⟨rfl,hx.symm,rfl⟩
 |iY r=>
  simp only [aA,Option.map_eq_some_iff] at hx
  obtain ⟨lc,hl,rfl⟩:=hx
  show (match s.h.get r with|some (.map es c)=>R.ok (es,c)|_=>R.bad _).path _
  cases hb:s.h.get r with
  |none=>trivial
  |some b=>
   cases b with
   |map es c=>
    obtain ⟨l',o,h1,h2,ents,rfl,h3,h4⟩:=hR.blk r _ hb
    rw [hl] at h1;obtain rfl:=Option.some.inj h1
    exact .inr ⟨r,lc,ents,rfl,hl,rfl,hb,h2,h3,h4⟩
   |_=>trivial
 |_=>trivial
theorem jd {P:Program} {r c:Nat} {es:Array MapEntry} {w:World} (h:w.heap[r]? =some (.map es c)):(getObj r).run P w=.ok (.map es c) w:=by
 simp [getObj,Sem.run,h]
theorem yu {P:Program} {x:Array TypeId} {rt:TypeId} {ad:Addr} {l c:Nat} {w:World} (h:c≠0):
  (Builtin.unsafeSliceData_ x rt ⟨[.slice (some ad) l c]⟩).run P w=.ok (.pointer (some ad)) w:=by
 have:Builtin.unsafeSliceData_ x rt ⟨[.slice (some ad) l c]⟩=(if c≠0 then pure (.pointer (some ad)) else _):=rfl
 rw [this,if_pos h];rfl
theorem dZ.len:∀{es:List ME} {L:List MapEntry},dZ γ es L→es.length=L.length
 | [],[],_=>rfl
 |_::_,_::_,h=>by simp [dZ.len h.2]
 | [],_::_,h=>h.elim
 |_::_,[],h=>h.elim
theorem abt (hC:Good C) (hR:Rel C base γ s w) (argTypes:List TypeId) (args:List AV) (aY:List Value) (hargs:aG γ args=some aY) (rt:TypeId):
  (Z4 C s argTypes args).path (fF C base γ s w ((VS (Builtin.len_ ⟨argTypes⟩ rt ⟨aY⟩)).run C.P w)):=by
 unfold Z4
 split
 case h_2=>trivial
 rename_i x t rest
 obtain ⟨cx,cl1,hcx,h1,rfl⟩:=aP.1 hargs
 simp only [aG,Option.some.injEq] at h1;subst h1
 refine R.bH _ (bJ hC t) fun d hd=> ?_
 have key:∀n:Nat,((Builtin.len_ ⟨t::rest⟩ rt ⟨[cx]⟩).run C.P w=.ok (goInt n) w)→(R.ok (Nx.val (.int .i64 (.ofNat n)) s)).path (fF C base γ s w ((VS (Builtin.len_ ⟨t::rest⟩ rt ⟨[cx]⟩)).run C.P w)):=
  fun n h=>dR hR h rfl
 have adX:∀v,PY d x=some v→(R.ok (Nx.val v s)).path (fF C base γ s w ((VS (Builtin.len_ ⟨t::rest⟩ rt ⟨[cx]⟩)).run C.P w)):=by
  intro v hv
  unfold PY at hv
  cases d<;>first| (cases hv;done)|skip
  ·cases x<;>first| (cases hv;done)|skip
   rename_i k e
   cases k<;>first| (cases hv;done)|skip
   obtain rfl:=Option.some.inj hv
   obtain ⟨d',h1,⟨z,rfl⟩,rfl⟩:=fE hcx
   refine dR hR (c:=goInt z.size) ?_ (gG (d:=.val (.int .i64 z.size)) (by simp only [aO,h1,Option.bind_some,e1]) ⟨_,rfl⟩ rfl)
   simp only [Builtin.len_,List.getElem?_toArray,List.getElem?_cons_zero]
   rw [aI hd]
   rfl
  ·cases x<;>first| (cases hv;done)|skip
   ·rename_i k e
    cases k<;>first| (cases hv;done)|skip
    obtain rfl:=Option.some.inj hv
    obtain ⟨d',h1,⟨sa,sn,sc,sz,es,rfl⟩,rfl⟩:=fE hcx
    refine dR hR (c:=goInt sn) ?_ (gG (d:=.val (.int .i64 sn)) (by simp only [aO,h1,Option.bind_some,e1]) ⟨_,rfl⟩ rfl)
    simp only [Builtin.len_,List.getElem?_toArray,List.getElem?_cons_zero]
    rw [aI hd]
    rfl
   ·rename_i b n c
    obtain rfl:=Option.some.inj hv
    obtain ⟨lc,k,q,hl,hn0,hc0,hk,hq,rfl⟩:=gZ hcx
    refine dR hR (c:=goInt k) ?_ (by rw [QZ];exact gG (d:=.val (.int .i64 k)) hn0 ⟨_,rfl⟩ rfl)
    simp only [Builtin.len_,List.getElem?_toArray,List.getElem?_cons_zero]
    rw [aI hd]
    rfl
 show (match PY d x with|some v=>R.ok (Nx.val v s)|none=>(a5U C s d x >>= fun n=>R.ok (Nx.val (.int .i64 (.ofNat n)) s))).path _
 cases hls:PY d x with
 |some v=>exact adX v hls
 |none=>
 simp only
 cases d with
 |string=>
  cases x with
  |str l=>
   simp only [aA,Option.some.injEq] at hcx;subst hcx
   refine key _ ?_
   simp only [Builtin.len_,List.getElem?_toArray,List.getElem?_cons_zero]
   rw [aI hd]
   rfl
  |_=>trivial
 |array n e=>
  refine key _ ?_
  simp only [Builtin.len_,List.getElem?_toArray,List.getElem?_cons_zero]
  rw [aI hd]
  rfl
 |pointer e=>
  refine R.bH (fun n=>(Builtin.len_ ⟨t::rest⟩ rt ⟨[cx]⟩).run C.P w=.ok (goInt (Int.ofNat n)) w) ?_ (fun n hn=>key n hn)
  refine R.bH _ (bJ hC e) fun d hd'=> ?_
  cases d with
  |array n _=>
   show (Builtin.len_ ⟨t::rest⟩ rt ⟨[cx]⟩).run C.P w=.ok (goInt (Int.ofNat n)) w
   simp only [Builtin.len_,List.getElem?_toArray,List.getElem?_cons_zero]
   rw [aI hd]
   simp only
   rw [aI hd']
   rfl
  |_=>trivial
 |slice e=>
  cases x with
  |aW=>
   simp only [aA,Option.some.injEq] at hcx;subst hcx
   refine key _ ?_
   simp only [Builtin.len_,List.getElem?_toArray,List.getElem?_cons_zero]
   rw [aI hd]
   rfl
  |sl b off len cap=>
   simp only [aA,Option.map_eq_some_iff] at hcx
   obtain ⟨lc,hl,rfl⟩:=hcx
   refine key _ ?_
   simp only [Builtin.len_,List.getElem?_toArray,List.getElem?_cons_zero]
   rw [aI hd]
   rfl
  |gQ b pre e0 len sz=>
   simp only [aA,Option.map_eq_some_iff] at hcx
   obtain ⟨lc,hl,rfl⟩:=hcx
   refine key _ ?_
   simp only [Builtin.len_,List.getElem?_toArray,List.getElem?_cons_zero]
   rw [aI hd]
   rfl
  |_=>trivial
 |map k v=>
  refine R.bH (fun n=>(Builtin.len_ ⟨t::rest⟩ rt ⟨[cx]⟩).run C.P w=.ok (goInt (Int.ofNat n)) w) ?_ (fun n hn=>key n hn)
  refine R.bH _ (iI hR x cx hcx) fun m hm=> ?_
  show (Builtin.len_ ⟨t::rest⟩ rt ⟨[cx]⟩).run C.P w=.ok (goInt (Int.ofNat m.1.length)) w
  simp only [Builtin.len_,List.getElem?_toArray,List.getElem?_cons_zero]
  rw [aI hd]
  rcases hm with ⟨rfl,rfl,rfl⟩| ⟨r,lc,ents,rfl,hl,rfl,h1,h2,h4,_⟩
  ·rfl
  ·simp only [Sem.run_bind,jd h2,Result.andThen_ok,Sem.run_pure]
   rw [h4.len]
   simp
 |_=>trivial
theorem abu (hC:Good C) (hR:Rel C base γ s w) (argTypes:List TypeId) (args:List AV) (aY:List Value) (hargs:aG γ args=some aY) (rt:TypeId):
  (Z5 C s argTypes args).path (fF C base γ s w ((VS (Builtin.cap_ ⟨argTypes⟩ rt ⟨aY⟩)).run C.P w)):=by
 unfold Z5
 split
 case h_2=>trivial
 rename_i x t rest
 obtain ⟨cx,cl1,hcx,h1,rfl⟩:=aP.1 hargs
 simp only [aG,Option.some.injEq] at h1;subst h1
 refine R.bH _ (bJ hC t) fun d hd=> ?_
 cases d with
 |slice e=>
  cases x with
  |aW=>
   simp only [aA,Option.some.injEq] at hcx;subst hcx
   refine dR hR (c:=goInt 0) ?_ rfl
   simp only [Builtin.cap_,List.getElem?_toArray,List.getElem?_cons_zero]
   rw [aI hd]
   rfl
  |sl b off len cap=>
   simp only [aA,Option.map_eq_some_iff] at hcx
   obtain ⟨lc,hl,rfl⟩:=hcx
   refine dR hR (c:=goInt cap) ?_ rfl
   simp only [Builtin.cap_,List.getElem?_toArray,List.getElem?_cons_zero]
   rw [aI hd]
   rfl
  |_=>trivial
 |_=>trivial
theorem VQ (hC:Good C) (hR:Rel C base γ s w) (argTypes:List TypeId) (args:List AV) (aY:List Value) (hargs:aG γ args=some aY) (rt:TypeId):
  (Dw C s argTypes args).path (fF C base γ s w ((VS (Builtin.unsafeSliceData_ ⟨argTypes⟩ rt ⟨aY⟩)).run C.P w)):=by
 unfold Dw
 split
 ·obtain ⟨cx,cl1,hcx,h1,rfl⟩:=aP.1 hargs
  simp only [aG,Option.some.injEq] at h1;subst h1
  simp only [aA,Option.some.injEq] at hcx;subst hcx
  exact dR hR (c:=.pointer none) rfl rfl
 ·rename_i b off len cap
  obtain ⟨cx,cl1,hcx,h1,rfl⟩:=aP.1 hargs
  simp only [aG,Option.some.injEq] at h1;subst h1
  simp only [aA,Option.map_eq_some_iff] at hcx
  obtain ⟨lc,hl,rfl⟩:=hcx
  cases hb:Nat.beq cap 0 with
  |true=>trivial
  |false=>
   have hne:cap≠0:=by intro h;rw [h] at hb;cases hb
   refine dR hR (c:=.pointer (some ⟨lc.blk,lc.dl+off,none⟩)) ?_ (by simp [aA,hl])
   exact yu hne
 ·rename_i b pre e0 len sz
  obtain ⟨cx,cl1,hcx,h1,rfl⟩:=aP.1 hargs
  simp only [aG,Option.some.injEq] at h1;subst h1
  simp only [aA,Option.map_eq_some_iff] at hcx
  obtain ⟨lc,hl,rfl⟩:=hcx
  split
  ·rename_i st rest n
   refine R.bH _ (bJ hC st) fun d hd=> ?_
   cases d with
   |slice e=>
    refine R.bH _ (dF hC e) fun i hi=> ?_
    refine R.bH _ (R.aU _ _) fun _ hg=> ?_
    obtain ⟨_,_,hcp⟩:=sQ hR hi.1 hl hg
    have abO:e0+(n+1)≤lc.cp:=hcp
    refine dR hR (c:=.pointer (some ⟨lc.blk,lc.dl+e0 * sz,none⟩)) ?_ (by simp [aA,hl])
    have hlt:e0 < lc.cp:=by omega
    have hne:lc.cp - e0≠0:=by omega
    rw [if_pos hlt];exact yu hne
   |_=>trivial
  ·trivial
 ·rename_i b n c
  obtain ⟨cx,cl1,hcx,h1,rfl⟩:=aP.1 hargs
  simp only [aG,Option.some.injEq] at h1;subst h1
  obtain ⟨lc,k,q,hl,hn0,hc0,hk,hq,rfl⟩:=gZ hcx
  refine R.gu hR fun hn=> ?_
  have hpos:0 < k:=by
   rcases Nat.eq_zero_or_pos k with h|h
   ·subst h
    exact absurd ⟨_,_,rfl,by decide⟩ (iV hn (RY hn0))
   ·exact h
  refine dR hR (c:=.pointer (some ⟨lc.blk,lc.dl,none⟩)) (yu (by omega)) ?_
  simp only [aA,hl,Option.bind_some,aO]
  show (if 0 < lc.cp then some (Value.pointer (some ⟨lc.blk,lc.dl+(0 * 1+0),none⟩)) else none)=_
  rw [if_pos (by omega)]
  simp
 ·trivial
theorem Y5 (k:IntKind):∀(l:List AV) (cl:List Value) (m:Int),aG γ l=some cl→
  (minL k l m).path (fun v=>∃n,v=.int k n∧(cl.foldlM Builtin.min2 (.int k m)).run C.P w=.ok (.int k n) w)
 | [],cl,m,h=>by
   simp only [aG,Option.some.injEq] at h;subst h
   exact ⟨m,rfl,rfl⟩
 |v::l,cl,m,h=>by
  obtain ⟨cv,cl',hcv,h1,rfl⟩:=aP.1 h
  cases v with
  |int k' n=>
   simp only [aA,Option.some.injEq] at hcv;subst hcv
   have:=Y5 k l cl' (if n < m then n else m) h1
   show (minL k l (match decide (n < m) with|true=>n|false=>m)).path _
   rw [show (match decide (n < m) with|true=>n|false=>m)=if n < m then n else m by by_cases h:n < m<;>simp [h]]
   refine R.bg ?_ this
   rintro v ⟨n',rfl,hr⟩
   refine ⟨n',rfl, ?_⟩
   simp only [List.foldlM_cons,Builtin.min2,Sem.run_bind,Sem.run_pure,Result.andThen_ok]
   exact hr
  |_=>trivial
theorem Y9 (k:IntKind):∀(l:List AV) (cl:List Value) (m:Int),aG γ l=some cl→
  (maxL k l m).path (fun v=>∃n,v=.int k n∧(cl.foldlM Builtin.max2 (.int k m)).run C.P w=.ok (.int k n) w)
 | [],cl,m,h=>by
   simp only [aG,Option.some.injEq] at h;subst h
   exact ⟨m,rfl,rfl⟩
 |v::l,cl,m,h=>by
  obtain ⟨cv,cl',hcv,h1,rfl⟩:=aP.1 h
  cases v with
  |int k' n=>
   simp only [aA,Option.some.injEq] at hcv;subst hcv
   have:=Y9 k l cl' (if n > m then n else m) h1
   show (maxL k l (match decide (m < n) with|true=>n|false=>m)).path _
   rw [show (match decide (m < n) with|true=>n|false=>m)=if n > m then n else m by by_cases h:m < n<;>simp [h]]
   refine R.bg ?_ this
   rintro v ⟨n',rfl,hr⟩
   refine ⟨n',rfl, ?_⟩
   simp only [List.foldlM_cons,Builtin.max2,Sem.run_bind,Sem.run_pure,Result.andThen_ok]
   exact hr
  |_=>trivial
theorem abq (hR:Rel C base γ s w) (argTypes:List TypeId) (args:List AV) (aY:List Value) (hargs:aG γ args=some aY) (rt:TypeId):
  (ZX s args).path (fF C base γ s w ((VS (Builtin.min_ ⟨argTypes⟩ rt ⟨aY⟩)).run C.P w)):=by
 unfold ZX
 split
 ·obtain ⟨cx,cl1,hcx,h1,rfl⟩:=aP.1 hargs
  simp only [aA,Option.some.injEq] at hcx;subst hcx
  rename_i k n l
  refine R.bH _ (Y5 (C:=C) (w:=w) k l cl1 n h1) fun v hv=> ?_
  obtain ⟨m,rfl,hr⟩:=hv
  exact dR hR hr rfl
 ·trivial
theorem abr (hR:Rel C base γ s w) (argTypes:List TypeId) (args:List AV) (aY:List Value) (hargs:aG γ args=some aY) (rt:TypeId):
  (ZY s args).path (fF C base γ s w ((VS (Builtin.max_ ⟨argTypes⟩ rt ⟨aY⟩)).run C.P w)):=by
 unfold ZY
 split
 ·obtain ⟨cx,cl1,hcx,h1,rfl⟩:=aP.1 hargs
  simp only [aA,Option.some.injEq] at hcx;subst hcx
  rename_i k n l
  refine R.bH _ (Y9 (C:=C) (w:=w) k l cl1 n h1) fun v hv=> ?_
  obtain ⟨m,rfl,hr⟩:=hv
  exact dR hR hr rfl
 ·trivial
theorem a5v (hR:Rel C base γ s w) (args:List AV) (aY:List Value) (hargs:aG γ args=some aY):
  (XZ s args).path (fF C base γ s w ((VS (Instr.panic ((⟨aY⟩:Array Value).getD 0 .nilIface))).run C.P w)):=by
 unfold XZ
 split
 ·obtain ⟨cx,cl1,hcx,h1,rfl⟩:=aP.1 hargs
  simp only [aG,Option.some.injEq] at h1;subst h1
  rename_i t v
  have hcx':=hcx
  simp only [aA,Option.map_eq_some_iff] at hcx
  obtain ⟨cv,hcv,rfl⟩:=hcx
  exact ⟨γ,.iface t cv,w,rfl,hcx',Step.refl hR⟩
 ·trivial
theorem a8G (hC:Good C) (hR:Rel C base γ s w) (argTypes:List TypeId) (args:List AV) (aY:List Value) (hargs:aG γ args=some aY) (rt:TypeId):
  (a1V C s argTypes args).path (fF C base γ s w ((VS (Builtin.copy_ ⟨argTypes⟩ rt ⟨aY⟩)).run C.P w)):=by
 unfold a1V
 split
 case h_2=>trivial
 rename_i dst src st rest
 obtain ⟨cd,cl1,hcd,h1,rfl⟩:=aP.1 hargs
 obtain ⟨cs,cl2,hcs,h2,rfl⟩:=aP.1 h1
 simp only [aG,Option.some.injEq] at h2;subst h2
 refine R.bH _ (bJ hC st) fun d hd=> ?_
 cases d with
 |slice e=>
  refine R.bH _ (dF hC e) fun i hi=> ?_
  refine R.bH _ (yx hC hR e hi.1 src cs hcs) fun r hr=> ?_
  obtain ⟨cc,hcc,hcl,hlen,hfc⟩:=hr
  have run:∀(b:Option Addr) (dLen dCap:Nat) (w':World),cd=.slice b dLen dCap→
    (∀ad,b=some ad→(storeCells ad (cc.take (Nat.min r.1 dLen * i.size))).run C.P w=.ok () w')→(b=none→w'=w)→
    (Builtin.copy_ ⟨st::rest⟩ rt ⟨[cd,cs]⟩).run C.P w=.ok (goInt (Nat.min r.1 dLen)) w':=by
   intro b dLen dCap w' aeg hst hnone
   subst aeg
   simp only [Builtin.copy_,List.getElem?_toArray,List.getElem?_cons_zero,List.getElem?_cons_succ]
   rw [aI hd]
   simp only [Sem.run_bind,hlen,Result.andThen_ok,hi.2.size w,hfc _ (Nat.min_le_left _ _)]
   cases b with
   |none=>simp only [hnone rfl];rfl
   |some ad=>
    simp only [Sem.run_bind,hst ad rfl,Result.andThen_ok,Sem.run_pure]
  show (a7v s e i.size r dst).path _
  cases dst with
  |aW=>
   simp only [aA,Option.some.injEq] at hcd
   have:=run none 0 0 w hcd.symm (fun _ h=>by cases h) (fun _=>rfl)
   refine dR hR this ?_
   simp [aA,goInt]
  |sl b off len cap=>
   simp only [aA,Option.map_eq_some_iff] at hcd
   obtain ⟨lc,hl,hcd⟩:=hcd
   refine R.bH _ (jH hR b off _ _ (rQ _ hcc) lc hl) fun s' hs'=> ?_
   obtain ⟨w',hw1,hw2⟩:=hs'
   have:=run _ _ _ w' hcd.symm (fun ad h=>by obtain rfl:=Option.some.inj h;exact hw1) (fun h=>by cases h)
   refine ⟨γ,_,w', ?_,rfl,hw2⟩
   simp only [VS,Sem.run_bind,this,Result.andThen_ok];rfl
  |gQ b pre e0 len sz=>
   simp only [aA,Option.map_eq_some_iff] at hcd
   obtain ⟨lc,hl,hcd⟩:=hcd
   refine R.bH _ (R.aU _ _) fun _ hg=> ?_
   obtain ⟨hsz,_,hcp⟩:=sQ hR hi.1 hl hg
   have abO:e0+len≤lc.cp:=hcp
   refine R.bH _ (jH hR b _ _ _ (rQ _ hcc) lc hl) fun s' hs'=> ?_
   obtain ⟨w',hw1,hw2⟩:=hs'
   by_cases h0:len=0
   ·subst h0
    have hz:cc.take (Nat.min r.1 0 * i.size)=[]:=by simp
    have hw0:w'=w:=by
     have abE:(storeCells ⟨lc.blk,lc.dl+e0 * sz,none⟩ (cc.take (Nat.min r.1 0 * i.size))).run C.P w=.ok () w':=hw1
     rw [hz] at abE
     simp only [storeCells,Sem.run_pure,Result.ok.injEq] at abE
     exact abE.2.symm
    have:=run _ _ _ w' hcd.symm (fun ad h=>by rw [hz,hw0];rfl) (fun h=>by cases h)
    refine ⟨γ,_,w', ?_,rfl,hw2⟩
    simp only [VS,Sem.run_bind,this,Result.andThen_ok];rfl
   ·have hlt:e0 < lc.cp:=by omega
    have:=run _ _ _ w' hcd.symm (fun ad h=>by obtain rfl:=Option.some.inj h;rw [if_pos hlt];exact hw1) (fun h=>by cases h)
    refine ⟨γ,_,w', ?_,rfl,hw2⟩
    simp only [VS,Sem.run_bind,this,Result.andThen_ok];rfl
  |_=>trivial
 |_=>trivial
end
end Go.Proofs.YtjioppomopfifaaGreatDoor.Abs
namespace Go.Proofs.YtjioppomopfifaaGreatDoor.Abs
open Go
section
variable {C:Ctx} {base:Nat} {γ:G} {s:S} {w:World} {nt:Nat} {t:Tr AV} {a:Act}
theorem GK {P:Program} (k:IntKind) (n:Int) (w:World):(Go.asInt (.int k n)).run P w=.ok n w:=rfl
theorem oC {P:Program} {r c:Nat} {es es':Array MapEntry} {c':Nat} {w:World} (h:w.heap[r]? =some (.map es c)):
  (setObj r (.map es' c')).run P w=.ok () { w with heap:=w.heap.setIfInBounds r (.map es' c') }:=by
 have hlt:r < w.heap.size:=by
  rcases Nat.lt_or_ge r w.heap.size with h'|h'
  ·exact h'
  ·rw [Array.getElem?_eq_none h'] at h;cases h
 simp only [setObj,Sem.run,h]
theorem Step.BO (hR:Rel C base γ s w) {r c:Nat} {es:List ME} {ents:Array MapEntry} {lc:Loc} (hb:s.h.get r=some (.map es c)) (hl:γ r=some lc) (ho:w.heap[lc.blk]? =some (.map ents c))
  {es':List ME} {c':Nat} {EL:Array MapEntry} (h1:dZ γ es' EL.toList) (h2:∃d,∀e∈es',keyOf d e.k=true):
  Step C base γ s w γ ⟨s.h.set r (.map es' c'),s.next,s.pc⟩ { w with heap:=w.heap.setIfInBounds lc.blk (.map EL c') }:=by
 have hlt:lc.blk < w.heap.size:=by
  rcases Nat.lt_or_ge lc.blk w.heap.size with h'|h'
  ·exact h'
  ·rw [Array.getElem?_eq_none h'] at ho;cases ho
 have sV:∀i x li,i≠r→(s.h.set r (.map es' c')).get i=some x→γ i=some li→li.blk=lc.blk→False:=by
  intro i x li hi hx MP hbl
  rw [Tr.get_set_other _ _ (Ne.symm hi)] at hx
  rcases hR.sep i r x _ li lc hx hb MP hl hi hbl with h|h
  ·cases x<;>simp [iR] at h
  ·simp [iR] at h
 refine Step.of ⟨Grow.refl γ, ?_,⟨by simp,rfl,rfl,rfl, ?_⟩, ?_,Nat.le_refl _,fun _ _ h=>hR.lt h,fun _ l h=>.inl ⟨l,h⟩,fun id x h1 _=>by
  simp only [Tr.dH] at h1
  split at h1
  ·next h=>subst h;exact ⟨_,hb⟩
  ·exact ⟨x,h1⟩⟩
 ·refine hR.Fe (b':=.map es' c') (o':=.map EL c') hb hl hl ⟨rfl,rfl,rfl⟩ rfl (fun _ _=>rfl) ?_ (Tr.get_set_same _ _ _) ?_ ?_ (by simp) ⟨EL,rfl,h1,h2⟩
    (fun i x li hi hx h3 h4=>(sV i x li hi hx h3 h4).elim) (fun i x li hi hx h3 h4=>(sV i x li hi hx h3 h4).elim)
  ·intro i x hi hx
   rw [Tr.get_set_other _ _ (Ne.symm hi)] at hx;exact hx
  ·intro k hk
   simp [Ne.symm hk]
  ·simp [hlt]
 ·intro k o hk hn
  have:k≠lc.blk:=fun h=>hn ⟨r,_,lc,hb,rfl,hl,h.symm⟩
  simp [Ne.symm this,hk]
 ·rintro k ⟨id,x,l,q1,q2,q3,q4⟩ _
  simp only [Tr.dH] at q1
  split at q1
  ·next h=>subst h;exact ⟨_,_,lc,hb,rfl,hl,by rw [hl] at q3;obtain rfl:=Option.some.inj q3;exact q4⟩
  ·exact ⟨id,x,l,q1,q2,q3,q4⟩
theorem a08 {d d':TypeDesc} {x y:AV} (h1:keyOf d x=true) (h2:keyOf d' x=true) (h3:keyOf d' y=true):keyOf d y=true:=by
 cases d<;>cases d'<;>cases x<;>simp [keyOf] at h1 h2<;>cases y<;>simp [keyOf] at h3 ⊢
 rw [h1,←h2,h3]
theorem xw {d:TypeDesc} {k:AV} {es:List ME} (h:uP d k es=true) (hk:∃d',∀e∈es,keyOf d' e.k=true):keyOf d k=true∧∀e∈es,keyOf d e.k=true:=by
 simp only [uP,Bool.and_eq_true] at h
 refine ⟨h.1, ?_⟩
 obtain ⟨d',hd'⟩:=hk
 cases es with
 |nil=>intro e he;cases he
 |cons e0 es=>intro e he;exact a08 h.2 (hd' e0 (by simp)) (hd' e he)
theorem Fg {d:TypeDesc} {x y:AV} {cx cy:Value} (hx:aA γ x=some cx) (hy:aA γ y=some cy) (h1:keyOf d x=true) (h2:keyOf d y=true):
  Instr.sameNow d cx cy=some (oM x y)∧(oM x y=true→x=y)∧(oM x y=true→Instr.sameBits 10000 cy cx=true):=by
 cases d<;>cases x<;>simp [keyOf] at h1<;>cases y<;>simp [keyOf] at h2<;>simp only [aA,Option.some.injEq] at hx hy<;>subst hx<;>subst hy
 ·simp only [Instr.sameNow,oM,Instr.sameBits,Bool.beq_eq_decide_eq,decide_eq_true_eq,true_and]
  exact ⟨fun h=>by rw [h],fun h=>h.symm⟩
 ·subst h1;subst h2
  simp only [Instr.sameNow,oM,Instr.sameBits,if_true,decide_eq_true_eq]
  refine ⟨?_,fun h=>by rw [h],fun h=>by simp [h]⟩
  rename_i m n
  by_cases h:m=n<;>simp [h]
 ·rename_i l m
  simp only [Instr.sameNow,oM,Instr.sameBits,Dv]
  have this:((ByteArray.mk ⟨l⟩:ByteArray)==ByteArray.mk ⟨m⟩)=(l==m):=by
   show ((Array.mk l)==Array.mk m)=_
   simp
  have acW:((ByteArray.mk ⟨m⟩:ByteArray)==ByteArray.mk ⟨l⟩)=(m==l):=by
   show ((Array.mk m)==Array.mk l)=_
   simp
  refine ⟨by rw [this],fun h=>by rw [eq_of_beq h],fun h=>by rw [acW,eq_of_beq h];simp⟩
def Found (γ:G) (d:TypeDesc) (k:AV) (ck:Value) (es:List ME) (l:List MapEntry) (i0:Nat):Prop:=
 (sW k es=none∧Instr.findNow d ck l i0=some none)∨
 (∃e i m,sW k es=some e∧Instr.findNow d ck l i0=some (some (i0+i,m.val))∧l[i]? =some m∧vH γ e m∧e.k=k∧oM k e.k=true∧e∈es∧
   (∀(v:AV) (cv:Value),aA γ v=some cv→dZ γ (OD k v es) (l.modify i fun x=>{ x with key:=ck,val:=cv }))∧
   dZ γ (NM k es) (l.eraseIdx i))
theorem found (d:TypeDesc) (k:AV) (ck:Value) (hk:aA γ k=some ck) (hkd:keyOf d k=true):∀(es:List ME) (l:List MapEntry) (i0:Nat),dZ γ es l→(∀e∈es,keyOf d e.k=true)→Found γ d k ck es l i0
 | [],[],i0,_,_=>.inl ⟨rfl,rfl⟩
 |e::es,m::l,i0,⟨h1,h2⟩,hd=>by
  obtain ⟨s1,s2,s3⟩:=Fg hk h1.1 hkd (hd e (by simp))
  unfold Found sW Instr.findNow
  rw [s1]
  cases hq:oM k e.k with
  |true=>
   right
   refine ⟨e,0,m,rfl,rfl,rfl,h1,(s2 hq).symm,hq,by simp,fun v cv hv=> ?_, ?_⟩
   ·simp only [OD,hq,List.modify_zero_cons]
    exact ⟨⟨hk,hv,h1.2.2⟩,h2⟩
   ·simp only [NM,hq,List.eraseIdx_zero,List.tail_cons]
    exact h2
  |false=>
   simp only
   rcases found d k ck hk hkd es l (i0+1) h2 (fun e he=>hd e (by simp [he])) with ⟨a1,a2⟩| ⟨e',i,m',a1,a2,a3,a4,a5,a6,a7,a8,a9⟩
   ·exact .inl ⟨a1,a2⟩
   ·right
    refine ⟨e',i+1,m',a1, ?_,by simpa using a3,a4,a5,a6,by simp [a7],fun v cv hv=> ?_, ?_⟩
    ·rw [a2];congr 3;omega
    ·simp only [OD,hq,List.modify_succ_cons]
     exact ⟨h1,a8 v cv hv⟩
    ·simp only [NM,hq,List.eraseIdx_cons_succ]
     exact ⟨h1,a9⟩
 | [],_::_,_,h,_=>h.elim
 |_::_,[],_,h,_=>h.elim
theorem run_findKey {kt:TypeId} {d:TypeDesc} (hd:C.P.underlying kt=some d) {ck:Value} {l:List MapEntry} {r:Option (Nat×Value)} (h:Instr.findNow d ck l 0=some r):
  (Instr.findKey kt ck l).run C.P w=.ok r w:=by
 unfold Instr.findKey
 rw [aI hd,h];rfl
theorem run_checkKey {kt:TypeId} {d:TypeDesc} (hd:C.P.underlying kt=some d) {k:AV} {ck:Value} (hk:aA γ k=some ck) (hkd:keyOf d k=true) (b:Bool) (w:World):
  (Instr.checkKey b 10000 kt ck).run C.P w=.ok () w:=by
 show (Instr.checkKey b (9999+1) kt ck).run C.P w=.ok () w
 unfold Instr.checkKey
 rw [aI hd]
 cases d<;>cases k<;>simp [keyOf] at hkd<;>simp only [aA,Option.some.injEq] at hk<;>subst hk<;>rfl
theorem J3 {d:TypeDesc} {k v:AV} (hk:keyOf d k=true):∀{es:List ME},(∀e∈es,keyOf d e.k=true)→∀e∈OD k v es,keyOf d e.k=true
 | [],_,e,he=>by simp [OD] at he
 |x::es,h,e,he=>by
  unfold OD at he
  cases hq:oM k x.k with
  |true=>
   rw [hq] at he
   rcases List.mem_cons.1 he with rfl|he
   ·exact hk
   ·exact h e (by simp [he])
  |false=>
   rw [hq] at he
   rcases List.mem_cons.1 he with rfl|he
   ·exact h _ (by simp)
   ·exact J3 hk (fun e he=>h e (by simp [he])) e he
theorem J4 {d:TypeDesc} {k:AV}:∀{es:List ME},(∀e∈es,keyOf d e.k=true)→∀e∈NM k es,keyOf d e.k=true
 | [],_,e,he=>by simp [NM] at he
 |x::es,h,e,he=>by
  unfold NM at he
  cases hq:oM k x.k with
  |true=>rw [hq] at he;exact h e (by simp;exact .inr he)
  |false=>
   rw [hq] at he
   rcases List.mem_cons.1 he with rfl|he
   ·exact h _ (by simp)
   ·exact J4 (fun e he=>h e (by simp [he])) e he
theorem dZ.push:∀{es:List ME} {l:List MapEntry} {e:ME} {m:MapEntry},dZ γ es l→vH γ e m→dZ γ (es++[e]) (l++[m])
 | [],[],_,_,_,h=>⟨h,trivial⟩
 |_::_,_::_,_,_,h,h'=>⟨h.1,dZ.push h.2 h'⟩
 | [],_::_,_,_,h,_=>h.elim
 |_::_,[],_,_,h,_=>h.elim
theorem a8s (hR:Rel C base γ s w) {r:Nat} {lc:Loc} {m:List ME×Nat} {ents:Array MapEntry} (hb:s.h.get r=some (.map m.1 m.2)) (hl:γ r=some lc) (ho:w.heap[lc.blk]? =some (.map ents m.2))
  (he:dZ γ m.1 ents.toList) (hk0:∃d,∀e∈m.1,keyOf d e.k=true) {kt ty et:TypeId} {d:TypeDesc} (hty:C.P.underlying ty=some (.map kt et)) (hd:C.P.underlying kt=some d)
  {k v:AV} {ck cv:Value} (hk:aA γ k=some ck) (hv:aA γ v=some cv) (hf:uP d k m.1=true):
  ∃w',(Instr.mapUpdate ty (.map (some lc.blk)) ck cv).run C.P w=.ok () w'∧Step C base γ s w γ (a8u s r k v m) w':=by
 obtain ⟨hkd,hall⟩:=xw hf hk0
 unfold Instr.mapUpdate
 rw [aI hty]
 simp only [Sem.run_bind,jd ho,Result.andThen_ok,run_checkKey hd hk hkd]
 rcases found d k ck hk hkd m.1 ents.toList 0 he hall with ⟨a1,a2⟩| ⟨e,i,x,a1,a2,a3,a4,a5,a6,a7,a8,a9⟩
 ·simp only [run_findKey hd a2,Result.andThen_ok,oC ho]
  refine ⟨_,rfl, ?_⟩
  unfold a8u
  rw [a1]
  refine Step.BO hR hb hl ho ?_ ⟨d, ?_⟩
  ·rw [Array.toList_push]
   exact he.push ⟨hk,hv,rfl⟩
  ·intro e he
   rcases List.mem_append.1 he with he|he
   ·exact hall e he
   ·simp only [List.mem_singleton] at he;subst he;exact hkd
 ·rw [Nat.zero_add] at a2
  have hx:ents[i]? =some x:=by simpa using a3
  have hsame:Instr.sameBits 10000 (((ents[i]?).map (·.key)).getD ck) ck=true:=by
   rw [hx]
   have:=(Fg hk a4.1 hkd (hall e a7)).2.2 a6
   simpa using this
  simp only [run_findKey hd a2,Result.andThen_ok,Instr.keyThatStays,hsame,if_true,Sem.run_bind,Sem.run_pure,oC ho]
  refine ⟨_,rfl, ?_⟩
  unfold a8u
  rw [a1]
  refine Step.BO hR hb hl ho ?_ ⟨d,J3 hkd hall⟩
  rw [Array.toList_modify]
  exact a8 v cv hv
theorem Hy (hC:Good C) (hR:Rel C base γ s w) (ht:bn γ nt t a.tmps) (ty:TypeId) (x y z:Operand) (rt:TypeId):
  (jJ ty x y z rt C t s).path (fF C base γ s w ((US (Instr.mapUpdate ty (a.eval x) (a.eval y) (a.eval z))).run C.P w)):=by
 refine R.bH _ (bJ hC ty) fun d0 hd0=> ?_
 cases d0 with
 |map kt et=>
  refine R.bH _ (bJ hC kt) fun d hd=> ?_
  refine R.bH _ (bI hR ht x) fun v hv=> ?_
  cases v with
  |iY r=>
   refine R.bH _ (iI hR _ _ hv) fun m hm=> ?_
   refine R.bH _ (bI hR ht y) fun k hk=> ?_
   refine R.bH _ (bI hR ht z) fun v' hv'=> ?_
   refine R.bH _ (R.aU _ _) fun _ hg=> ?_
   rcases hm with ⟨h,_⟩| ⟨r',lc,ents,h0,hl,hc,h1,h2,h3,h4⟩
   ·cases h
   ·cases h0
    obtain ⟨w',g1,g2⟩:=a8s hR h1 hl h2 h3 h4 hd0 hd hk hv' hg
    rw [hc]
    exact ⟨γ,w',by simp [US,g1],g2⟩
  |_=>trivial
 |_=>trivial
theorem zN {kt ty et:TypeId} {d:TypeDesc} (hty:C.P.underlying ty=some (.map kt et)) (hd:C.P.underlying kt=some d) {cm ck z:Value} {k:AV} (hk:aA γ k=some ck) (hkd:keyOf d k=true)
  {ents:Array MapEntry} (hm:(cm=.map none∧ents=#[])∨∃b c,cm=.map (some b)∧w.heap[b]? =some (.map ents c)) {r:Option (Nat×Value)} (hr:Instr.findNow d ck ents.toList 0=some r)
  (hz:r=none→∀w,(zeroValue et).run C.P w=.ok z w) (ok:Bool):
  (Instr.lookup ty cm ck ok).run C.P w=.ok (match r with|some (_,v)=>(if ok then .tuple #[v,.bool true] else v)|none=>(if ok then .tuple #[z,.bool false] else z)) w:=by
 unfold Instr.lookup
 rw [aI hty]
 rcases hm with ⟨rfl,rfl⟩| ⟨b,c,rfl,hb⟩
 ·simp only [Sem.run_bind,Sem.run_pure,Result.andThen_ok,run_checkKey hd hk hkd,run_findKey hd hr]
  cases r with
  |none=>simp only [Sem.run_bind,hz rfl,Result.andThen_ok,Sem.run_pure]
  |some p=>rfl
 ·simp only [Sem.run_bind,jd hb,Sem.run_pure,Result.andThen_ok,run_checkKey hd hk hkd,run_findKey hd hr]
  cases r with
  |none=>simp only [Sem.run_bind,hz rfl,Result.andThen_ok,Sem.run_pure]
  |some p=>rfl
theorem MapAt.ents {m:List ME×Nat} {x:AV} {cx:Value} (hm:MapAt γ s w x cx m):∃ents:Array MapEntry,((cx=.map none∧ents=#[])∨∃b c,cx=.map (some b)∧w.heap[b]? =some (.map ents c))∧
  dZ γ m.1 ents.toList∧(∃d,∀e∈m.1,keyOf d e.k=true):=by
 rcases hm with ⟨_,hc,rfl⟩| ⟨r',lc,ents,h0,hl,hc,h1,h2,h3,h4⟩
 ·exact ⟨#[],.inl ⟨hc,rfl⟩,trivial,.bool,fun e he=>by cases he⟩
 ·exact ⟨ents,.inr ⟨_,_,hc,h2⟩,h3,h4⟩
theorem xU {v:AV} {c:Value} (h:aA γ v=some c) (ok b:Bool):aA γ (o8 ok b v)=some (if ok then .tuple #[c,.bool b] else c):=by
 cases ok
 ·exact h
 ·simp [o8,aA,aG,h]
theorem Yj {d:TypeDesc} {k:AV} {ck:Value} {es:List ME} {e:SE} (hk:aA γ k=some ck) (h:Oq d k es=some e):
  ∃kc,aA γ kc=some ck∧keyOf d kc=true∧nH d es=true∧∀x,keyOf d x=true→aO γ (.a2 (.bin .eql) e (dW x))=some (.val (.bool (oM kc x))):=by
 unfold Oq at h
 cases d<;>first| (cases h;done)|skip
 ·cases k<;>first| (cases h;done)|skip
  rename_i q kd se
  cases kd<;>first| (cases h;done)|skip
  rename_i q'
  simp only at h
  cases hb:Af q q' && nH (.int q) es with
  |false=>rw [hb] at h;cases h
  |true=>
   rw [hb] at h
   obtain rfl:=Option.some.inj h
   simp only [Bool.and_eq_true] at hb
   obtain rfl:=jf hb.1
   obtain ⟨d',h1,⟨n,rfl⟩,rfl⟩:=fE hk
   refine ⟨.int q n,rfl,by simp [keyOf],hb.2,fun x hx=> ?_⟩
   cases x<;>simp only [keyOf,Bool.false_eq_true] at hx
   rename_i q2 m
   have:=of_decide_eq_true hx
   subst this
   simp only [aO,dW,h1,Option.bind_some,e2,kG,dB,if_true,intOp,okV,oM]
 ·cases k<;>first| (cases h;done)|skip
  rename_i kd se
  cases kd<;>first| (cases h;done)|skip
  simp only at h
  cases hb:nH .string es with
  |false=>rw [hb] at h;cases h
  |true=>
   rw [hb] at h
   obtain rfl:=Option.some.inj h
   obtain ⟨d',h1,⟨z,rfl⟩,rfl⟩:=fE hk
   refine ⟨.str z.data.toList,by simp only [aA,Dt.v],rfl,rfl,fun x hx=> ?_⟩
   cases x<;>simp only [keyOf,Bool.false_eq_true] at hx
   simp only [aO,dW,h1,Option.bind_some,e2,kG,strOp,okV,oM]
theorem ED {d:TypeDesc}:∀{es:List ME},nH d es=true→∀e∈es,keyOf d e.k=true
 | [],_,e,he=>by cases he
 |x::es,h,e,he=>by
  simp only [nH,Bool.and_eq_true] at h
  cases he with
  |head=>exact h.1
  |tail _ he=>exact ED h.2 e he
theorem Hf {d:TypeDesc} {kc:AV} {e:SE} (hq:∀x,keyOf d x=true→aO γ (.a2 (.bin .eql) e (dW x))=some (.val (.bool (oM kc x)))):∀(es:List ME) (s:S),Rel C base γ s w→nH d es=true→
  (Ak s e es).path (fun r=>r.1=sW kc es∧Step C base γ s w γ r.2 w)
 | [],s,hR,_=>⟨rfl,Step.refl hR⟩
 |x::es,s,hR,hk=>by
  simp only [nH,Bool.and_eq_true] at hk
  refine R.bH _ (vS hR (hq x.k hk.1)) fun r hr=> ?_
  obtain ⟨h1,h2, -⟩:=hr
  show (match r.1 with|true=>R.ok (some x,r.2)|false=>Ak r.2 e es).path _
  have hf:sW kc (x::es)=match oM kc x.k with|true=>some x|false=>sW kc es:=rfl
  rw [hf,h1]
  cases oM kc x.k with
  |true=>exact ⟨rfl,h2⟩
  |false=>
   refine R.bg ?_ (Hf hq es r.2 h2.rel hk.2)
   rintro r2 ⟨g1,g2⟩
   exact ⟨g1,h2.trans g2⟩
theorem a5E {x:Sem Value} {v:AV} {c:Value} {s':S} (hx:x.run C.P w=.ok c w) (hv:aA γ v=some c) (hs:Step C base γ s w γ s' w):fF C base γ s w ((VS x).run C.P w) (.val v s'):=
 ⟨γ,c,w,by simp [VS,hx],hv,hs⟩
theorem a3G (hC:Good C) (hR:Rel C base γ s w) (ht:bn γ nt t a.tmps) (ty:TypeId) (x y:Operand) (ok:Bool) (rt:TypeId):
  (yY ty x y ok rt C t s).path (fF C base γ s w ((VS (Instr.lookup ty (a.eval x) (a.eval y) ok)).run C.P w)):=by
 refine R.bH _ (bJ hC ty) fun d0 hd0=> ?_
 cases d0 with
 |map kt et=>
  refine R.bH _ (bJ hC kt) fun d hd=> ?_
  refine R.bH _ (bI hR ht x) fun v hv=> ?_
  refine R.bH _ (iI hR _ _ hv) fun m hm=> ?_
  refine R.bH _ (bI hR ht y) fun k hk=> ?_
  obtain ⟨ents,a2y,hme,hko⟩:=hm.ents
  show (match Oq d k m.1 with|some se=>(Ak s se m.1 >>= fun r=>match r.1 with|some e=>R.ok (Nx.val (o8 ok true e.v) r.2)|none=>(nM C et >>= fun v=>R.ok (Nx.val (o8 ok false v) r.2)))|none=>(bP (uP d k m.1) "lookup: key" >>= fun _=>match sW k m.1 with|some e=>R.ok (Nx.val (o8 ok true e.v) s)|none=>(nM C et >>= fun v=>R.ok (Nx.val (o8 ok false v) s)))).path _
  cases hab:Oq d k m.1 with
  |some se=>
   obtain ⟨kc,hkc,hkd,adq,hq⟩:=Yj hk hab
   refine R.bH _ (Hf hq m.1 s hR adq) fun r hr=> ?_
   obtain ⟨hr1,hr2⟩:=hr
   rcases found d kc _ hkc hkd m.1 ents.toList 0 hme (ED adq) with ⟨a1,a2⟩| ⟨e,i,x',a1,a2,a3,a4,a5,a6,a7,a8,a9⟩
   ·rw [hr1,a1]
    refine R.bH _ (uK hC et) fun z hz=> ?_
    obtain ⟨c,hz1,hz2⟩:=hz
    exact a5E (zN hd0 hd hkc hkd a2y a2 (fun _=>hz1) ok) (xU (hz2 γ) ok false) hr2
   ·rw [hr1,a1]
    exact a5E (zN (z:=.nilIface) hd0 hd hkc hkd a2y a2 (fun h=>by cases h) ok) (xU a4.2.1 ok true) hr2
  |none=>
  simp only
  refine R.bH _ (R.aU _ _) fun _ hg=> ?_
  obtain ⟨hkd,hall⟩:=xw hg hko
  rcases found d k _ hk hkd m.1 ents.toList 0 hme hall with ⟨a1,a2⟩| ⟨e,i,x',a1,a2,a3,a4,a5,a6,a7,a8,a9⟩
  ·show (match sW k m.1 with|some e=>R.ok (Nx.val (o8 ok true e.v) s)|none=>(nM C et >>= fun v=>R.ok (Nx.val (o8 ok false v) s))).path _
   rw [a1]
   refine R.bH _ (uK hC et) fun z hz=> ?_
   obtain ⟨c,hz1,hz2⟩:=hz
   exact dR hR (zN hd0 hd hk hkd a2y a2 (fun _=>hz1) ok) (xU (hz2 γ) ok false)
  ·show (match sW k m.1 with|some e=>R.ok (Nx.val (o8 ok true e.v) s)|none=>(nM C et >>= fun v=>R.ok (Nx.val (o8 ok false v) s))).path _
   rw [a1]
   exact dR hR (zN (z:=.nilIface) hd0 hd hk hkd a2y a2 (fun h=>by cases h) ok) (xU a4.2.1 ok true)
 |_=>trivial
theorem YX (hC:Good C) (hR:Rel C base γ s w) (ht:bn γ nt t a.tmps) (ty:TypeId) (x y:Operand) (rt:TypeId):
  (vU ty x y rt C t s).path (fF C base γ s w ((VS (Instr.mapEntry ty (a.eval x) (a.eval y))).run C.P w)):=by
 refine R.bH _ (bJ hC ty) fun d0 hd0=> ?_
 cases d0 with
 |map kt et=>
  refine R.bH _ (bJ hC kt) fun d hd=> ?_
  refine R.bH _ (bI hR ht x) fun v hv=> ?_
  cases v with
  |iY r=>
   refine R.bH _ (iI hR _ _ hv) fun m hm=> ?_
   refine R.bH _ (bI hR ht y) fun k hk=> ?_
   refine R.bH _ (R.aU _ _) fun _ hg=> ?_
   rcases hm with ⟨h,_⟩| ⟨r',lc,ents,h0,hl,hc,h1,h2,h3,h4⟩
   ·cases h
   cases h0
   obtain ⟨hkd,hall⟩:=xw hg h4
   rw [hc]
   have hstart:∀r:Option (Nat×Value),Instr.findNow d (a.eval y) ents.toList 0=some r→True:=fun _ _=>trivial
   rcases found d k _ hk hkd m.1 ents.toList 0 h3 hall with ⟨a1,a2⟩| ⟨e,i,x',a1,a2,a3,a4,a5,a6,a7,a8,a9⟩
   ·show (match sW k m.1 with|some e=>R.ok (Nx.val (.ou [e.v,.int .i64 (.ofNat e.born)]) ⟨s.h.set r (jc.map (OD k e.v m.1) m.2),s.next,s.pc⟩)|none=>(nM C et >>= fun v=>R.ok (Nx.val (.ou [v,.int .i64 (.ofNat m.2)]) ⟨s.h.set r (jc.map (m.1++[(⟨k,v,m.2⟩:ME)]) (Nat.add m.2 1)),s.next,s.pc⟩))).path _
    rw [a1]
    refine R.bH _ (uK hC et) fun z hz=> ?_
    obtain ⟨c,hz1,hz2⟩:=hz
    refine ⟨γ,.tuple #[c,goInt m.2],_, ?_, ?_,Step.BO hR h1 hl h2 (EL:=ents.push { key:=a.eval y,val:=c,born:=m.2 }) (c':=m.2+1) ?_ ⟨d, ?_⟩⟩
    ·unfold Instr.mapEntry
     simp only [VS]
     rw [Sem.run_bind,aI hd0]
     simp only [Sem.run_bind,jd h2,Result.andThen_ok,run_checkKey hd hk hkd,run_findKey hd a2,hz1,oC h2,Sem.run_pure]
    ·simp [aA,aG,hz2 γ,goInt]
    ·rw [Array.toList_push]
     exact h3.push ⟨hk,hz2 γ,rfl⟩
    ·intro e he
     rcases List.mem_append.1 he with he|he
     ·exact hall e he
     ·simp only [List.mem_singleton] at he;subst he;exact hkd
   ·show (match sW k m.1 with|some e=>R.ok (Nx.val (.ou [e.v,.int .i64 (.ofNat e.born)]) ⟨s.h.set r (jc.map (OD k e.v m.1) m.2),s.next,s.pc⟩)|none=>(nM C et >>= fun v=>R.ok (Nx.val (.ou [v,.int .i64 (.ofNat m.2)]) ⟨s.h.set r (jc.map (m.1++[(⟨k,v,m.2⟩:ME)]) (Nat.add m.2 1)),s.next,s.pc⟩))).path _
    rw [a1]
    rw [Nat.zero_add] at a2
    have hx:ents[i]? =some x':=by simpa using a3
    have hsame:Instr.sameBits 10000 (((ents[i]?).map (·.key)).getD (a.eval y)) (a.eval y)=true:=by
     rw [hx]
     have:=(Fg hk a4.1 hkd (hall e a7)).2.2 a6
     simpa using this
    refine ⟨γ,.tuple #[x'.val,goInt x'.born],_, ?_, ?_,Step.BO hR h1 hl h2 (EL:=ents.modify i fun e=>{ e with key:=a.eval y }) (c':=m.2) ?_ ⟨d,J3 hkd hall⟩⟩
    ·unfold Instr.mapEntry
     simp only [VS]
     rw [Sem.run_bind,aI hd0]
     simp only [Sem.run_bind,jd h2,Result.andThen_ok,run_checkKey hd hk hkd,run_findKey hd a2,Instr.keyThatStays,hsame,if_true,Sem.run_pure,oC h2]
     simp [hx]
    ·simp [aA,aG,a4.2.1,goInt,a4.2.2]
    ·rw [Array.toList_modify]
     have:=a8 e.v x'.val a4.2.1
     have h':ents.toList.modify i (fun e=>{ e with key:=a.eval y,val:=x'.val })=ents.toList.modify i (fun e=>{ e with key:=a.eval y }):=by
      apply List.ext_getElem?
      intro j
      simp only [List.getElem?_modify]
      by_cases hij:i=j
      ·subst hij;rw [a3];simp
      ·simp [hij]
     rw [←h'];exact this
  |_=>trivial
 |_=>trivial
theorem Yr (b:Nat) {v:AV} {cv:Value} (hv:aA γ v=some cv):∀{es:List ME} {l:List MapEntry},dZ γ es l→
  (EJ b es=none)∨(∃e i,EJ b es=some e∧l.findIdx? (fun e=>(e.born:Int)==(b:Int))=some i∧dZ γ (setB b v es) (l.modify i fun x=>{ x with val:=cv }))
 | [],[],_=>.inl rfl
 |e::es,m::l,⟨h1,h2⟩=>by
  unfold EJ setB
  cases hq:Nat.beq e.born b with
  |true=>
   right
   have:e.born=b:=Nat.eq_of_beq_eq_true hq
   refine ⟨e,0,rfl, ?_, ?_⟩
   ·rw [List.findIdx?_cons];simp [h1.2.2,this]
   ·simp only [List.modify_zero_cons]
    exact ⟨⟨h1.1,hv,h1.2.2⟩,h2⟩
  |false=>
   have:e.born≠b:=by intro h;rw [h] at hq;simp at hq
   rcases Yr b hv h2 with h| ⟨e',i,a1,a2,a3⟩
   ·exact .inl h
   ·right
    refine ⟨e',i+1,a1, ?_, ?_⟩
    ·rw [List.findIdx?_cons,a2]
     have hf:((m.born:Int)==(b:Int))=false:=by
      rw [h1.2.2];exact beq_eq_false_iff_ne.2 (by omega)
     rw [hf];rfl
    ·simp only [List.modify_succ_cons]
     exact ⟨h1,a3⟩
 | [],_::_,h=>h.elim
 |_::_,[],h=>h.elim
theorem P6 {d:TypeDesc} {b:Nat} {v:AV}:∀{es:List ME},(∀e∈es,keyOf d e.k=true)→∀e∈setB b v es,keyOf d e.k=true
 | [],_,e,he=>by simp [setB] at he
 |x::es,h,e,he=>by
  unfold setB at he
  cases hq:Nat.beq x.born b with
  |true=>
   rw [hq] at he
   rcases List.mem_cons.1 he with rfl|he
   ·exact h x (by simp)
   ·exact h e (by simp [he])
  |false=>
   rw [hq] at he
   rcases List.mem_cons.1 he with rfl|he
   ·exact h _ (by simp)
   ·exact P6 (fun e he=>h e (by simp [he])) e he
theorem Z9 {α:Type} (p:α→Bool) (a:Array α):a.findIdx? p=a.toList.findIdx? p:=by
 cases a;simp
theorem Sm (hR:Rel C base γ s w) (ht:bn γ nt t a.tmps) (ty:TypeId) (x y z:Operand) (rt:TypeId):
  (pR x y z rt C t s).path (fF C base γ s w ((US (Instr.entryStore ty (a.eval x) (a.eval y) (a.eval z))).run C.P w)):=by
 refine R.bH _ (bI hR ht x) fun v hv=> ?_
 cases v with
 |iY r=>
  refine R.bH _ (iI hR _ _ hv) fun m hm=> ?_
  refine R.bH _ (bI hR ht y) fun k hk=> ?_
  refine R.bH _ (lQ k) fun b hb=> ?_
  obtain ⟨kk,rfl⟩:=hb
  refine R.bH _ (bI hR ht z) fun v' hv'=> ?_
  rcases hm with ⟨h,_⟩| ⟨r',lc,ents,h0,hl,hc,h1,h2,h3,d,h4⟩
  ·cases h
  cases h0
  rw [hc]
  simp only [aA,Option.some.injEq] at hk
  rw [←hk]
  show (match EJ b m.1 with|some _=>R.ok (Nx.skip ⟨s.h.set r (.map (setB b v' m.1) m.2),s.next,s.pc⟩)|none=>R.bad _).path _
  rcases Yr b hv' h3 with h| ⟨e,i,a1,a2,a3⟩
  ·rw [h];trivial
  ·rw [a1]
   have a2':ents.findIdx? (fun e=>(e.born:Int)==(b:Int))=some i:=by rw [Z9];exact a2
   refine ⟨γ,_, ?_,Step.BO hR h1 hl h2 (EL:=ents.modify i fun e=>{ e with val:=a.eval z }) (c':=m.2) ?_ ⟨d,P6 h4⟩⟩
   ·unfold Instr.entryStore
    simp only [US,Sem.run_bind,jd h2,Result.andThen_ok,GK,Sem.run_pure]
    have:(Int.ofNat b)=(b:Int):=rfl
    rw [this,a2']
    simp only [oC h2,Result.andThen_ok]
   ·rw [Array.toList_modify];exact a3
 |_=>trivial
theorem a3I (hC:Good C) (hR:Rel C base γ s w) (argTypes:List TypeId) (args:List AV) (aY:List Value) (hargs:aG γ args=some aY) (rt:TypeId):
  (Rt C s argTypes args).path (fF C base γ s w ((VS (Builtin.delete_ ⟨argTypes⟩ rt ⟨aY⟩)).run C.P w)):=by
 unfold Rt
 split
 case h_2=>trivial
 rename_i x k ty rest
 obtain ⟨cx,cl1,hcx,g1,rfl⟩:=aP.1 hargs
 obtain ⟨ck,cl2,hk,g2,rfl⟩:=aP.1 g1
 simp only [aG,Option.some.injEq] at g2;subst g2
 refine R.bH _ (bJ hC ty) fun d0 hd0=> ?_
 cases d0 with
 |map kt et=>
  refine R.bH _ (bJ hC kt) fun d hd=> ?_
  refine R.bH _ (iI hR _ _ hcx) fun m hm=> ?_
  refine R.bH _ (R.aU _ _) fun _ hg=> ?_
  rcases hm with ⟨h,hc,rfl⟩| ⟨r,lc,ents,h0,hl,hc,h1,h2,h3,h4⟩
  ·subst h;subst hc
   simp only [uP,Bool.and_eq_true] at hg
   refine dR hR (c:=.tuple #[]) ?_ (by simp [aA,aG])
   simp only [Builtin.delete_,List.getElem?_toArray,List.getElem?_cons_zero,List.getElem?_cons_succ]
   rw [aI hd0]
   simp only [Sem.run_bind,run_checkKey hd hk hg.1,Result.andThen_ok,Sem.run_pure]
  ·subst h0;subst hc
   obtain ⟨hkd,hall⟩:=xw hg h4
   show (R.ok (Nx.val (.ou []) ⟨s.h.set r (.map (NM k m.1) m.2),s.next,s.pc⟩)).path _
   rcases found d k _ hk hkd m.1 ents.toList 0 h3 hall with ⟨a1,a2⟩| ⟨e,i,x',a1,a2,a3,a4,a5,a6,a7,a8,a9⟩
   ·refine ⟨γ,.tuple #[],_, ?_,by simp [aA,aG],Step.BO hR h1 hl h2 (EL:=ents) (c':=m.2) ?_ ⟨d,J4 hall⟩⟩
    ·simp only [VS,Builtin.delete_,List.getElem?_toArray,List.getElem?_cons_zero,List.getElem?_cons_succ]
     rw [Sem.run_bind,aI hd0]
     simp only [Sem.run_bind,jd h2,run_checkKey hd hk hkd,run_findKey hd a2,Result.andThen_ok,Sem.run_pure,oC h2]
    ·have:NM k m.1=m.1:=by
       have:∀es:List ME,sW k es=none→NM k es=es:=by
        intro es
        induction es with
        |nil=>intro _;rfl
        |cons e es ih=>
         intro h
         unfold sW at h;unfold NM
         cases hq:oM k e.k with
         |true=>rw [hq] at h;cases h
         |false=>rw [hq] at h;simp only;rw [ih h]
       exact this _ a1
     rw [this];exact h3
   ·rw [Nat.zero_add] at a2
    have hlt:i < ents.size:=by
     rcases Nat.lt_or_ge i ents.size with h'|h'
     ·exact h'
     ·rw [List.getElem?_eq_none (by simpa using h')] at a3;cases a3
    refine ⟨γ,.tuple #[],_, ?_,by simp [aA,aG],Step.BO hR h1 hl h2 (EL:=ents.eraseIdxIfInBounds i) (c':=m.2) ?_ ⟨d,J4 hall⟩⟩
    ·simp only [VS,Builtin.delete_,List.getElem?_toArray,List.getElem?_cons_zero,List.getElem?_cons_succ]
     rw [Sem.run_bind,aI hd0]
     simp only [Sem.run_bind,jd h2,run_checkKey hd hk hkd,run_findKey hd a2,Result.andThen_ok,Sem.run_pure,oC h2]
    ·have:(ents.eraseIdxIfInBounds i).toList=ents.toList.eraseIdx i:=by
       simp [Array.eraseIdxIfInBounds,hlt]
     rw [this];exact a9
 |_=>trivial
theorem a0S (hC:Good C) (hR:Rel C base γ s w) (ht:bn γ nt t a.tmps) (ty:TypeId) (x:Option Operand) (rt:TypeId):
  (YQ ty x rt C t s).path (fF C base γ s w ((VS (Instr.makeMap ty (x.map a.eval))).run C.P w)):=by
 have hstep:=Step.alloc (base:=base) hR (.map [] 0) (.map #[] 0) 0 1 (w':=w.alloc (.map #[] 0)) rfl rfl rfl rfl
  (fun γ' _=>⟨#[],rfl,trivial,.bool,fun e he=>by cases he⟩)
 cases x with
 |none=>
  refine ⟨_,.map (some w.heap.size),_, ?_, ?_,hstep⟩
  ·rfl
  ·simp [aA]
 |some x=>
  refine R.bH _ (bJ hC ty) fun d hd=> ?_
  cases d with
  |map kt et=>
   refine R.bH _ (bI hR ht x) fun v hv=> ?_
   cases v with
   |int k n=>
    simp only [aA,Option.some.injEq] at hv
    refine ⟨_,.map (some w.heap.size),_, ?_, ?_,hstep⟩
    ·simp only [Option.map_some,VS,Instr.makeMap,Sem.run_bind]
     rw [←hv]
     rw [iU hd]
     rfl
    ·simp [aA]
   |_=>trivial
  |_=>trivial
theorem Hl (hC:Good C) (hR:Rel C base γ s w) (e:TypeId) (x:AV) (cx:Value) (hcx:aA γ x=some cx) {ty:TypeId} (hd:C.P.underlying ty=some (.slice e)) (rest:List TypeId) (rt:TypeId):
  (a2N C s e x).path (fF C base γ s w ((VS (Builtin.clear_ ⟨ty::rest⟩ rt ⟨[cx]⟩)).run C.P w)):=by
 have run:∀(ad:Addr) (len cap:Nat) (zv:Value) (q:List Value) (w':World),cx=.slice (some ad) (len+1) cap→(∀w,(zeroValue e).run C.P w=.ok zv w)→
   Builtin.zeroCells zv.cells (len+1)=⟨q⟩→(storeCells ad q).run C.P w=.ok () w'→(Builtin.clear_ ⟨ty::rest⟩ rt ⟨[cx]⟩).run C.P w=.ok (.tuple #[]) w':=by
  intro ad len cap zv q w' h hz hq hs
  subst h
  simp only [Builtin.clear_,List.getElem?_toArray,List.getElem?_cons_zero]
  rw [aI hd]
  simp only [Sem.run_bind,hz,Result.andThen_ok,hq,hs,Sem.run_pure]
 have acZ:∀(ad:Addr) (cap:Nat),cx=.slice (some ad) 0 cap→(Builtin.clear_ ⟨ty::rest⟩ rt ⟨[cx]⟩).run C.P w=.ok (.tuple #[]) w:=by
  intro ad cap h
  subst h
  simp only [Builtin.clear_,List.getElem?_toArray,List.getElem?_cons_zero]
  rw [aI hd]
  rfl
 have zc:∀(zv:Value) (z:List AV) (len:Nat),(∀γ,aG γ z=some zv.cells.toList)→∃q,aG γ (Fp z len)=some q∧Builtin.zeroCells zv.cells len=⟨q⟩:=by
  intro zv z len hz
  obtain ⟨q,q1,q2,q3⟩:=nZ (hz γ) len
  refine ⟨q,q1, ?_⟩
  exact yR (r:=zv.cells.toList) (n:=len * zv.cells.size) (m:=len) (by simp) zv.cells (fun _=>rfl) (by simpa using q2) (fun j hj=>q3 j (by simpa using hj))
 cases x with
 |sl b off len cap=>
  simp only [aA,Option.map_eq_some_iff] at hcx
  obtain ⟨lc,hl,hcx⟩:=hcx
  refine R.bH _ (oH hC e) fun z hz=> ?_
  obtain ⟨i,zv,z1,z2,z3,z4⟩:=hz
  obtain ⟨q,q1,q2⟩:=zc zv z len z4
  refine R.bH _ (jH hR b off _ q q1 lc hl) fun s' hs'=> ?_
  obtain ⟨w',hw1,hw2⟩:=hs'
  cases len with
  |zero=>
   have hq:q=[]:=by simp [Fp,aG] at q1;exact q1
   subst hq
   have hw0:w=w':=by
    simp only [storeCells,Sem.run_pure,Result.ok.injEq] at hw1;exact hw1.2
   subst hw0
   refine ⟨γ,.tuple #[],w, ?_,by simp [aA,aG],hw2⟩
   simp only [VS,Sem.run_bind,acZ _ _ hcx.symm,Result.andThen_ok,Sem.run_pure]
  |succ len=>
   refine ⟨γ,.tuple #[],w', ?_,by simp [aA,aG],hw2⟩
   simp only [VS,Sem.run_bind,run _ _ _ zv q w' hcx.symm z3 q2 hw1,Result.andThen_ok,Sem.run_pure]
 |gQ b pre e0 len sz=>
  simp only [aA,Option.map_eq_some_iff] at hcx
  obtain ⟨lc,hl,hcx⟩:=hcx
  refine R.bH _ (dF hC e) fun i hi=> ?_
  refine R.bH _ (R.aU _ _) fun _ hg=> ?_
  obtain ⟨hsz,_,hcp⟩:=sQ hR hi.1 hl hg
  have abO:e0+len≤lc.cp:=hcp
  refine R.bH _ (oH hC e) fun z hz=> ?_
  obtain ⟨i',zv,z1,z2,z3,z4⟩:=hz
  obtain ⟨q,q1,q2⟩:=zc zv z len z4
  refine R.bH _ (jH hR b _ _ q q1 lc hl) fun s' hs'=> ?_
  obtain ⟨w',hw1,hw2⟩:=hs'
  cases len with
  |zero=>
   have hq:q=[]:=by simp [Fp,aG] at q1;exact q1
   subst hq
   have hw0:w=w':=by
    simp only [storeCells,Sem.run_pure,Result.ok.injEq] at hw1;exact hw1.2
   subst hw0
   refine ⟨γ,.tuple #[],w, ?_,by simp [aA,aG],hw2⟩
   simp only [VS,Sem.run_bind,acZ _ _ hcx.symm,Result.andThen_ok,Sem.run_pure]
  |succ len=>
   have hlt:e0 < lc.cp:=by omega
   rw [if_pos hlt] at hcx
   refine ⟨γ,.tuple #[],w', ?_,by simp [aA,aG],hw2⟩
   simp only [VS,Sem.run_bind,run _ _ _ zv q w' hcx.symm z3 q2 hw1,Result.andThen_ok,Sem.run_pure]
 |_=>trivial
theorem a5B (hC:Good C) (hR:Rel C base γ s w) (argTypes:List TypeId) (args:List AV) (aY:List Value) (hargs:aG γ args=some aY) (rt:TypeId):
  (X0 C s argTypes args).path (fF C base γ s w ((VS (Builtin.clear_ ⟨argTypes⟩ rt ⟨aY⟩)).run C.P w)):=by
 unfold X0
 split
 case h_2=>trivial
 rename_i x ty rest
 obtain ⟨cx,cl1,hcx,g1,rfl⟩:=aP.1 hargs
 simp only [aG,Option.some.injEq] at g1;subst g1
 refine R.bH _ (bJ hC ty) fun d0 hd0=> ?_
 cases d0 with
 |slice e=>
  cases x with
  |aW=>
   simp only [aA,Option.some.injEq] at hcx;subst hcx
   refine dR hR (c:=.tuple #[]) ?_ (by simp [aA,aG])
   simp only [Builtin.clear_,List.getElem?_toArray,List.getElem?_cons_zero]
   rw [aI hd0];rfl
  |sl b off len cap=>exact Hl hC hR e _ cx hcx hd0 rest rt
  |gQ b pre e0 len sz=>exact Hl hC hR e _ cx hcx hd0 rest rt
  |_=>trivial
 |map kt et=>
  cases x with
  |iW=>
   simp only [aA,Option.some.injEq] at hcx;subst hcx
   refine dR hR (c:=.tuple #[]) ?_ (by simp [aA,aG])
   simp only [Builtin.clear_,List.getElem?_toArray,List.getElem?_cons_zero]
   rw [aI hd0];rfl
  |iY r=>
   refine R.bH _ (iI hR _ _ hcx) fun m hm=> ?_
   rcases hm with ⟨h,_⟩| ⟨r,lc,ents,h0,hl,hc,h1,h2,h3,h4⟩
   ·cases h
   cases h0;subst hc
   refine ⟨γ,.tuple #[],_, ?_,by simp [aA,aG],Step.BO hR h1 hl h2 (EL:=#[]) (c':=m.2) (es':=[]) trivial ⟨.bool,fun e he=>by cases he⟩⟩
   simp only [VS,Builtin.clear_,List.getElem?_toArray,List.getElem?_cons_zero]
   rw [Sem.run_bind,aI hd0]
   simp only [Sem.run_bind,jd h2,Result.andThen_ok,Sem.run_pure,oC h2]
  |_=>trivial
 |_=>trivial
end
end Go.Proofs.YtjioppomopfifaaGreatDoor.Abs
namespace Go.Proofs.YtjioppomopfifaaGreatDoor.Abs
open Go
section
variable {C:Ctx} {base:Nat} {γ:G} {s:S} {w:World} {nt:Nat} {t:Tr AV} {a:Act}
def isCells:jc→Bool
 | .cells ..=>true
 | .tab ..=>true
 |_=>false
theorem Step.setOther (hR:Rel C base γ s w) {r:Nat} {b b':jc} {o o':Obj} {lc:Loc} (hb:s.h.get r=some b) (hl:γ r=some lc) (ho:w.heap[lc.blk]? =some o)
  (h1:isCells b=false) (_h2:isCells b'=false) (hr:fG C γ lc b' o') {w':World} (hw:w'.heap=w.heap.setIfInBounds lc.blk o') (ht:w'.tape=w.tape) (hos:w'.os=w.os) (hout:w'.output=w.output):
  Step C base γ s w γ ⟨s.h.set r b',s.next,s.pc⟩ w':=by
 have hlt:lc.blk < w.heap.size:=by
  rcases Nat.lt_or_ge lc.blk w.heap.size with h'|h'
  ·exact h'
  ·rw [Array.getElem?_eq_none h'] at ho;cases ho
 have hst:eF b=false:=by cases b<;>first|rfl|cases h1
 have sV:∀i x li,i≠r→(s.h.set r b').get i=some x→γ i=some li→li.blk=lc.blk→False:=by
  intro i x li hi hx MP hbl
  rw [Tr.get_set_other _ _ (Ne.symm hi)] at hx
  rcases hR.sep i r x _ li lc hx hb MP hl hi hbl with h|h
  ·cases b<;>first| (cases h1;done)| (cases x<;>simp [iR] at h)
  ·cases b<;>first| (cases h1;done)|simp [iR] at h
 refine Step.of ⟨Grow.refl γ, ?_,⟨by rw [hw];simp,ht,hos,hout, ?_⟩, ?_,Nat.le_refl _,fun _ _ h=>hR.lt h,fun _ l h=>.inl ⟨l,h⟩,fun id x h1 _=>by
  simp only [Tr.dH] at h1
  split at h1
  ·next h=>subst h;exact ⟨_,hb⟩
  ·exact ⟨x,h1⟩⟩
 ·refine hR.Fe (b':=b') (o':=o') hb hl hl ⟨rfl,rfl,rfl⟩ hst (fun _ _=>rfl) ?_ (Tr.get_set_same _ _ _) ?_ ?_ (by rw [hw];simp) hr
    (fun i x li hi hx h3 h4=>(sV i x li hi hx h3 h4).elim) (fun i x li hi hx h3 h4=>(sV i x li hi hx h3 h4).elim)
  ·intro i x hi hx
   rw [Tr.get_set_other _ _ (Ne.symm hi)] at hx;exact hx
  ·intro k hk
   rw [hw];simp [Ne.symm hk]
  ·rw [hw];simp [hlt]
 ·intro k o hk hn
  have:k≠lc.blk:=fun h=>hn ⟨r,_,lc,hb,hst,hl,h.symm⟩
  rw [hw];simp [Ne.symm this,hk]
 ·rintro k ⟨id,x,l,q1,q2,q3,q4⟩ _
  simp only [Tr.dH] at q1
  split at q1
  ·next h=>subst h;exact ⟨_,_,lc,hb,hst,hl,by rw [hl] at q3;obtain rfl:=Option.some.inj q3;exact q4⟩
  ·exact ⟨id,x,l,q1,q2,q3,q4⟩
theorem oz {P:Program} {r:Nat} {o o':Obj} {w:World} (h:w.heap[r]? =some o) (hc:∀x y z,o≠.cells x y z):
  (setObj r o').run P w=.ok () { w with heap:=w.heap.setIfInBounds r o' }:=by
 simp only [setObj,Sem.run,h]
theorem jF {P:Program} {r:Nat} {o:Obj} {w:World} (h:w.heap[r]? =some o) (hc:∀x y z,o≠.cells x y z):(getObj r).run P w=.ok o w:=by
 simp only [getObj,Sem.run,h]
theorem a5u (hC:Good C) (hR:Rel C base γ s w) (ht:bn γ nt t a.tmps) (ty:TypeId) (x:Operand) (rt:TypeId):
  (Hr ty x rt C t s).path (fF C base γ s w ((VS (Instr.range ty (a.eval x))).run C.P w)):=by
 refine R.bH _ (bI hR ht x) fun v hv=> ?_
 refine R.bH _ (bJ hC ty) fun d hd=> ?_
 have fin:∀(b:jc) (o:Obj),(∀γ',Grow γ γ'→fG C γ' ⟨w.heap.size,0,1,none⟩ b o)→(Instr.range ty (a.eval x)).run C.P w=.ok (.pointer (some ⟨w.heap.size,0,none⟩)) (w.alloc o)→
   fF C base γ s w ((VS (Instr.range ty (a.eval x))).run C.P w) (.val (.ptr s.next 0) (s.new b)):=by
  intro b o hb hr
  refine ⟨_,.pointer (some ⟨w.heap.size,0,none⟩),_, ?_, ?_,Step.alloc (base:=base) hR b o 0 1 (w':=w.alloc o) rfl rfl rfl rfl hb⟩
  ·simp only [VS,Sem.run_bind,hr,Result.andThen_ok];rfl
  ·simp [aA]
 cases d with
 |string=>
  cases v with
  |str l=>
   simp only [aA,Option.some.injEq] at hv
   refine fin (.KJ l 0) (.stringIter ⟨⟨l⟩⟩ 0) (fun γ' _=>⟨rfl,rfl⟩) ?_
   rw [←hv]
   unfold Instr.range
   rw [aI hd];rfl
  |_=>trivial
 |map kt et=>
  cases v with
  |iW=>
   simp only [aA,Option.some.injEq] at hv
   refine fin (.vY none 0 [] 0) (.mapIter none 0 #[] 0) (fun γ' _=>⟨rfl,rfl⟩) ?_
   rw [←hv]
   unfold Instr.range
   rw [aI hd];rfl
  |iY r=>
   show ((rJ s (.iY r) >>= fun m=>R.ok (jc.vY (some r) m.2 [] m.2)) >>= fun b=>R.ok (Nx.val (.ptr s.next 0) (s.new b))).path _
   refine R.bH (fun b=>∃o,(∀γ',Grow γ γ'→fG C γ' ⟨w.heap.size,0,1,none⟩ b o)∧(Instr.range ty (a.eval x)).run C.P w=.ok (.pointer (some ⟨w.heap.size,0,none⟩)) (w.alloc o)) ?_ (fun b hb=> ?_)
   ·refine R.bH _ (iI hR _ _ hv) fun m hm=> ?_
    rcases hm with ⟨h,_⟩| ⟨r',lc,ents,h0,hl,hc,h1,h2,h3,h4⟩
    ·cases h
    cases h0
    refine ⟨.mapIter (some lc.blk) m.2 #[] m.2,fun γ' hg=> ?_, ?_⟩
    ·obtain ⟨l',q1,q2,q3,q4⟩:=hg r lc hl
     exact ⟨rfl,l',q1,by rw [q2];rfl⟩
    ·rw [hc]
     unfold Instr.range
     rw [aI hd]
     simp only [Sem.run_bind,jd h2,Result.andThen_ok,Sem.run_pure]
     rfl
   ·obtain ⟨o,q1,q2⟩:=hb
    exact fin b o q1 q2
  |_=>trivial
 |_=>trivial
theorem a2A (k:Nat):∀l:List Nat,Ah k l=l.contains k
 | []=>rfl
 |e::es=>by
  show (match Nat.beq k e with|true=>true|false=>Ah k es)=_
  rw [List.contains_cons,a2A k es]
  cases h:Nat.beq k e with
  |true=>simp [Nat.eq_of_beq_eq_true h]
  |false=>
   have:k≠e:=by intro h';rw [h'] at h;simp at h
   simp [this]
theorem PZ (seen:List Nat):∀{es:List ME} {l:List MapEntry},dZ γ es l→dZ γ (leftOf seen es) (l.filter fun e=> !seen.contains e.born)
 | [],[],_=>trivial
 |e::es,m::l,⟨h1,h2⟩=>by
  have ih:=PZ seen h2
  show dZ γ (match Ah e.born seen with|true=>leftOf seen es|false=>e::leftOf seen es) _
  rw [a2A,List.filter_cons,h1.2.2]
  cases hq:seen.contains e.born with
  |true=>simpa using ih
  |false=>exact ⟨h1,ih⟩
 | [],_::_,h=>h.elim
 |_::_,[],h=>h.elim
theorem Bj (n:Nat):∀{es:List ME} {l:List MapEntry},dZ γ es l→DI n es=true→∀m∈l,m.born < n
 | [],[],_,_=>fun _ h=>by cases h
 |e::es,m::l,⟨h1,h2⟩,h=>by
  unfold DI at h
  cases hq:Nat.blt e.born n with
  |true=>
   rw [hq] at h
   have hlt:e.born < n:=Nat.le_of_ble_eq_true hq
   intro m' hm'
   rcases List.mem_cons.1 hm' with rfl|hm'
   ·rw [h1.2.2];exact hlt
   ·exact Bj n h2 h m' hm'
  |false=>rw [hq] at h;cases h
 | [],_::_,h,_=>h.elim
 |_::_,[],h,_=>h.elim
theorem dZ.get:∀{es:List ME} {l:List MapEntry} (i:Nat) (e:ME),dZ γ es l→es[i]? =some e→∃m,l[i]? =some m∧vH γ e m
 | [],[],i,e,_,h=>by simp at h
 |x::es,m::l,0,e,⟨h1,h2⟩,h=>by simp at h;subst h;exact ⟨m,by simp,h1⟩
 |x::es,m::l,i+1,e,⟨h1,h2⟩,h=>by simpa using dZ.get i e h2 (by simpa using h)
 | [],_::_,_,_,h,_=>h.elim
 |_::_,[],_,_,h,_=>h.elim
theorem Yw {r m since last clock:Nat} {seen:List Nat} {ents:Array MapEntry} (hr:w.heap[r]? =some (.mapIter (some m) since ⟨seen.reverse⟩ last)) (hm:w.heap[m]? =some (.map ents clock))
  (h1:∀e∈ents.toList,e.born < last) (h2:∀e∈ents.toList,e.born < since) (rt:TypeId):
  ∃left:List MapEntry,left=ents.toList.filter (fun e=> !seen.contains e.born)∧
  (left=[]→(Instr.next (.pointer (some ⟨r,0,none⟩)) false rt).run C.P w=.ok (.tuple #[.bool false]) w)∧
  (∀e,left=[e]→(Instr.next (.pointer (some ⟨r,0,none⟩)) false rt).run C.P w=.ok (.tuple #[.bool true,e.key,e.val]) { w with heap:=w.heap.setIfInBounds r (.mapIter (some m) since ⟨(e.born::seen).reverse⟩ clock) })∧
  (2≤left.length→∃i e,i < left.length∧left[i]? =some e∧(Instr.next (.pointer (some ⟨r,0,none⟩)) false rt).run C.P w=
    .ok (.tuple #[.bool true,e.key,e.val]) { w with drawn:=w.drawn+1,heap:=w.heap.setIfInBounds r (.mapIter (some m) since ⟨(e.born::seen).reverse⟩ clock) }):=by
 have hq1:(!(Array.isEmpty (⟨seen.reverse⟩:Array Nat)) && !ents.isEmpty && ents.all (·.born ≥ last))=false:=by
  cases he:ents.toList with
  |nil=>
   have:ents.isEmpty=true:=by cases ents;simp at he;subst he;rfl
   simp [this]
  |cons e es=>
   have:ents.all (·.born ≥ last)=false:=by
    have h3:=h1 e (by rw [he];simp)
    rw [←Array.all_toList,he]
    simp;intro h;omega
   rw [this];simp
 have hleft:(ents.filter fun e=> !(⟨seen.reverse⟩:Array Nat).contains e.born).toList=ents.toList.filter (fun e=> !seen.contains e.born):=by
  simp
 have hold:((ents.filter fun e=> !(⟨seen.reverse⟩:Array Nat).contains e.born).filter (·.born < since)).toList=ents.toList.filter (fun e=> !seen.contains e.born):=by
  rw [Array.toList_filter,hleft,List.filter_eq_self.2]
  intro e he
  simpa using h2 e ((List.mem_filter.1 he).1)
 have hnew:((ents.filter fun e=> !(⟨seen.reverse⟩:Array Nat).contains e.born).filter (·.born ≥ since)).toList=[]:=by
  rw [Array.toList_filter,hleft,List.filter_eq_nil_iff]
  intro e he
  have:=h2 e ((List.mem_filter.1 he).1)
  simp;omega
 generalize hL:ents.toList.filter (fun e=> !seen.contains e.born)=L at hleft hold hnew
 have adt:((if ((ents.filter fun e=> !(⟨seen.reverse⟩:Array Nat).contains e.born).filter (·.born < since)).isEmpty then #[none] else #[])++
   (((ents.filter fun e=> !(⟨seen.reverse⟩:Array Nat).contains e.born).filter (·.born < since))++((ents.filter fun e=> !(⟨seen.reverse⟩:Array Nat).contains e.born).filter (·.born ≥ since))).map some)
   =(⟨if L=[] then [none] else L.map some⟩:Array (Option MapEntry)):=by
  apply Array.ext'
  rw [Array.toList_append,Array.toList_map,Array.toList_append,hold,hnew,List.append_nil]
  have he:((ents.filter fun e=> !(⟨seen.reverse⟩:Array Nat).contains e.born).filter (·.born < since)).isEmpty=L.isEmpty:=by
   rw [←Array.isEmpty_toList,hold]
  rw [he]
  cases L<;>simp
 have hrun:(Instr.next (.pointer (some ⟨r,0,none⟩)) false rt).run C.P w=((do
   match (⟨if L=[] then [none] else L.map some⟩:Array (Option MapEntry))[←choose (.mapNext (⟨if L=[] then [none] else L.map some⟩:Array (Option MapEntry)).size)]? with
   |some (some e)=>
    setObj r (.mapIter (some m) since ((⟨seen.reverse⟩:Array Nat).push e.born) clock)
    pure (.tuple #[.bool true,e.key,e.val])
   |some none=>pure (.tuple #[.bool false])
   |none=>stuck "Next: no such candidate":Sem Value)).run C.P w:=by
  simp only [Instr.next,Sem.run_bind,jF hr (fun _ _ _=>by simp),Result.andThen_ok,jd hm,hq1,Bool.false_eq_true,if_false,adt]
  rfl
 refine ⟨_,rfl, ?_, ?_, ?_⟩
 ·intro h
  rw [hrun,if_pos h]
  simp only [Sem.run_bind,run_choose,Question.forced]
  rfl
 ·intro e h
  subst h
  rw [hrun,if_neg (by simp)]
  simp only [Sem.run_bind,run_choose,Question.forced]
  simp only [List.map_cons,List.map_nil,List.size_toArray,List.length_cons,List.length_nil,Nat.zero_add,Nat.le_refl,decide_true,if_true,Result.andThen_ok]
  simp only [List.getElem?_toArray,List.getElem?_cons_zero,Sem.run_bind]
  rw [oz hr (fun _ _ _=>by simp)]
  simp
 ·intro h
  have hne:L≠[]:=by intro h';rw [h'] at h;simp at h
  rw [hrun,if_neg hne]
  simp only [Sem.run_bind,run_choose,Question.forced]
  have hsz:(⟨L.map some⟩:Array (Option MapEntry)).size=L.length:=by simp
  rw [hsz]
  have hn:decide (L.length≤1)=false:=by simp;omega
  have hn':¬ (L.length≤1):=by omega
  simp only [decide_eq_true_eq,hn',if_false,Result.andThen_ok,Question.cut]
  have hlt:w.tape w.drawn (.mapNext L.length) % L.length < L.length:=Nat.mod_lt _ (by omega)
  refine ⟨w.tape w.drawn (.mapNext L.length) % L.length,L[w.tape w.drawn (.mapNext L.length) % L.length],hlt,by simp [hlt], ?_⟩
  simp only [List.getElem?_toArray,List.getElem?_map,List.getElem?_eq_getElem hlt,Option.map_some,Sem.run_bind]
  rw [oz (w:={ w with drawn:=w.drawn+1 }) hr (fun _ _ _=>by simp)]
  simp
theorem a8D (hR:Rel C base γ s w) (ht:bn γ nt t a.tmps) (x:Operand) (isStr:Bool) (rt:TypeId):
  (Pn x isStr rt C t s).path (fF C base γ s w ((VS (Instr.next (a.eval x) isStr rt)).run C.P w)):=by
 refine R.bH _ (bI hR ht x) fun v hv=> ?_
 cases v with
 |ptr r off=>
  cases off with
  |succ n=>trivial
  |zero=>
   simp only [aA,Option.map_eq_some_iff] at hv
   obtain ⟨lc,hl,hv⟩:=hv
   show (a02 s r isStr).path _
   unfold a02
   cases hb:s.h.get r with
   |none=>trivial
   |some b=>
    obtain ⟨l',o,h1,h2,h3⟩:=hR.blk r b hb
    rw [hl] at h1;obtain rfl:=Option.some.inj h1
    cases b with
    |KJ l pos=>
     obtain ⟨h0,rfl⟩:lc.dl=0∧o=.stringIter ⟨⟨l⟩⟩ pos:=h3
     cases isStr with
     |false=>trivial
     |true=>
      show (match Nat.blt pos l.length with|true=>a2c s r l pos (Utf8.decode ⟨⟨l⟩⟩ pos)|false=>R.ok (Nx.val (.ou [.bool false]) s)).path _
      rw [←hv]
      cases hq:Nat.blt pos l.length with
      |true=>
       have hlt:pos < l.length:=Nat.le_of_ble_eq_true hq
       have hlt':pos < (ByteArray.mk ⟨l⟩).size:=hlt
       refine ⟨γ,.tuple #[.bool true,goInt pos,.int .i32 (Utf8.decode ⟨⟨l⟩⟩ pos).1],_, ?_, ?_,Step.setOther hR hb hl h2 rfl rfl (b':=.KJ l (pos+(Utf8.decode ⟨⟨l⟩⟩ pos).2)) (o':=.stringIter ⟨⟨l⟩⟩ (pos+(Utf8.decode ⟨⟨l⟩⟩ pos).2)) ⟨h0,rfl⟩ (w':={ w with heap:=w.heap.setIfInBounds lc.blk (.stringIter ⟨⟨l⟩⟩ (pos+(Utf8.decode ⟨⟨l⟩⟩ pos).2)) }) rfl rfl rfl rfl⟩
       ·simp only [VS,Instr.next,Sem.run_bind,Nat.add_zero,h0,jF h2 (fun _ _ _=>by simp),Result.andThen_ok,hlt',if_true,oz h2 (fun _ _ _=>by simp),Sem.run_pure]
       ·simp [aA,aG,goInt]
      |false=>
       have hlt:¬ pos < l.length:=fun h=>by
        have:Nat.blt pos l.length=true:=Nat.ble_eq_true_of_le h
        rw [this] at hq;cases hq
       have hlt':¬ pos < (ByteArray.mk ⟨l⟩).size:=hlt
       refine dR hR (c:=.tuple #[.bool false]) ?_ (by simp [aA,aG])
       simp only [Instr.next,Sem.run_bind,Nat.add_zero,h0,jF h2 (fun _ _ _=>by simp),Result.andThen_ok,hlt',if_false,Sem.run_pure]
    |vY m since seen last=>
     cases isStr with
     |true=>cases m<;>trivial
     |false=>
      rw [←hv]
      cases m with
      |none=>
       obtain ⟨h0,rfl⟩:lc.dl=0∧o=.mapIter none 0 #[] 0:=h3
       refine dR hR (c:=.tuple #[.bool false]) ?_ (by simp [aA,aG])
       simp only [Instr.next,Sem.run_bind,Nat.add_zero,h0,jF h2 (fun _ _ _=>by simp),Result.andThen_ok,Sem.run_pure]
      |some m=>
       obtain ⟨h0,lm,hlm,rfl⟩:=h3
       refine R.bH _ (iI hR (.iY m) (.map (some lm.blk)) (by simp [aA,hlm])) fun mm hm=> ?_
       refine R.bH _ (R.aU _ _) fun _ hg=> ?_
       simp only [Bool.and_eq_true] at hg
       rcases hm with ⟨h,_⟩| ⟨r',P5,ents,g0,gl,gc,g1,g2,g3,g4⟩
       ·cases h
       cases g0
       rw [hlm] at gl;obtain rfl:=Option.some.inj gl
       obtain ⟨left,hleft,k0,k1,k2⟩:=Yw (C:=C) h2 g2 (Bj last g3 hg.1) (Bj since g3 hg.2) rt
       have hrel:=PZ seen g3
       rw [←hleft] at hrel
       have hz:lc.dl+0=0:=by omega
       rw [hz]
       unfold a2o
       have step:∀(e:ME) (x:MapEntry) (d:Nat),vH γ e x→(Instr.next (.pointer (some ⟨lc.blk,0,none⟩)) false rt).run C.P w=.ok (.tuple #[.bool true,x.key,x.val]) { w with drawn:=d,heap:=w.heap.setIfInBounds lc.blk (.mapIter (some lm.blk) since ⟨(x.born::seen).reverse⟩ mm.2) }→
         (BM s r m since seen mm.2 e).path (fF C base γ s w ((VS (Instr.next (.pointer (some ⟨lc.blk,0,none⟩)) false rt)).run C.P w)):=by
        intro e x d he hx
        refine ⟨γ,.tuple #[.bool true,x.key,x.val],_, ?_, ?_,Step.setOther hR hb hl h2 rfl rfl (b':=.vY (some m) since (e.born::seen) mm.2) (o':=.mapIter (some lm.blk) since ⟨(x.born::seen).reverse⟩ mm.2) ⟨h0,lm,hlm,by rw [he.2.2]⟩
         (w':={ w with drawn:=d,heap:=w.heap.setIfInBounds lc.blk (.mapIter (some lm.blk) since ⟨(x.born::seen).reverse⟩ mm.2) }) rfl rfl rfl rfl⟩
        ·simp only [VS,Sem.run_bind,hx,Result.andThen_ok,Sem.run_pure]
        ·simp [aA,aG,he.1,he.2.1]
       cases hle:leftOf seen mm.1 with
       |nil=>
        rw [hle] at hrel
        have hl0:left=[]:=by cases left with|nil=>rfl|cons _ _=>exact hrel.elim
        exact dR hR (c:=.tuple #[.bool false]) (k0 hl0) (by simp [aA,aG])
       |cons e es=>
        rw [hle] at hrel
        cases es with
        |nil=>
         cases left with
         |nil=>exact hrel.elim
         |cons x left=>
          cases left with
          |nil=>exact step e x w.drawn hrel.1 (k1 x rfl)
          |cons _ _=>exact hrel.2.elim
        |cons e2 es=>
         have hlen:=hrel.len
         obtain ⟨i,x,q1,q2,q3⟩:=k2 (by rw [←hlen];simp)
         show (R.ask (e::e2::es).length (fun i=>match nth (e::e2::es) i with|some x=>BM s r m since seen mm.2 x|none=>R.bad _)).path _
         refine ⟨i,by rw [hlen];exact q1, ?_⟩
         have hi:i < (e::e2::es).length:=by rw [hlen];exact q1
         obtain ⟨x',p1,p2⟩:=dZ.get i _ hrel (List.getElem?_eq_getElem hi)
         rw [q2] at p1;obtain rfl:=Option.some.inj p1
         show (match nth (e::e2::es) i with|some x=>BM s r m since seen mm.2 x|none=>R.bad _).path _
         rw [pY,List.getElem?_eq_getElem hi]
         exact step _ x (w.drawn+1) p2 q3
    |_=>trivial
 |_=>trivial
theorem UJ (b:Nat):∀{es:List ME} {l:List MapEntry},dZ γ es l→EJ b es=none∨∃e m,EJ b es=some e∧l.find? (·.born==b)=some m∧vH γ e m
 | [],[],_=>.inl rfl
 |e::es,m::l,⟨h1,h2⟩=>by
  unfold EJ
  cases hq:Nat.beq e.born b with
  |true=>
   right
   have:e.born=b:=Nat.eq_of_beq_eq_true hq
   exact ⟨e,m,rfl,by rw [List.find?_cons];simp [h1.2.2,this],h1⟩
  |false=>
   have:e.born≠b:=by intro h;rw [h] at hq;simp at hq
   rcases UJ b h2 with h| ⟨e',m',a1,a2,a3⟩
   ·exact .inl h
   ·right
    refine ⟨e',m',a1, ?_,a3⟩
    rw [List.find?_cons]
    have hf:(m.born==b)=false:=by rw [h1.2.2];exact beq_eq_false_iff_ne.2 this
    rw [hf];exact a2
 | [],_::_,h=>h.elim
 |_::_,[],h=>h.elim
theorem a5z (hR:Rel C base γ s w) (ht:bn γ nt t a.tmps) (x:Operand) (rt:TypeId):
  (D9 x rt C t s).path (fF C base γ s w ((VS (Instr.entry (a.eval x))).run C.P w)):=by
 refine R.bH _ (bI hR ht x) fun v hv=> ?_
 cases v with
 |ptr r off=>
  cases off with
  |succ n=>trivial
  |zero=>
   simp only [aA,Option.map_eq_some_iff] at hv
   obtain ⟨lc,hl,hv⟩:=hv
   rw [←hv]
   refine R.bH (fun x=>∃c,aA γ x=some c∧(Instr.entry (.pointer (some ⟨lc.blk,lc.dl+0,none⟩))).run C.P w=.ok c w) ?_ (fun x hx=> ?_)
   ·unfold entryOf
    cases hb:s.h.get r with
    |none=>trivial
    |some b=>
     obtain ⟨l',o,h1,h2,h3⟩:=hR.blk r b hb
     rw [hl] at h1;obtain rfl:=Option.some.inj h1
     cases b with
     |vY m since seen last=>
      cases m with
      |none=>trivial
      |some m=>
       cases seen with
       |nil=>trivial
       |cons k seen=>
        obtain ⟨h0,lm,hlm,rfl⟩:=h3
        refine R.bH _ (iI hR (.iY m) (.map (some lm.blk)) (by simp [aA,hlm])) fun mm hm=> ?_
        refine R.bH _ (R.aU _ _) fun _ hg=> ?_
        have hg':mm.2=last:=Nat.eq_of_beq_eq_true hg
        rcases hm with ⟨h,_⟩| ⟨r',P5,ents,g0,gl,gc,g1,g2,g3,g4⟩
        ·cases h
        cases g0
        rw [hlm] at gl;obtain rfl:=Option.some.inj gl
        rcases UJ k g3 with h| ⟨e,x,a1,a2,a3⟩
        ·rw [h];trivial
        ·rw [a1]
         refine ⟨.tuple #[x.key,x.val],by simp [aA,aG,a3.1,a3.2.1], ?_⟩
         have hback:(⟨(k::seen).reverse⟩:Array Nat).back?=some k:=by simp
         have hfind:ents.find? (·.born==k)=some x:=by rw [←a2];cases ents;simp
         simp only [Instr.entry,Sem.run_bind,Nat.add_zero,h0,jF h2 (fun _ _ _=>by simp),Result.andThen_ok,hback,jd g2,hg',bne_self_eq_false,Bool.false_eq_true,if_false,hfind,Sem.run_pure]
     |_=>trivial
   ·obtain ⟨c,q1,q2⟩:=hx
    exact dR hR q2 q1
 |_=>trivial
end
end Go.Proofs.YtjioppomopfifaaGreatDoor.Abs
