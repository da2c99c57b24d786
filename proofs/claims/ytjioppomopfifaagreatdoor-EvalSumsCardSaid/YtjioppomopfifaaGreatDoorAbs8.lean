/- From a checked run to the model's call, at arguments and variables that are read as data. Conditions: those of each theorem. -/
import Derived.Test.YtjioppomopfifaaGreatDoorAbs7
import Derived.ProofKit
import Derived.HandedShaped
import Derived.Lay
import Derived.LaidMore
import Derived.Stop.Joined
import Derived.ChangeArms
import Derived.DataReads
import Derived.ChangeBook
import Derived.ChangeStays
import Derived.ChangeShapes
import Derived.WideShapes
import Derived.SevenTiedAt
import Derived.FnData
import Derived.LaidSub
namespace Go.Proofs.YtjioppomopfifaaGreatDoor.Abs
open Go
structure ae7 (γ:G) (s:S) (w w':World):Prop where
 size:w.heap.size≤w'.heap.size
 tape:w'.tape=w.tape
 os:w'.os=w.os
 output:w'.output=w.output
 stays:∀(k:Nat) (o:Obj),w.heap[k]? =some o→¬ Live γ s k→w'.heap[k]? =some o
end Go.Proofs.YtjioppomopfifaaGreatDoor.Abs
namespace Go.Proofs.YtjioppomopfifaaGreatDoor.Abs
open Go
theorem aeK {s:S} (hs:∀g b,s.h.get g=some b→eF b=true) {γ:G} {w w':World} (h:ae7 γ s w w'):w.keptBut w' (fun _=>False):=by
 refine ⟨h.os,h.output,fun i hi=> ?_⟩
 have hg:w.heap[i]? =some w.heap[i]:=Array.getElem?_eq_getElem hi
 have hg':=h.stays i _ hg (fun ⟨id,b,l,h1,h2,_⟩=>by rw [hs id b h1] at h2;cases h2)
 rw [hg,hg']
 cases w.heap[i] with
 |cells c t fr=>exact ⟨rfl,rfl,rfl,fun _ _=>rfl⟩
 |map es clock=>exact .inr ⟨rfl,rfl⟩
 |_=>rfl
end Go.Proofs.YtjioppomopfifaaGreatDoor.Abs
namespace Go.Proofs.YtjioppomopfifaaGreatDoor.Abs
open Go
def aeD (C:Ctx) (w:World) (F:Nat→Prop):List Kd→List Dt→Prop
 | [],[]=>True
 |k::ks,d::ds=>k.fits d∧d.good C w F∧aeD C w F ks ds
 |_,_=>False
section
variable {C:Ctx} {w:World} {F:Nat→Prop}
theorem aeC:∀{ks:List Kd} {ds:List Dt},aeD C w F ks ds→ds.length=ks.length
 | [],[],_=>rfl
 |_::_,_::_,h=>by simp [aeC h.2.2]
 | [],_::_,h=>h.elim
 |_::_,[],h=>h.elim
theorem aeE:∀{ks:List Kd} {ds:List Dt} {i:Nat} {d:Dt},aeD C w F ks ds→ds[i]? =some d→∃k,ks[i]? =some k∧k.fits d∧d.good C w F
 | [],[],i,d,_,h=>by simp at h
 |k::ks,d::ds,0,d',h,e=>by
  simp only [List.getElem?_cons_zero,Option.some.injEq] at e
  subst e
  exact ⟨k,rfl,h.1,h.2.1⟩
 |k::ks,d::ds,i+1,d',h,e=>by simpa using aeE (i:=i) h.2.2 (by simpa using e)
 | [],_::_,_,_,h,_=>h.elim
 |_::_,[],_,_,h,_=>h.elim
theorem aeG:∀{ks ks':List Kd} {ds ds':List Dt},aeD C w F ks ds→aeD C w F ks' ds'→aeD C w F (ks++ks') (ds++ds')
 | [],_,[],_,_,h=>h
 |_::_,_,_::_,_,h,h'=>⟨h.1,h.2.1,aeG h.2.2 h'⟩
 | [],_,_::_,_,h,_=>h.elim
 |_::_,_,[],_,h,_=>h.elim
theorem Dt.dV.mk {ks:List Kd}:∀{l:List Dt} {j:Nat},(∀(i:Nat) d,l[i]? =some d→(∃k,ks[(j+i) % ks.length]? =some k∧k.fits d)∧d.good C w F)→Dt.dV C w F ks j l
 | [],_,_=>trivial
 |d::l,j,h=>⟨(h 0 d rfl).1,(h 0 d rfl).2,Dt.dV.mk fun i d' hi=>by
   have:=h (i+1) d' (by simpa using hi)
   rwa [show j+(i+1)=j+1+i by omega] at this⟩
theorem aeI {ks:List Kd}:∀{dss:List (List Dt)} {q:Nat},(∀x∈dss,aeD C w F ks x)→Dt.dV C w F ks (q * ks.length) dss.flatten
 | [],_,_=>trivial
 |x::dss,q,h=>.mk fun i d hi=>by
  have hx:=h x List.mem_cons_self
  have hr:=aeI (dss:=dss) (q:=q+1) fun y hy=>h y (List.mem_cons_of_mem _ hy)
  rw [List.flatten_cons,List.getElem?_append] at hi
  split at hi
  ·next hlt=>
   obtain ⟨k,h1,h2,h3⟩:=aeE hx hi
   refine ⟨⟨k, ?_,h2⟩,h3⟩
   have hl:i < ks.length:=by rw [←aeC hx];exact hlt
   rw [Nat.mul_comm,Nat.mul_add_mod,Nat.mod_eq_of_lt hl]
   exact h1
  ·next hge=>
   have:=hr.get hi
   rw [show (q+1) * ks.length+(i - x.length)=q * ks.length+i by rw [aeC hx,Nat.add_mul,Nat.one_mul];rw [aeC hx] at hge;omega] at this
   exact this
end
noncomputable def aeF (C:Ctx) (L:List TypeId):List Field→Nat→List Kd→Bool
 | []=>fun _ ks=>match ks with| []=>true|_::_=>false
 |f::fs=>fun off ks=>Nat.beq f.offset off && (Ah f.type L && (Nat.beq (C.P.cellsOf f.type) (aJ C f.type).length && (EF (ks.take (aJ C f.type).length) (aJ C f.type) && aeF C L fs (Nat.add off (aJ C f.type).length) (ks.drop (aJ C f.type).length))))
noncomputable def aeV (C:Ctx) (L:List TypeId) (t:TypeId):Bool:=
 match C.P.underlying t with
 |some d=>match d with
  | .int k=>EF (aJ C t) [.int k]
  | .bool=>EF (aJ C t) [.bool]
  | .string=>EF (aJ C t) [.str]
  | .slice e=>EF (aJ C t) [.sl e] && (Ah e L && (!Nat.beq (C.P.cellsOf e) 0 && Nat.beq (C.P.cellsOf e) (aJ C e).length))
  | .struct fs=>aeF C L fs.toList 0 (aJ C t) && Nat.beq (C.P.cellsOf t) (aJ C t).length
  |_=>false
 |none=>false
noncomputable def aeY (C:Ctx) (L:List TypeId):List TypeId→Bool
 | []=>true
 |t::l=>aeV C L t && aeY C L l
theorem aeQ {k:Nat}:∀{l:List Nat},Ah k l=true→k∈l
 | [],h=>by cases h
 |e::es,h=>by
  unfold Ah at h
  cases hb:Nat.beq k e with
  |true=>rw [Nat.eq_of_beq_eq_true hb];exact List.mem_cons_self
  |false=>rw [hb] at h;exact List.mem_cons_of_mem _ (aeQ h)
theorem aeL {C:Ctx} {L:List TypeId}:∀{l:List TypeId},aeY C L l=true→∀t∈l,aeV C L t=true
 | [],_,t,ht=>by cases ht
 |x::l,h,t,ht=>by
  simp only [aeY,Bool.and_eq_true] at h
  cases ht with
  |head=>exact h.1
  |tail _ ht=>exact aeL h.2 t ht
section
variable {H:Type} {enc:TypeId×Value→H} {C:Ctx} {w:World} {spare:Nat→Bool} {held:Bool} {L:List TypeId}
theorem ae0 {α:Type} {F:Nat→Prop} {ks:List Kd} {g:α→DataW H}:∀(n:Nat) (xs:List α) (rd:Nat→List Value),xs.length=n→
  (∀(i:Nat) x,xs[i]? =some x→∃ds:List Dt,ds.map Dt.v=rd i∧aeD C w F ks ds∧eP ds≤bulk (g x))→
  ∃dss:List (List Dt),dss.length=n∧(∀(i:Nat) ds,dss[i]? =some ds→ds.map Dt.v=rd i)∧(∀x∈dss,aeD C w F ks x)∧eP dss.flatten≤Eh (xs.map g)
 | 0,[],rd,_,_=>⟨[],rfl,(fun i ds h=>by simp at h),(fun x hx=>by cases hx),by simp [eP,Eh]⟩
 |n+1,x::xs,rd,hn,h=>by
  obtain ⟨ds,h1,h2,h3⟩:=h 0 x rfl
  obtain ⟨dss,g1,g2,g3,g4⟩:=ae0 n xs (fun i=>rd (i+1)) (by simpa using hn) fun i y hy=>h (i+1) y (by simpa using hy)
  refine ⟨ds::dss,by simp [g1],fun i e he=> ?_,fun y hy=> ?_, ?_⟩
  ·cases i with
   |zero=>simp only [List.getElem?_cons_zero,Option.some.injEq] at he;subst he;exact h1
   |succ i=>exact g2 i e (by simpa using he)
  ·cases hy with
   |head=>exact h2
   |tail _ hy=>exact g3 y hy
  ·rw [List.flatten_cons,iJ,List.map_cons]
   simp only [Eh];omega
theorem aeN {F:Nat→Prop} {m:Nat} {cs:List Value} (ih:∀(t:TypeId) (cs:List Value) (x:DataW H×List MemPlace),t∈L→DataW.trod enc C.P w 0 spare held m t cs=some x→∃ds:List Dt,ds.map Dt.v=cs∧aeD C w F (aJ C t) ds∧eP ds≤bulk x.1):
  ∀(fs:List Field) (xs:List (DataW H×List MemPlace)) (off:Nat) (ks:List Kd),aeF C L fs off ks=true→off+ks.length=cs.length→xs.length=fs.length→
   (∀(i:Nat) f,fs[i]? =some f→DataW.trod enc C.P w 0 spare held m f.type ((cs.drop f.offset).take (C.P.cellsOf f.type))=xs[i]?)→
   ∃ds:List Dt,ds.map Dt.v=cs.drop off∧aeD C w F ks ds∧eP ds≤Eh (xs.map (·.1))
 | [],[],off,ks,h,hl,_,_=>by
   cases ks with
   |cons _ _=>cases h
   |nil=>
    simp only [List.length_nil,Nat.add_zero] at hl
    exact ⟨[],by rw [List.drop_eq_nil_of_le (by omega)];rfl,trivial,by simp [eP,Eh]⟩
 |f::fs,x::xs,off,ks,h,hl,hn,hx=>by
  simp only [aeF,Bool.and_eq_true] at h
  obtain ⟨h1,h2,h3,h4,h5⟩:=h
  have h1:=Nat.eq_of_beq_eq_true h1
  have h3:=Nat.eq_of_beq_eq_true h3
  have h4:=nV h4
  have h0:=hx 0 f rfl
  simp only [List.getElem?_cons_zero] at h0
  obtain ⟨ds,d1,d2,d3⟩:=ih f.type _ x (aeQ h2) h0
  have hle:(aJ C f.type).length≤ks.length:=by
   have:=congrArg List.length h4
   rw [List.length_take] at this
   omega
  obtain ⟨es,e1,e2,e3⟩:=aeN (F:=F) (cs:=cs) ih fs xs (off+(aJ C f.type).length) (ks.drop (aJ C f.type).length) h5 (by rw [List.length_drop];omega) (by simpa using hn) fun i g hg=>by
   have:=hx (i+1) g (by simpa using hg)
   simpa using this
  refine ⟨ds++es, ?_, ?_, ?_⟩
  ·rw [List.map_append,d1,e1,h1,h3,←List.drop_drop,List.take_append_drop]
  ·have:=aeG d2 e2
   rwa [←h4,List.length_take,Nat.min_eq_left hle,List.take_append_drop] at this
  ·rw [iJ,List.map_cons]
   simp only [Eh];omega
 | [],_::_,_,_,_,_,h,_=>by simp at h
 |_::_,[],_,_,_,_,h,_=>by simp at h
theorem aeR (hL:∀t∈L,aeV C L t=true):∀(fuel:Nat) (t:TypeId) (cs:List Value) (x:DataW H×List MemPlace),t∈L→DataW.trod enc C.P w 0 spare held fuel t cs=some x→
  ∃ds:List Dt,ds.map Dt.v=cs∧aeD C w (fun k=>k < w.heap.size) (aJ C t) ds∧eP ds≤bulk x.1
 | 0,_,_,_,_,h=>by simp [DataW.trod] at h
 |fuel+1,t,cs,x,ht,h=>by
  have hok:=hL t ht
  unfold aeV at hok
  cases hu:C.P.underlying t with
  |none=>rw [hu] at hok;cases hok
  |some d=>
   rw [hu] at hok
   cases d<;>first| (cases hok;done)|skip
   case bool=>
    obtain ⟨b,rfl,rfl⟩:=DataW.trod_bool hu h
    rw [nV hok]
    exact ⟨[.val (.bool b)],rfl,⟨⟨b,rfl⟩,rfl,trivial⟩,by simp [eP,PV,bulk]⟩
   case int k=>
    obtain ⟨n,rfl,rfl, -⟩:=DataW.trod_int hu h
    rw [nV hok]
    exact ⟨[.val (.int k n)],rfl,⟨⟨n,rfl⟩,rfl,trivial⟩,by simp [eP,PV,bulk]⟩
   case string=>
    obtain ⟨s,rfl,rfl, -⟩:=DataW.trod_string hu h
    rw [nV hok]
    exact ⟨[.val (.string s)],rfl,⟨⟨s,rfl⟩,rfl,trivial⟩,by simp [eP,PV,bulk]⟩
   case slice e=>
    simp only [Bool.and_eq_true,Bool.not_eq_true'] at hok
    obtain ⟨h1,h2,h3,h4⟩:=hok
    have h4:=Nat.eq_of_beq_eq_true h4
    have h0:C.P.cellsOf e≠0:=by intro q;rw [q] at h3;cases h3
    rw [nV h1]
    rcases DataW.trod_slice hu h with ⟨rfl,rfl⟩| ⟨a,len,cap,elems,rest,n,hf,rfl,rfl,hb,hl,hm,hlen,hel,hsp,hns⟩
    ·exact ⟨[.sl (.slice none 0 0) e 0 []],rfl,⟨⟨_,_,_,_,_,rfl⟩,.inl ⟨rfl,rfl⟩,trivial⟩,by simp [eP,PV,bulk]⟩
    ·obtain rfl:fuel=n:=by omega
     have each:∀(i:Nat) y,elems[i]? =some y→∃cs',w.cells? 0 (a.add (i * C.P.cellsOf e)) (C.P.cellsOf e)=some cs'∧DataW.trod enc C.P w 0 spare held fuel e cs'=some y:=by
      intro i y hy
      have hlt:i < len:=by rw [←hlen];exact (List.getElem?_eq_some_iff.1 hy).1
      have:=hel i hlt
      rw [hy] at this
      exact Option.bind_eq_some_iff.1 this
     obtain ⟨dss,d1,d2,d3,d4⟩:=ae0 (C:=C) (w:=w) (F:=fun k=>k < w.heap.size) (ks:=aJ C e) (g:=fun y:DataW H×List MemPlace=>y.1) len elems
      (fun i=>(w.cells? 0 (a.add (i * C.P.cellsOf e)) (C.P.cellsOf e)).getD []) hlen fun i y hy=>by
        obtain ⟨cs',q1,q2⟩:=each i y hy
        rw [q1]
        exact aeR hL fuel e cs' y (aeQ h2) q2
     have dl:∀x∈dss,x.length=C.P.cellsOf e:=fun x hx=>by rw [aeC (d3 x hx),h4]
     have afb:∀(l:List (List Dt)),(∀x∈l,x.length=C.P.cellsOf e)→l.flatten.length=l.length * C.P.cellsOf e:=by
      intro l
      induction l with
      |nil=>intro _;simp
      |cons x l ih=>
       intro hx
       rw [List.flatten_cons,List.length_append,hx x List.mem_cons_self,ih fun y hy=>hx y (List.mem_cons_of_mem _ hy),List.length_cons,Nat.add_mul]
       omega
     have afc:∀(l:List (List Dt)) (j:Nat) (d:Dt),(∀x∈l,x.length=C.P.cellsOf e)→l.flatten[j]? =some d→∃i q x,q < C.P.cellsOf e∧j=i * C.P.cellsOf e+q∧l[i]? =some x∧x[q]? =some d:=by
      intro l
      induction l with
      |nil=>intro j d _ h;simp at h
      |cons x l ih=>
       intro j d hx hj
       have hxl:=hx x List.mem_cons_self
       rw [List.flatten_cons,List.getElem?_append] at hj
       split at hj
       ·next hlt=>exact ⟨0,j,x,by omega,by omega,rfl,hj⟩
       ·next hge=>
        obtain ⟨i,q,y,g1,g2,g3,g4⟩:=ih (j - x.length) d (fun y hy=>hx y (List.mem_cons_of_mem _ hy)) hj
        exact ⟨i+1,q,y,g1,by rw [Nat.add_mul];omega,by simpa using g3,g4⟩
     refine ⟨[.sl (.slice (some a) len cap) e (C.P.cellsOf e) dss.flatten],rfl,⟨⟨_,_,_,_,_,rfl⟩,.inr ⟨h4,⟨a,len,cap,rfl,by rw [afb dss dl,d1],fun hne=> ?_⟩, ?_⟩,trivial⟩, ?_⟩
     ·
      have cellAt:∀(i q:Nat) x d,dss[i]? =some x→x[q]? =some d→q < C.P.cellsOf e→w.cell? ((a.add (i * C.P.cellsOf e)).add q)=some d.v:=by
       intro i q x d hx hd hq
       have hlt:i < len:=by rw [←d1];exact (List.getElem?_eq_some_iff.1 hx).1
       have hlt2:i < elems.length:=by rw [hlen];exact hlt
       obtain ⟨cs',q1, -⟩:=each i _ (List.getElem?_eq_getElem hlt2)
       have hv:=d2 i x hx
       simp only [q1,Option.getD_some] at hv
       have:=(World.cells?_some q1).2.2 q hq
       rw [this,←hv,List.getElem?_map,hd]
       rfl
      have hlt0:0 < dss.length:=by omega
      have hx0:=List.getElem?_eq_getElem hlt0
      have hl0:=dl _ (List.getElem_mem hlt0)
      have hlt1:0 < (dss[0]).length:=by omega
      have c0:=cellAt 0 0 _ _ hx0 (List.getElem?_eq_getElem hlt1) (by omega)
      simp only [Nat.zero_mul,Addr.add,if_true] at c0
      have hblk:∃(vs:Array Value) (t':TypeId) (lo hi:Nat),w.heap[a.block]? =some (.cells vs t' (lo,hi))∧a.spot=none:=by
       unfold World.cell? at c0
       cases hh:w.heap[a.block]? with
       |none=>rw [hh] at c0;cases c0
       |some o=>
        rw [hh] at c0
        cases o<;>first| (cases c0;done)|skip
        rename_i vs t' fr
        obtain ⟨lo,hi⟩:=fr
        cases hs:a.spot with
        |none=>exact ⟨vs,t',lo,hi,rfl,rfl⟩
        |some p=>rw [hs] at c0;cases c0
      obtain ⟨vs,t',lo,hi,hh,hsn⟩:=hblk
      refine ⟨hsn, ?_,vs,t',lo,hi,hh,fun j d hj=> ?_⟩
      ·rcases Nat.lt_or_ge a.block w.heap.size with h'|h'
       ·exact h'
       ·rw [Array.getElem?_eq_none h'] at hh;cases hh
      ·obtain ⟨i,q,x,g1,g2,g3,g4⟩:=afc dss j d dl hj
       have c:=cellAt i q x d g3 g4 g1
       obtain ⟨ab,ao,asp⟩:=a
       simp only at hsn hh
       subst hsn
       rw [addr_add,addr_add] at c
       unfold World.cell? at c
       rw [hh] at c
       rw [g2,←Nat.add_assoc]
       exact c
     ·have:=aeI (C:=C) (w:=w) (F:=fun k=>k < w.heap.size) (ks:=aJ C e) (dss:=dss) (q:=0) d3
      rwa [Nat.zero_mul] at this
     ·simp only [eP,PV,bulk]
      omega
   case struct fs=>
    simp only [Bool.and_eq_true] at hok
    obtain ⟨h1,h2⟩:=hok
    have h2:=Nat.eq_of_beq_eq_true h2
    obtain ⟨xs,n,hf,rfl,hl,hlen,hx⟩:=DataW.trod_struct hu h
    obtain rfl:fuel=n:=by omega
    obtain ⟨ds,d1,d2,d3⟩:=aeN (F:=fun k=>k < w.heap.size) (cs:=cs) (fun t cs x h1 h2=>aeR hL fuel t cs x h1 h2) fs.toList xs 0 (aJ C t) h1 (by rw [Nat.zero_add,←h2,hl]) (by simpa using hlen)
     (fun i f hi=>by rw [Array.getElem?_toList] at hi;exact hx i f hi)
    exact ⟨ds,by simpa using d1,d2,by simp only [bulk];omega⟩
end
end Go.Proofs.YtjioppomopfifaaGreatDoor.Abs
namespace Go.Proofs.YtjioppomopfifaaGreatDoor.Abs
open Go
mutual
theorem Dt.good.wf {C:Ctx} {w:World} {F:Nat→Prop}:∀(d:Dt),d.good C w F→d.wf (aJ C)
 | .val _,h=>h
 | .sl v t sz es,h=>by
   rcases h with h| ⟨h0,⟨a,n,c,e1,e3, -⟩,h2⟩
   ·exact .inl h
   ·exact .inr ⟨h0,⟨a,n,c,e1,e3⟩,Dt.dV.wf _ 0 es h2⟩
 | .pt _ _ _ _ _ _,_=>trivial
 | .ls ks es,h=>Dt.dV.wf ks 0 es h
theorem Dt.dV.wf {C:Ctx} {w:World} {F:Nat→Prop} (ks:List Kd):∀(j:Nat) (l:List Dt),Dt.dV C w F ks j l→Dt.Em (aJ C) ks j l
 |_,[],_=>trivial
 |j,d::l,⟨h1,h2,h3⟩=>⟨h1,Dt.good.wf d h2,Dt.dV.wf ks (j+1) l h3⟩
end
theorem ae8 {C:Ctx} {w:World} {F:Nat→Prop} {ks:List Kd} {ds:List Dt} (h:aeD C w F ks ds):Dt.Em (aJ C) ks 0 ds:=.mk fun i d hi=>by
 obtain ⟨k,h1,h2,h3⟩:=aeE h hi
 have hlt:i < ks.length:=(List.getElem?_eq_some_iff.1 h1).1
 rw [Nat.zero_add,Nat.mod_eq_of_lt hlt]
 exact ⟨⟨k,h1,h2⟩,Dt.good.wf d h3⟩
end Go.Proofs.YtjioppomopfifaaGreatDoor.Abs
namespace Go.Proofs.YtjioppomopfifaaGreatDoor.Abs
open Go Go.ChangeShapes
noncomputable def argN (C:Ctx):List TypeId→Nat
 | []=>0
 |t::ts=>Nat.add (aJ C t).length (argN C ts)
section
variable {H:Type} {enc:TypeId×Value→H} {C:Ctx} {w:World} {spare:Nat→Bool} {held:Bool} {L:List TypeId}
theorem aeJ {γ:G} {F:Nat→Prop}:∀{ks:List Kd} {ds:List Dt} {i:Nat},aeD C w F ks ds→(∀(j:Nat) x,ds[j]? =some x→aO γ (.var (i+j))=some x)→aG γ (a5p ks i)=some (ds.map Dt.v)
 | [],[],_,_,_=>rfl
 |k::ks,d::ds,i,h,hg=>by
  refine aP.2 ⟨d.v,ds.map Dt.v,gG (hg 0 d rfl) h.1 rfl,aeJ (i:=i+1) h.2.2 fun j x hx=> ?_,rfl⟩
  have:=hg (j+1) x (by simpa using hx)
  rwa [show i+(j+1)=i+1+j by omega] at this
 | [],_::_,_,h,_=>h.elim
 |_::_,[],_,h,_=>h.elim
theorem aeT {P:Program} {w:World} {r:Reach} {base:Nat} {u:TypeId} {v:Value} (h:Cell.okWide P w r base u v):a0P v=true:=by
 unfold Cell.okWide at h
 split at h<;>first|rfl|skip
 unfold Cell.ok at h
 split at h<;>first|rfl|exact h.elim
theorem cells_one {v:Value} (h:a0P v=true):v.cells.toList=[v]:=by
 cases v<;>first|rfl|cases h
theorem ae6 (hL:∀t∈L,aeV C L t=true) {t:TypeId} (ht:t∈L) {v:Value} {d:DataW H} {p:List MemPlace} (h:DataW.Trod enc C.P w 0 spare held t v d p) {r:Reach} {base:Nat} (hok:Value.okWide C.P w r base t v):
  ∃ds:List Dt,aeD C w (fun k=>k < w.heap.size) (aJ C t) ds∧eP ds≤bulk d∧∀(γ:G) i,(∀(j:Nat) x,ds[j]? =some x→aO γ (.var (i+j))=some x)→aA γ (adN C t i)=some v:=by
 obtain ⟨fuel,hf⟩:=h
 obtain ⟨ds,h1,h2,h3⟩:=aeR hL fuel t _ _ ht hf
 refine ⟨ds,h2,h3,fun γ i hg=> ?_⟩
 have hc:=aeJ h2 hg
 have hty:=hL t ht
 unfold aeV at hty
 unfold adN
 cases hu:C.P.underlying t with
 |none=>rw [hu] at hty;cases hty
 |some dd=>
  rw [hu] at hty
  have single:∀k,EF (aJ C t) [k]=true→Cell.okWide C.P w r base t v→aA γ (match a5p (aJ C t) i with| []=>.junk|v::l=>match l with| []=>v|_::_=>.junk)=some v:=by
   intro k hk hw
   rw [nV hk] at hc ⊢
   rw [h1,cells_one (aeT hw)] at hc
   obtain ⟨a,b,g1,g2,g3⟩:=aP.1 hc
   injection g3 with g3 g4
   rw [g3];exact g1
  have hcell:(∀fs,dd≠.struct fs)→(∀n e,dd≠.array n e)→Cell.okWide C.P w r base t v:=by
   intro n1 n2
   unfold Value.okWide at hok
   rw [hu] at hok
   cases dd<;>first|exact absurd rfl (n1 _)|exact absurd rfl (n2 _ _)|exact hok
  cases dd<;>first| (cases hty;done)|skip
  case bool=>exact single _ hty (hcell (fun _ h=>by cases h) (fun _ _ h=>by cases h))
  case int k=>exact single _ hty (hcell (fun _ h=>by cases h) (fun _ _ h=>by cases h))
  case string=>exact single _ hty (hcell (fun _ h=>by cases h) (fun _ _ h=>by cases h))
  case slice e=>
   simp only [Bool.and_eq_true] at hty
   exact single _ hty.1 (hcell (fun _ h=>by cases h) (fun _ _ h=>by cases h))
  case struct fs=>
   unfold Value.okWide at hok
   rw [hu] at hok
   obtain ⟨cs,rfl, -, -⟩:=hok
   rw [h1] at hc
   show (aG γ (a5p (aJ C t) i)).map _=_
   rw [hc]
   rfl
theorem aeO (hL:∀t∈L,aeV C L t=true) {r:Reach} {base:Nat}:∀{ts:List TypeId} {vs:List Value} {ds:List (DataW H)} {ps:List MemPlace},(∀t∈ts,t∈L)→DataW.TrodAll enc C.P w 0 spare held ts vs ds ps→
  (∀(j:Nat) t v,ts[j]? =some t→vs[j]? =some v→Value.okWide C.P w r base t v)→
  ∃Ls:List Dt,(∀d∈Ls,d.good C w fun k=>k < w.heap.size)∧Ls.length=argN C ts∧(XQ (aJ C) ts Ls∧eP Ls≤Eh ds)∧∀(γ:G) i,(∀(j:Nat) x,Ls[j]? =some x→aO γ (.var (i+j))=some x)→aG γ (a7I C ts i)=some vs
 | [],vs,ds,ps,_,h,_=>by
   obtain ⟨rfl,rfl,rfl⟩:=trodAll_nil h
   exact ⟨[],(fun d hd=>by cases hd),rfl,⟨rfl,by simp [eP,Eh]⟩,fun _ _ _=>rfl⟩
 |t::ts,vs,ds,ps,hin,h,hok=>by
  obtain ⟨v,vs',d,ds',p,q,rfl,rfl,rfl,h1,h2⟩:=trodAll_cons h
  obtain ⟨es,e1,e2,e3⟩:=ae6 hL (hin t List.mem_cons_self) h1 (hok 0 t v rfl rfl)
  obtain ⟨Ls,g1,g2,g3,g4⟩:=aeO hL (fun u hu=>hin u (List.mem_cons_of_mem _ hu)) h2 fun j u y a b=>hok (j+1) u y (by simpa using a) (by simpa using b)
  refine ⟨es++Ls,fun x hx=> ?_, ?_, ?_,fun γ i hg=> ?_⟩
  ·rcases List.mem_append.1 hx with hx|hx
   ·obtain ⟨j,hj⟩:=List.getElem?_of_mem hx
    obtain ⟨_,_,_,h⟩:=aeE e1 hj
    exact h
   ·exact g1 x hx
  ·rw [List.length_append,aeC e1,g2];rfl
  ·exact ⟨⟨es,Ls,rfl,aeC e1,ae8 e1,g3.1⟩,by rw [iJ];have:=g3.2;simp only [Eh];omega⟩
  ·refine aP.2 ⟨v,vs',e3 γ i fun j x hx=>hg j x ?_,g4 γ (i+(aJ C t).length) fun j x hx=> ?_,rfl⟩
   ·rw [List.getElem?_append_left (List.getElem?_eq_some_iff.1 hx).1];exact hx
   ·have:=hg (es.length+j) x (by rw [List.getElem?_append_right (by omega)];simpa using hx)
    rwa [aeC e1,←Nat.add_assoc] at this
end
def γD (n:Nat) (V:Nat→Option Value) (L:List Dt):G:=fun id=>if id < n then some ⟨id,0,1,(V id).map .val⟩ else if id < n+L.length then some ⟨0,0,0,L[id - n]?⟩ else none
theorem ae4 {n:Nat} {V:Nat→Option Value} {L:List Dt} {j:Nat} {x:Dt} (h:L[j]? =some x):aO (γD n V L) (.var (n+j))=some x:=by
 have hlt:j < L.length:=(List.getElem?_eq_some_iff.1 h).1
 simp only [aO,γD]
 rw [if_neg (by omega),if_pos (by omega),show n+j - n=j by omega,h]
 rfl
theorem aeW {C:Ctx} {w:World} {s:S} {V:Nat→Option Value} {L:List Dt} (hn:C.nG+L.length≤s.next) (hpc:∀f∈s.pc,f.pos=true∧f.holds (γD C.nG V L)) (hone:∀g v,V g=some v→a0P v=true)
  (hL:∀d∈L,d.good C w fun k=>k < w.heap.size)
  (h:∀g b,s.h.get g=some b→g < C.nG∧eF b=true∧∃o,w.heap[g]? =some o∧fG C (γD C.nG V L) ⟨g,0,1,(V g).map .val⟩ b o):Rel C 0 (γD C.nG V L) s w:=by
 have at':∀g,g < C.nG→γD C.nG V L g=some ⟨g,0,1,(V g).map .val⟩:=fun g hg=>by simp [γD,hg]
 have ae9:∀k,¬ Live (γD C.nG V L) s k:=by
  rintro k ⟨id,b,l,h1,h2, -, -⟩
  rw [(h id b h1).2.1] at h2;cases h2
 refine ⟨(fun id b hb=> ?_),(fun id id' b b' l l' h1 h2 h3 h4 hne he=> ?_),(fun id hid=> ?_),(fun g hg=>⟨_,at' g hg,rfl,rfl⟩),(fun id b l h1 _ _=>(h id b h1).2.1),Nat.zero_le _,hpc,fun id l d h1 h2=> ?_⟩
 ·obtain ⟨h1, -,o,h2,h3⟩:=h id b hb
  exact ⟨_,o,at' id h1,h2,h3⟩
 ·rw [at' id (h id b h1).1] at h3
  rw [at' id' (h id' b' h2).1] at h4
  obtain rfl:=Option.some.inj h3
  obtain rfl:=Option.some.inj h4
  exact absurd he hne
 ·unfold γD
  rw [if_neg (by omega),if_neg (by omega)]
 ·unfold γD at h1
  split at h1
  ·obtain rfl:=Option.some.inj h1
   obtain ⟨v,hv,rfl⟩:=Option.map_eq_some_iff.1 h2
   exact hone id v hv
  ·split at h1
   ·obtain rfl:=Option.some.inj h1
    exact Dt.good.stays (fun k hk=>⟨⟨hk,ae9 k,fun h=>h⟩,rfl⟩) d (hL d (List.mem_of_getElem? h2))
   ·cases h1
noncomputable def aeX:Nat→Nat→List SE
 | 0=>fun _=>[]
 |n+1=>fun i=>.var i::aeX n (Nat.add i 1)
theorem aeS {γ:G}:∀{L:List Dt} {i:Nat},(∀(j:Nat) x,L[j]? =some x→aO γ (.var (i+j))=some x)→pG γ (aeX L.length i)=some L
 | [],_,_=>rfl
 |d::L,i,h=>by
  have h0:=h 0 d rfl
  have hr:=aeS (L:=L) (i:=i+1) fun j x hx=>by
   have:=h (j+1) x (by simpa using hx)
   rwa [show i+(j+1)=i+1+j by omega] at this
  show ((aO γ (.var i)).bind fun d=>(pG γ (aeX L.length (i+1))).map fun r=>d::r)=_
  rw [show aO γ (.var i)=some d from h0,hr]
  rfl
noncomputable def ae1 (C:Ctx) (ts:List TypeId) (N:Nat):Fact:=.rel "args" false (aaw (aJ C) ts N) (aeX (argN C ts) C.nG)
end Go.Proofs.YtjioppomopfifaaGreatDoor.Abs
namespace Go.Proofs.YtjioppomopfifaaGreatDoor.Abs
open Go
theorem aeU {C:Ctx} (hC:Good C) (hM:C.P.follows .mixedOrders=true) {base:Nat} {γ:G} {s:S} {w:World} (hR:Rel C base γ s w) {f:FuncId} {args:List AV} {aY:List Value} (hargs:aG γ args=some aY) (n:Nat)
  {l:List (List Fact)} (h:R.res (fun _=>true) ((jv C (dS C n) f args .normal none s).bind ada)=some l) (hu:lY l):
  Calls C.P f ⟨aY⟩ w fun e w'=>e=.returned (.bool true)∧ae7 γ s w w':=by
 refine Calls.mono (XW hC hM hR hargs n h hu) ?_
 rintro e w' ⟨γ',o,x,hst,hx,hux,hres⟩
 refine ⟨?_,hst.keep.size,hst.keep.tape,hst.keep.os,hst.keep.output,hst.keep.stays⟩
 have hpc:∀f∈o.s.pc,f.holds γ':=fun f hf=>(hst.rel.pc f hf).2
 unfold aa2 at hres
 unfold ada at hx
 cases hr:o.res with
 |jB ch=>
  rw [hr] at hx
  obtain ⟨y, -,rfl⟩:=R.vM hx
  exact absurd ⟨γ',hpc⟩ (hux o.s.pc List.mem_cons_self)
 |ret v=>
  rw [hr] at hx hres
  obtain ⟨c,hc,rfl⟩:=hres
  cases v with
  |bool b=>
   cases b with
   |true=>
    simp only [aA,Option.some.injEq] at hc
    rw [←hc]
   |false=>
    obtain ⟨y, -,rfl⟩:=R.vM (show R.res (fun _=>true) (R.must o.s.pc (R.ok ()))=some x from hx)
    exact absurd ⟨γ',hpc⟩ (hux o.s.pc List.mem_cons_self)
  |opq k e=>
   cases hk:o7 k .bool with
   |false=>
    have hx:R.res (fun _=>true) (match o7 k .bool with|true=>R.must (.fl e::o.s.pc) (R.ok ())|false=>.bad "another end")=some x:=hx
    rw [hk] at hx;cases hx
   |true=>
    have hx:R.res (fun _=>true) (match o7 k .bool with|true=>R.must (.fl e::o.s.pc) (R.ok ())|false=>.bad "another end")=some x:=hx
    rw [hk] at hx
    obtain ⟨y, -,rfl⟩:=R.vM hx
    obtain rfl:=jG hk
    obtain ⟨d,g1,⟨b,rfl⟩,g3⟩:=fE hc
    cases b with
    |true=>rw [g3];rfl
    |false=>
     refine absurd ⟨γ',fun f hf=> ?_⟩ (hux (.fl e::o.s.pc) List.mem_cons_self)
     cases hf with
     |head=>exact g1
     |tail _ hf=>exact hpc f hf
  |_=>cases hx
end Go.Proofs.YtjioppomopfifaaGreatDoor.Abs
namespace Go.Proofs.YtjioppomopfifaaGreatDoor.Abs
open Go Go.ChangeShapes
structure GV where
 g:Nat
 t:Nat
 a:List AV
noncomputable def ae5:List GV→Tr jc→Tr jc
 | []=>fun h=>h
 |x::l=>fun h=>ae5 l (h.set x.g (.cells x.t (Tr.ofList x.a) x.a.length 0 [] true false))
theorem aeM {id:Nat} {b:jc}:∀{l:List GV} {h:Tr jc},(ae5 l h).get id=some b→(∃x∈l,x.g=id∧b=.cells x.t (Tr.ofList x.a) x.a.length 0 [] true false)∨h.get id=some b
 | [],_,e=>.inr e
 |x::l,h,e=>by
  rcases aeM (l:=l) (h:=h.set x.g (.cells x.t (Tr.ofList x.a) x.a.length 0 [] true false)) e with ⟨y,hy,h1,h2⟩|h1
  ·exact .inl ⟨y,List.mem_cons_of_mem _ hy,h1,h2⟩
  ·rw [Tr.dH] at h1
   split at h1
   ·next he=>exact .inl ⟨x,List.mem_cons_self,he,(Option.some.inj h1).symm⟩
   ·exact .inr h1
noncomputable def SDv (C:Ctx) (ts:List TypeId) (N:Nat) (vars:List GV):S:=⟨ae5 vars .nil,Nat.add C.nG (argN C ts),[ae1 C ts N]⟩
theorem ae2 {C:Ctx} {ts:List TypeId} {N:Nat} {vars:List GV} {id:Nat} {b:jc} (h:(SDv C ts N vars).h.get id=some b):∃x∈vars,x.g=id∧b=.cells x.t (Tr.ofList x.a) x.a.length 0 [] true false:=by
 rcases aeM h with h|h
 ·exact h
 ·rw [Tr.get_nil] at h;cases h
def afa (C:Ctx) (γ:G) (w:World) (x:GV):Prop:=
 x.g < C.nG∧(C.T.get x.t).map (·.size)=some x.a.length∧∃(vs:Array Value),w.heap[x.g]? =some (.cells vs x.t (0,0))∧x.a.length≤vs.size∧∀(i:Nat) (a:AV),x.a[i]? =some a→∃c,vs[i]? =some c∧aA γ a=some c
theorem ae3 {C:Ctx} {w:World} {N:Nat} {ts:List TypeId} {V:Nat→Option Value} {vars:List GV} (L:List Dt) (hL:∀d∈L,d.good C w fun k=>k < w.heap.size) (hlen:L.length=argN C ts) (hN:aaw (aJ C) ts N L)
  (hone:∀g v,V g=some v→a0P v=true) (hv:∀x∈vars,afa C (γD C.nG V L) w x):Rel C 0 (γD C.nG V L) (SDv C ts N vars) w:=by
 refine aeW (by rw [hlen];exact Nat.le_refl _) (fun f hf=> ?_) hone hL fun id b hb=> ?_
 ·have hf':f∈[ae1 C ts N]:=hf
  simp only [List.mem_singleton] at hf'
  subst hf'
  exact ⟨rfl,L,by rw [←hlen];exact aeS fun j x hx=>ae4 hx,hN⟩
 ·obtain ⟨x,hx,rfl,rfl⟩:=ae2 hb
  obtain ⟨hg,ht,vs,hw,hsz,hc⟩:=hv x hx
  refine ⟨hg,rfl,_,hw,vs,0,0,rfl,by show 0+x.a.length≤_;omega,fun i u hi hcu=> ?_, ?_,(fun h=>by cases h),Nat.le_refl _⟩
  ·rw [Tr.iy] at hcu
   obtain ⟨c,h1,h2⟩:=hc i u hcu
   exact ⟨c,by show vs[0+i]? =_;rw [Nat.zero_add];exact h1,.inr h2⟩
  ·obtain ⟨i,hi,hs⟩:=Option.map_eq_some_iff.1 ht
   exact ⟨i,hi,by rw [hs];show x.a.length≤1 * x.a.length;omega,by rw [hs];show 0+1 * x.a.length≤_;omega,0,by simp⟩
theorem aa6 {C:Ctx} (hC:Good C) (hM:C.P.follows .mixedOrders=true) {f:FuncId} (n:Nat) {N:Nat} {L ts:List TypeId} (hL:aeY C L L=true) (hts:∀u∈ts,u∈L) (vars:List GV) (V:Nat→Option Value)
  {l:List (List Fact)} (h:R.res (fun _=>true) ((jv C (dS C n) f (a7I C ts C.nG) .normal none (SDv C ts N vars)).bind ada)=some l) (hu:lY l)
  (w:World) {H:Type} {enc:TypeId×Value→H} {spare:Nat→Bool} {held:Bool} {r:Reach} {base:Nat} {args:Array Value} {ds:List (DataW H)} {ps:List MemPlace} (hA:DataW.TrodAll enc C.P w 0 spare held ts args.toList ds ps)
  (hok:∀(j:Nat) t v,ts[j]? =some t→args[j]? =some v→Value.okWide C.P w r base t v) (hN:Eh ds≤N)
  (hone:∀g v,V g=some v→a0P v=true) (hv:∀Ld:List Dt,∀x∈vars,afa C (γD C.nG V Ld) w x):
  Calls C.P f args w fun e w'=>e=.returned (.bool true)∧w.keptBut w' (fun _=>False):=by
 obtain ⟨Ls,h1,h2,h3,h4⟩:=aeO (aeL hL) hts hA fun j t v a b=>hok j t v a (by rw [←Array.getElem?_toList];exact b)
 have hR:=ae3 (C:=C) (w:=w) (N:=N) (ts:=ts) Ls h1 h2 ⟨h3.1,Nat.le_trans h3.2 hN⟩ hone (hv Ls)
 have hc:=h4 (γD C.nG V Ls) C.nG fun j x hx=>ae4 hx
 refine Calls.mono (aeU hC hM hR hc n h hu) fun _ _ ⟨h1,h2⟩=>⟨h1,aeK (fun id b hb=> ?_) h2⟩
 obtain ⟨x, -, -,rfl⟩:=ae2 hb
 rfl
theorem aeH {H:Type} {enc:TypeId×Value→H} {P:Program} {w:World} {base:Nat} {spare:Nat→Bool} {n:Nat} {t:TypeId} {cs:List Value} {name:String} {d:DataW H} {p:List MemPlace} {ms:Array (String×TypeId)}
  (hu:P.underlying t=some (.interface ms)) (h:DataW.trod enc P w base spare false n t cs=some (.iface name d,p)):∃u v,cs=[.iface u v]∧P.typeName? 3 u=some name:=by
 cases n with
 |zero=>simp [DataW.trod] at h
 |succ n=>
  unfold DataW.trod at h
  rw [hu] at h
  simp only at h
  split at h<;>first| (cases h;done)| (rename_i heq;injection heq with heq;cases heq;done)|skip
  rename_i u v heq
  cases hn:P.typeName? 3 u with
  |none=>rw [hn] at h;cases h
  |some q=>
   rw [hn] at h
   simp only [Option.map_eq_some_iff,Prod.mk.injEq,DataW.iface.injEq] at h
   obtain ⟨_,_,⟨⟨rfl,_⟩,_⟩⟩:=h
   exact ⟨u,v,rfl,hn⟩
theorem aeZ {P:Program} {w:World} {n:String} {d:DataW Unit}:∀{l:List (String×DataW Unit)} {ps:List MemPlace},DataW.LaidVars P w l ps→(n,d)∈l→
  ∃g t cs fuel p,P.globalNamed n=some g∧(P.globals[g]?).map (·.type)=some t∧w.var? P n=some cs∧DataW.trod (fun _=>()) P w 0 (fun _=>true) false fuel t cs.toList=some (d,p)∧∀x∈MemPlace.row ⟨g,0,none⟩ cs.size,x∈ps
 | [],_,_,h=>by cases h
 | (m,e)::l,ps,hl,hm=>by
   obtain ⟨g,t,cs,fuel,p,q,h1,h2,h3,h4,h5,rfl⟩:=hl
   cases hm with
   |head=>exact ⟨g,t,cs,fuel,p,h1,h2,h3,h4,fun x hx=>List.mem_append_left _ (List.mem_append_left _ hx)⟩
   |tail _ hm=>
    obtain ⟨g',t',cs',fuel',p',k1,k2,k3,k4,k5⟩:=aeZ h5 hm
    exact ⟨g',t',cs',fuel',p',k1,k2,k3,k4,fun x hx=>List.mem_append_right _ (k5 x hx)⟩
theorem aeP {P:Program} {w:World} {laid:List (String×DataW Unit)} (h:laidMetH P laid w):laidMet P (laid.filter fun x=>x.2.handleName?.isNone) w:=by
 unfold laidMetH at h
 split at h
 ·rename_i he
  have:(laid.filter fun x=>x.2.handleName?.isNone)=laid:=by
   rw [List.filter_eq_self]
   intro x hx'
   cases hq:x.2.handleName? with
   |none=>rfl
   |some s=>
    have:x∈laid.filter fun x=>x.2.handleName?.isSome:=List.mem_filter.2 ⟨hx',by rw [hq];rfl⟩
    rw [he] at this;cases this
  rw [this];exact h
 ·exact h.1
theorem a07 {P:Program} {w:World} {laid:List (String×DataW Unit)} (h:laidMetH P laid w) {n name:String} {d:DataW Unit} (hx:(n,DataW.iface name d)∈laid) (hh:(DataW.iface name d:DataW Unit).handleName?.isNone=true)
  {g t:Nat} (hg:P.globalNamed n=some g) (ht:(P.globals[g]?).map (·.type)=some t) {ms:Array (String×TypeId)} (hu:P.underlying t=some (.interface ms)):
  ∃u v,w.cell? ⟨g,0,none⟩=some (.iface u v)∧P.typeName? 3 u=some name∧Value.okWide P w .any 0 u v:=by
 have hm:laidMet P (laid.filter fun x=>x.2.handleName?.isNone) w:=aeP h
 obtain ⟨ps,hl, -,hps⟩:=hm
 obtain ⟨g',t',cs,fuel,p,h1,h2,h3,h4,h5⟩:=aeZ hl (List.mem_filter.2 ⟨hx,hh⟩)
 rw [hg] at h1;obtain rfl:=Option.some.inj h1
 rw [ht] at h2;obtain rfl:=Option.some.inj h2
 obtain ⟨u,v,hcs,hn⟩:=aeH hu h4
 have hc:w.cell? ⟨g,0,none⟩=some (.iface u v):=by
  rw [World.var?_cell hg h3 0]
  have:cs.toList[0]? =some (Value.iface u v):=by rw [hcs];rfl
  simpa using this
 have hsz:cs.size=1:=by rw [←Array.length_toList,hcs];rfl
 refine ⟨u,v,hc,hn,(hps g 0 (h5 _ ?_)).2 u v hc⟩
 rw [hsz]
 simp [MemPlace.row]
theorem U7 {P:Program} {w:World} {g t:Nat} {z:Value} (h:w.ShapedOpen P) (hg:Nat.blt g P.globals.size=true)
  (hz:(((begin P (fun _ _=>0) default).world.heap[g]?).bind Obj.row?)=some (#[z],t)):∃(vs:Array Value) (v:Value),w.heap[g]? =some (.cells vs t (0,0))∧vs[0]? =some v:=by
 obtain ⟨cs,h1,h2, -⟩:=h.1 g _ t (Nat.le_of_ble_eq_true hg) hz
 have h2':cs.size=1:=h2
 exact ⟨cs,cs[0],h1,Array.getElem?_eq_getElem (by omega)⟩
theorem a6j {C:Ctx} {γ:G} {w:World} {g t:Nat} {a:AV} {vs:Array Value} {v:Value} (hg:Nat.blt g C.nG=true) (ht:(C.T.get t).map (·.size)=some 1) (hw:w.heap[g]? =some (.cells vs t (0,0))) (hv:vs[0]? =some v)
  (hc:aA γ a=some v):afa C γ w ⟨g,t,[a]⟩:=by
 have hsz:0 < vs.size:=by
  rcases Nat.lt_or_ge 0 vs.size with h|h
  ·exact h
  ·rw [Array.getElem?_eq_none h] at hv;cases hv
 refine ⟨Nat.le_of_ble_eq_true hg,ht,vs,hw,hsz,fun i b hb=> ?_⟩
 cases i with
 |zero=>
  simp only [List.getElem?_cons_zero,Option.some.injEq] at hb
  subst hb
  exact ⟨v,hv,hc⟩
 |succ i=>simp at hb
theorem ZK {n:Nat} {V:Nat→Option Value} {L:List Dt} {g:Nat} {v:Value} (hg:g < n) (hV:V g=some v) (hv:a0P v=true):aA (γD n V L) (.opq .any (.var g))=some v:=
 gG (d:=.val v) (by simp only [aO,γD,if_pos hg,Option.bind_some,hV,Option.map_some]) hv rfl
theorem aaU {n:Nat} {V:Nat→Option Value} {L:List Dt} {g:Nat} {m:Int} (hg:g < n) (hV:V g=some (.int .i64 m)):aA (γD n V L) (.opq (.int .i64) (.var g))=some (.int .i64 m):=
 gG (d:=.val (.int .i64 m)) (by simp only [aO,γD,if_pos hg,Option.bind_some,hV,Option.map_some]) ⟨_,rfl⟩ rfl
end Go.Proofs.YtjioppomopfifaaGreatDoor.Abs
