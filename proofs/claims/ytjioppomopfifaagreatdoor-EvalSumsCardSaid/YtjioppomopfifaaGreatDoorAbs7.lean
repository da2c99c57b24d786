/- From a checked run to the model's call, at arguments that are read as data; contracts by induction. Conditions: those of each theorem. -/
import Derived.Test.YtjioppomopfifaaGreatDoorAbs6
import Derived.ProofKit
import Derived.HandedShaped
import Derived.Lay
import Derived.LaidMore
import Derived.Stop.Joined
import Derived.ChangeArms
import Derived.DataReads
import Derived.ChangeBook
import Derived.ChangeStays
import Derived.ChangeShapes
import Derived.WideShapes
import Derived.SevenTiedAt
import Derived.JoinedCond
import Derived.LaidLaws
import Derived.Deep.DeepHandedRow
import Derived.FnData
import Derived.LaidSub
namespace Go.Proofs.YtjioppomopfifaaGreatDoor.Abs
open Go
noncomputable def aan (a b:Option (List (List Fact))):Option (List (List Fact)):=
 match a with
 |none=>none
 |some x=>match b with
  |none=>none
  |some y=>some (x++y)
noncomputable def aaT (pc:List Fact) (a:Option (List (List Fact))):Option (List (List Fact)):=
 match a with
 |none=>none
 |some x=>some (pc::x)
noncomputable def okO (b:Bool):Option (List (List Fact)):=
 match b with
 |true=>some []
 |false=>none
noncomputable def R.res {α:Type} (p:α→Bool) (r:R α):Option (List (List Fact)):=
 @R.rec α (fun _=>Option (List (List Fact))) (fun a=>okO (p a)) (fun _=>none) (fun n _ ih=>@Nat.rec (fun _=>Option (List (List Fact))) (some []) (fun i b=>aan b (ih i)) n) (fun pc _ ih=>aaT pc ih) r
def Unsat (pc:List Fact):Prop:=¬ ∃γ:G,∀f∈pc,f.holds γ
def lY (l:List (List Fact)):Prop:=∀pc∈l,Unsat pc
theorem a4x {a b:Option (List (List Fact))} {l:List (List Fact)} (h:aan a b=some l):∃x y,a=some x∧b=some y∧l=x++y:=by
 unfold aan at h
 cases a with
 |none=>cases h
 |some x=>cases b with
  |none=>cases h
  |some y=>exact ⟨x,y,rfl,rfl,(Option.some.inj h).symm⟩
theorem R.a2i {α:Type} (p:α→Bool) (k:Nat→R α):∀(n:Nat) (l:List (List Fact)),R.res p (.ask n k)=some l→∀i,i < n→∃x,R.res p (k i)=some x∧∀pc∈x,pc∈l
 | 0,_,_,i,h=>absurd h (Nat.not_lt_zero i)
 |n+1,l,h,i,hi=>by
  have e:R.res p (.ask (n+1) k)=aan (R.res p (.ask n k)) (R.res p (k n)):=rfl
  rw [e] at h
  obtain ⟨x,y,h1,h2,rfl⟩:=a4x h
  rcases Nat.lt_or_ge i n with h'|h'
  ·obtain ⟨z,h3,h4⟩:=R.a2i p k n x h1 i h'
   exact ⟨z,h3,fun pc hpc=>List.mem_append_left _ (h4 pc hpc)⟩
  ·have:i=n:=by omega
   subst this
   exact ⟨y,h2,fun pc hpc=>List.mem_append_right _ hpc⟩
theorem R.vM {α:Type} {p:α→Bool} {pc:List Fact} {k:R α} {l:List (List Fact)} (h:R.res p (.must pc k)=some l):∃x,R.res p k=some x∧l=pc::x:=by
 have e:R.res p (.must pc k)=aaT pc (R.res p k):=rfl
 rw [e] at h
 cases hk:R.res p k with
 |none=>rw [hk] at h;cases h
 |some x=>rw [hk] at h;exact ⟨x,rfl,(Option.some.inj h).symm⟩
theorem R.BU {α β:Type} {p:β→Bool} {Q:α→Prop} {f:α→R β}:∀{r:R α} {l:List (List Fact)},R.res p (r.bind f)=some l→lY l→r.path Q→∃a x,Q a∧R.res p (f a)=some x∧lY x
 | .ok a,l,h,hu,hq=>⟨a,l,hq,h,hu⟩
 | .bad _,_,h,_,_=>by cases h
 | .ask n k,l,h,hu,⟨i,hi,hq⟩=>by
   obtain ⟨x,h1,h2⟩:=R.a2i p (fun i=>(k i).bind f) n l h i hi
   exact R.BU h1 (fun pc hpc=>hu pc (h2 pc hpc)) hq
 | .must pc k,l,h,hu,hq=>by
   obtain ⟨x,h1,rfl⟩:=R.vM (k:=k.bind f) h
   rcases hq with hq|hq
   ·exact absurd hq (hu pc List.mem_cons_self)
   ·exact R.BU h1 (fun pc' hpc=>hu pc' (List.mem_cons_of_mem _ hpc)) hq
noncomputable def adU (o:Out):Bool:=
 match o.res with
 | .ret v=>match v with
   | .bool b=>b
   |_=>false
 | .jB _=>false
noncomputable def FB:List Func→Bool
 | []=>true
 |f::l=>match f.body.isSome && (f.name== "runtime.NumGoroutine") with
  |true=>false
  |false=>FB l
theorem Ll:∀{l:List Func},FB l=true→∀f∈l,f.body.isSome=true→(f.name== "runtime.NumGoroutine")=false
 | [],_,_,h=>by cases h
 |g::l,h,f,hf=>by
  unfold FB at h
  cases hb:(g.body.isSome && (g.name== "runtime.NumGoroutine")) with
  |true=>rw [hb] at h;cases h
  |false=>
   rw [hb] at h
   intro hs
   cases hf with
   |head=>rw [hs] at hb;simpa using hb
   |tail _ hf=>exact Ll h f hf hs
theorem a6k {P:Program} {eqT:Nat→Bool} {X:List (FuncId×Ext)} {M:List (FuncId×iL)} {K L:List nK} (hL:∀c∈L,aa3 P c) (hK:∀c∈K,bM P c) (hM:∀x∈M,jC P x.1 x.2) (h1:Jv P=true) (h2:FB P.funcs.toList=true)
  (h3:(∀f g t,jr f X=some (.closed g t)→zB P f g t)∧(∀f g,jr f X=some (.index g)→Ej P f g)∧(∀f x,jr f X=some (.as x)→a4A P f x)∧
    ∀f e,jr f X=some e→(∀g,e≠.index g)→(∀g t,e≠.closed g t)→(∀x,e≠.as x)→∃fn,P.funcs[f]? =some fn∧fn.body=none∧(fn.name== "runtime.NumGoroutine")=false∧Extern.findNext fn=none∧Extern.find fn=some (Dk fn e)):Good (mkCtx P eqT X M K L):=
 ⟨rfl,hK,hM,hL,h1,fun f fn hf hb=>Ll h2 fn (by have:=Array.mem_of_getElem? (xs:=P.funcs) hf;simpa using this) hb,h3.1,h3.2.1,h3.2.2.1,h3.2.2.2⟩
theorem aX {P:Program} {eqT:Nat→Bool} {X:List (FuncId×Ext)} {M:List (FuncId×iL)} {K:List nK} (hK:∀c∈K,bM P c) (hM:∀x∈M,jC P x.1 x.2) (h1:Jv P=true) (h2:FB P.funcs.toList=true)
  (h3:(∀f g t,jr f X=some (.closed g t)→zB P f g t)∧(∀f g,jr f X=some (.index g)→Ej P f g)∧(∀f x,jr f X=some (.as x)→a4A P f x)∧
    ∀f e,jr f X=some e→(∀g,e≠.index g)→(∀g t,e≠.closed g t)→(∀x,e≠.as x)→∃fn,P.funcs[f]? =some fn∧fn.body=none∧(fn.name== "runtime.NumGoroutine")=false∧Extern.findNext fn=none∧Extern.find fn=some (Dk fn e)):Good (mkCtx P eqT X M K):=
 a6k (fun _ h=>by cases h) hK hM h1 h2 h3
theorem jq {P:Program} {eqT:Nat→Bool} {X:List (FuncId×Ext)} {M:List (FuncId×iL)} (hM:∀x∈M,jC P x.1 x.2) (h1:Jv P=true) (h2:FB P.funcs.toList=true)
  (h3:(∀f g t,jr f X=some (.closed g t)→zB P f g t)∧(∀f g,jr f X=some (.index g)→Ej P f g)∧(∀f x,jr f X=some (.as x)→a4A P f x)∧
    ∀f e,jr f X=some e→(∀g,e≠.index g)→(∀g t,e≠.closed g t)→(∀x,e≠.as x)→∃fn,P.funcs[f]? =some fn∧fn.body=none∧(fn.name== "runtime.NumGoroutine")=false∧Extern.findNext fn=none∧Extern.find fn=some (Dk fn e)):Good (mkCtx P eqT X M):=
 aX (fun _ h=>by cases h) hM h1 h2 h3
def aa2 (γ:G) (o:Out) (e:Ending):Prop:=
 match o.res with
 | .ret v=>∃c,aA γ v=some c∧e=.returned c
 | .jB ch=>∃c,iP γ ch=some c∧e=.panicked c
theorem XW {C:Ctx} (hC:Good C) (hM:C.P.follows .mixedOrders=true) {base:Nat} {γ:G} {s:S} {w:World} (hR:Rel C base γ s w) {f:FuncId} {args:List AV} {aY:List Value} (hargs:aG γ args=some aY) (n:Nat)
  {β:Type} {p:β→Bool} {look:Out→R β} {l:List (List Fact)} (h:R.res p ((jv C (dS C n) f args .normal none s).bind look)=some l) (hu:lY l):
  Calls C.P f ⟨aY⟩ w fun e w'=>∃γ' o x,Step C base γ s w γ' o.s w'∧R.res p (look o)=some x∧lY x∧aa2 γ' o e:=by
 intro cs
 have hs:=Cm hC (Jz hC (drawn C base hC hM) n) hR f hargs .normal (ctx:=none) (cs:=cs) rfl
 obtain ⟨o,x,⟨⟨fn,hfn⟩,nt,γ',w',cs',hst,iO,hcs,hres⟩,hx,hux⟩:=R.BU h hu hs
 have hcs':cs'=cs:=hcs
 subst hcs'
 obtain ⟨res,a0Z,os⟩:=o
 cases res with
 |ret v=>
  obtain ⟨cv,hcv,fr',hsteps,hf,hk,hm,hd,fn',hfn',hrs⟩:=hres
  exact ⟨.returned cv,w',fr',⟨γ',⟨.ret v,a0Z,os⟩,x,hst,hx,hux,cv,hcv,rfl⟩,hsteps,hf,hm,hd,hk,fn',by rw [hf];exact hfn',hrs⟩
 |jB ch=>
  obtain ⟨vC,hch,fr',hsteps,hf,hm,hd⟩:=hres
  exact ⟨.panicked vC,w',fr',⟨γ',⟨.jB ch,a0Z,os⟩,x,hst,hx,hux,vC,hch,rfl⟩,hsteps,hf,hm,hd,fn,by rw [hf];exact hfn⟩
noncomputable def qX (p:Out→Bool) (o:Out):R Unit:=
 match p o with
 |true=>.ok ()
 |false=>.bad "another end"
theorem a05 {p:Out→Bool} {o:Out} {x:List (List Fact)} (h:R.res (fun _=>true) (qX p o)=some x):p o=true:=by
 unfold qX at h
 cases hp:p o with
 |true=>rfl
 |false=>rw [hp] at h;cases h
end Go.Proofs.YtjioppomopfifaaGreatDoor.Abs
namespace Go.Proofs.YtjioppomopfifaaGreatDoor.Abs
open Go
theorem a5i {H:Type} {enc:TypeId×Value→H} {P:Program} {f:Func} {s:ChangeSpec} {apart fresh handsOn:Bool} {W W':World} {args:Array Value} {v:Value} {ds gs:List (DataW H)} {before pa pv:List MemPlace}
  (hW:DataW.Whole enc P f.params.toList s.vars apart W args.toList ds gs before)
  (hres:∀(b:Nat) (sp:Nat→Bool) (hd:Bool),DataW.TrodAll enc P W' b sp hd f.resultTypes.toList (v.resultList f.resultTypes.size) (s.fn H (ds++gs)).results [])
  (hargs:∀sp:Nat→Bool,(∀p∈before,sp p.block=true)→DataW.TrodAll enc P W' 0 sp true f.params.toList args.toList (s.fn H (ds++gs)).args pa)
  (hvars:∀sp:Nat→Bool,(∀p∈before,sp p.block=true)→DataW.TrodVars enc P W' sp s.vars (s.fn H (ds++gs)).vars pv)
  (hps:before=pa++pv) (hk:W.keptBut W' (·∈before)):s.post enc P f apart fresh handsOn false W args v W':=by
 have hold:∀p∈before,(fun b=>decide (b < W.heap.size)) p.block=true:=fun p hp=>by simpa using hW.lt p hp
 refine ⟨ds,gs,before,[],pa,pv,hW,hres _ _ _,hargs _ hold,hvars _ hold,World.keptBut_mono (fun p hp=>⟨hp, ?_⟩) hk,fun h=>by cases h⟩
 rw [hps,List.mem_append] at hp
 exact .inr hp
theorem a3Q {w w':World} {may:MemPlace→Prop} (h:w.keptBut w' (fun _=>False)):w.keptBut w' may:=World.keptBut_mono (fun _ f=>f.elim) h
def a7P (P:Program) (f:FuncId) (e:Ext):Prop:=
 match e with
 | .index g=>Ej P f g
 | .closed g t=>zB P f g t
 | .as x=>a4A P f x
 |e=>∃fn,P.funcs[f]? =some fn∧fn.body=none∧(fn.name== "runtime.NumGoroutine")=false∧Extern.findNext fn=none∧Extern.find fn=some (Dk fn e)
def a0i (P:Program):List (FuncId×Ext)→Prop
 | []=>True
 |x::l=>a7P P x.1 x.2∧a0i P l
theorem Iu {P:Program}:∀{X:List (FuncId×Ext)},a0i P X→∀f e,jr f X=some e→a7P P f e
 | [],_,f,e,h=>by cases h
 |x::l,hx,f,e,h=>by
  have e1:jr f (x::l)=match Nat.beq x.1 f with|true=>some x.2|false=>jr f l:=rfl
  rw [e1] at h
  cases hb:Nat.beq x.1 f with
  |true=>
   rw [hb] at h
   injection h with h
   subst h
   have:=Nat.eq_of_beq_eq_true hb
   subst this
   exact hx.1
  |false=>
   rw [hb] at h
   exact Iu hx.2 f e h
theorem bG {P:Program} {X:List (FuncId×Ext)} (h:a0i P X):(∀f g t,jr f X=some (.closed g t)→zB P f g t)∧(∀f g,jr f X=some (.index g)→Ej P f g)∧(∀f x,jr f X=some (.as x)→a4A P f x)∧
  ∀f e,jr f X=some e→(∀g,e≠.index g)→(∀g t,e≠.closed g t)→(∀x,e≠.as x)→∃fn,P.funcs[f]? =some fn∧fn.body=none∧(fn.name== "runtime.NumGoroutine")=false∧Extern.findNext fn=none∧Extern.find fn=some (Dk fn e):=by
 refine ⟨fun f g t he=>Iu h f _ he,fun f g he=>Iu h f _ he,fun f x he=>Iu h f _ he,fun f e he hne hne' hne2=> ?_⟩
 have:=Iu h f e he
 cases e with
 |index g=>exact absurd rfl (hne g)
 |closed g t=>exact absurd rfl (hne' g t)
 |as x=>exact absurd rfl (hne2 x)
 |_=>exact this
def a2Y (P:Program):List (FuncId×iL)→Prop
 | []=>True
 |x::l=>jC P x.1 x.2∧a2Y P l
theorem iK {P:Program}:∀{M:List (FuncId×iL)},a2Y P M→∀x∈M,jC P x.1 x.2
 | [],_,x,hx=>by cases hx
 |y::l,h,x,hx=>by
  cases hx with
  |head=>exact h.1
  |tail _ hx=>exact iK h.2 x hx
theorem kR {C:Ctx} (hC:Good C) (hM:C.P.follows .mixedOrders=true) {f:FuncId} (n:Nat) {m:iL} (hf:(C.P.funcs[f]?).isSome=true)
  {l:List (List Fact)} (h:R.res (fun _=>true) ((jv C (dS C n) f m.args .normal none m.S).bind (qX (gY m)))=some l) (hu:lY l):jC C.P f m:=by
 refine ⟨Option.isSome_iff_exists.1 hf,fun base γ w aY hR hargs=> ?_⟩
 obtain ⟨hT,hG⟩:=Ip hC
 refine Calls.mono (XW hC hM (hR.ctx (show (mkCtx C.P (fun _=>false) []).P=C.P from rfl) hT.symm hG.symm) hargs n h hu) ?_
 rintro e w' ⟨γ',o,x,hst,hx, -,hres⟩
 have hp:=a05 hx
 unfold gY at hp
 unfold aa2 at hres
 cases hr:o.res with
 |jB ch=>rw [hr] at hp;cases hp
 |ret v=>
  rw [hr] at hp hres
  obtain ⟨c,hc,rfl⟩:=hres
  simp only [Bool.and_eq_true] at hp
  obtain ⟨⟨p1,p2⟩,p3⟩:=hp
  have e1:=kH _ _ p1
  subst e1
  refine ⟨γ',o.s,c,hst.ctx (show C.P=(mkCtx C.P (fun _=>false) []).P from rfl) hT hG,Nat.le_of_ble_eq_true p2,fun x hx=> ?_,hc,rfl⟩
  obtain ⟨b,q1,q2,q3⟩:=KO p3 x hx
  obtain ⟨q4,q5⟩:=mZ q2
  exact ⟨b,q1,q4,by rw [q5,q3];rfl⟩
theorem Il {H:Type} {enc:TypeId×Value→H} {a:Assume} {C:Checked} {os:Os} {f:FuncId} {fn:Func} {s:ChangeSpec} {conds:List PathCond} {apart fresh handsOn again:Bool} {X:World→Array Value→Prop}
  (hX:∀(w w':World) (args:Array Value),w.heap=w'.heap→X w args→X w' args)
  (own:ownKnob C.prog.godebug=none) (started:os.Started) (noInit:C.prog.inits.idxOf? f=none) (hfn:C.prog.funcs[f]? =some fn)
  (witness:∃(w:World) (tape:Tape) (i:Input),w.os=os∧(w.forCall tape i).Shaped C.prog∧i.vars=[]∧Input.okWide C.prog (w.forCall tape i) .any w.heap.size f i∧
    ((s.pre enc C.prog fn conds apart (w.forCall tape i).memory i.args∧X (w.forCall tape i).memory i.args)∧sizedMet enc C.prog fn (OpenSpec.ofChange s) apart (w.forCall tape i).memory i.args)∧a.holds C.prog (lone (Frame.enter C.prog f i.args .normal) [] (w.forCall tape i)))
  (contract:∀(W:World) (base:Nat) (args:Array Value) (ds gs:List (DataW H)) (before:List MemPlace),
    (∀(j:Nat) t v,fn.params[j]? =some t→args[j]? =some v→Value.okWide C.prog W .any base t v)→
    DataW.Whole enc C.prog fn.params.toList s.vars apart W args.toList ds gs before→
    conds.all (PathCond.test C.prog ⟨fn.params.toList,ds,s.plain.varTypes C.prog,gs⟩)=true→
    W.ShapedOpen C.prog→X W args→
    Calls C.prog f args W fun e W'=>∃v,e=.returned v∧s.post enc C.prog fn apart fresh handsOn again W args v W'):
  ReturnsInHanded a C os f .any (fun w args=>(s.pre enc C.prog fn conds apart w args∧X w args)∧sizedMet enc C.prog fn (OpenSpec.ofChange s) apart w args) (s.post enc C.prog fn apart fresh handsOn again):=by
 refine returnsInHanded_of_calls own started noInit witness ?_
 intro w tape i _ hsh _ hok hpre _
 obtain ⟨_,_,_,fn',hfn',_,_,_,_,hval⟩:=hok
 have e:fn'=fn:=Option.some.inj (hfn'.symm.trans hfn)
 subst e
 obtain ⟨⟨⟨ds,gs,before,hw,hc⟩,hx⟩,_⟩:=hpre
 have hw':=DataW.Whole.of_heap (w':=w.forCall tape i) (by rfl) hw
 refine (contract (w.forCall tape i) w.heap.size i.args ds gs before hval hw' hc hsh (hX _ _ _ (by rfl) hx)).mono fun e W' ⟨v,he,hp⟩=> ?_
 subst he
 exact ChangeSpec.post_blind hp
theorem Ws {P:Program} {w:World} {g t:Nat} (h:w.ShapedOpen P) (hg:Nat.blt g P.globals.size=true)
  (hz:(((begin P (fun _ _=>0) default).world.heap[g]?).bind Obj.row?)=some (#[.int .i64 0],t)) (hm:∃m,w.cell? ⟨g,0,none⟩=some (.int .i64 m)):
  ∃(vs:Array Value) (m:Int),w.heap[g]? =some (.cells vs t (0,0))∧vs[0]? =some (.int .i64 m):=by
 obtain ⟨cs,h1, -, -⟩:=h.1 g _ t (Nat.le_of_ble_eq_true hg) hz
 obtain ⟨m,hm⟩:=hm
 refine ⟨cs,m,h1, ?_⟩
 simpa [World.cell?,h1] using hm
end Go.Proofs.YtjioppomopfifaaGreatDoor.Abs
namespace Go.Proofs.YtjioppomopfifaaGreatDoor.Abs
open Go
theorem kN {σ:Nat→SE} {pc:List Fact} {γ:G} (hpc:∀f∈pc,f.holds γ):∀{l:List Fact} {x:List (List Fact)},R.res (fun _=>true) (gI pc σ l)=some x→lY x→∀f∈l,f.pos=true∧(f.sub σ).holds γ
 | [],_,_,_=>fun f hf=>by cases hf
 | .tr e::l,x,h,hu=>by
   have h:R.res (fun _=>true) (match EH (SE.sub σ e) pc with|true=>gI pc σ l|false=>R.must (.rel "tr" true uw [SE.sub σ e]::pc) (gI pc σ l))=some x:=h
   cases hk:EH (SE.sub σ e) pc with
   |true=>
    rw [hk] at h
    intro f hf
    cases hf with
    |head=>exact ⟨rfl,FV hpc hk⟩
    |tail _ hf=>exact kN hpc h hu f hf
   |false=>
    rw [hk] at h
    obtain ⟨y,h1,rfl⟩:=R.vM h
    intro f hf
    cases hf with
    |head=>
     refine ⟨rfl,a4Y.1 ?_⟩
     by_cases hp:∃ds,pG γ [SE.sub σ e]=some ds∧uw ds
     ·exact hp
     ·refine absurd ⟨γ,fun f hf=> ?_⟩ (hu _ List.mem_cons_self)
      cases hf with
      |head=>exact hp
      |tail _ hf=>exact hpc f hf
    |tail _ hf=>exact kN hpc h1 (fun pc' hp=>hu pc' (List.mem_cons_of_mem _ hp)) f hf
 | .fl e::l,x,h,hu=>by
   have h:R.res (fun _=>true) (match EI (SE.sub σ e) pc with|true=>gI pc σ l|false=>R.must (.rel "fl" true pFl [SE.sub σ e]::pc) (gI pc σ l))=some x:=h
   cases hk:EI (SE.sub σ e) pc with
   |true=>
    rw [hk] at h
    intro f hf
    cases hf with
    |head=>exact ⟨rfl,FX hpc hk⟩
    |tail _ hf=>exact kN hpc h hu f hf
   |false=>
    rw [hk] at h
    obtain ⟨y,h1,rfl⟩:=R.vM h
    intro f hf
    cases hf with
    |head=>
     refine ⟨rfl,a5a.1 ?_⟩
     by_cases hp:∃ds,pG γ [SE.sub σ e]=some ds∧pFl ds
     ·exact hp
     ·refine absurd ⟨γ,fun f hf=> ?_⟩ (hu _ List.mem_cons_self)
      cases hf with
      |head=>exact hp
      |tail _ hf=>exact hpc f hf
    |tail _ hf=>exact kN hpc h1 (fun pc' hp=>hu pc' (List.mem_cons_of_mem _ hp)) f hf
 | .inr i n::l,x,h,hu=>by
   have h:R.res (fun _=>true) (match yH (SE.sub σ i) (SE.sub σ n) pc with|true=>gI pc σ l|false=>R.must (.rel "in" true pIn [SE.sub σ i,SE.sub σ n]::pc) (gI pc σ l))=some x:=h
   cases hk:yH (SE.sub σ i) (SE.sub σ n) pc with
   |true=>
    rw [hk] at h
    intro f hf
    cases hf with
    |head=>exact ⟨rfl,Dc hpc hk⟩
    |tail _ hf=>exact kN hpc h hu f hf
   |false=>
    rw [hk] at h
    obtain ⟨y,h1,rfl⟩:=R.vM h
    intro f hf
    cases hf with
    |head=>
     refine ⟨rfl,a4Z.1 ?_⟩
     by_cases hp:∃ds,pG γ [SE.sub σ i,SE.sub σ n]=some ds∧pIn ds
     ·exact hp
     ·refine absurd ⟨γ,fun f hf=> ?_⟩ (hu _ List.mem_cons_self)
      cases hf with
      |head=>exact hp
      |tail _ hf=>exact hpc f hf
    |tail _ hf=>exact kN hpc h1 (fun pc' hp=>hu pc' (List.mem_cons_of_mem _ hp)) f hf
 | .rel nm b p args::l,x,h,hu=>by
   cases b with
   |true=>cases h
   |false=>
    obtain ⟨y,h1,rfl⟩:=R.vM (show R.res (fun _=>true) (.must (.rel nm true p (SE.lN σ args)::pc) (gI pc σ l))=some x from h)
    intro f hf
    cases hf with
    |head=>
     refine ⟨rfl, ?_⟩
     by_cases hp:∃ds,pG γ (SE.lN σ args)=some ds∧p ds
     ·exact hp
     ·refine absurd ⟨γ,fun f hf=> ?_⟩ (hu _ List.mem_cons_self)
      cases hf with
      |head=>exact hp
      |tail _ hf=>exact hpc f hf
    |tail _ hf=>exact kN hpc h1 (fun pc' hp=>hu pc' (List.mem_cons_of_mem _ hp)) f hf
theorem GY {h:Tr jc} {θ:Nat→Nat} {ν:Nat→SE}:∀{l:List (Nat×CB)},GZ h θ ν l=true→∀x∈l,∃b,h.get (θ x.1)=some b∧yM b (x.2.sub θ ν)=true∧x.2.live=true
 | [],_,x,hx=>by cases hx
 |y::l,e,x,hx=>by
  unfold GZ at e
  cases hg:h.get (θ y.1) with
  |none=>rw [hg] at e;cases e
  |some b=>
   rw [hg] at e
   simp only [Bool.and_eq_true] at e
   cases hx with
   |head=>exact ⟨b,hg,e.1,e.2.1⟩
   |tail _ hx=>exact GY e.2.2 x hx
theorem TU {n next:Nat} {l:List (Nat×Nat)} (hn:n≤next):(∀i,i < n→a0n n next l i=i)∧∀i,n≤i→n≤a0n n next l i:=by
 refine ⟨fun i h=>by unfold a0n;rw [nJ h],fun i h=> ?_⟩
 unfold a0n
 rw [rX h]
 simp only
 cases sS i l with
 |none=>exact hn
 |some j=>
  simp only
  cases hb:Nat.ble n j with
  |true=>exact Nat.le_of_ble_eq_true hb
  |false=>exact hn
theorem Us {n m:Nat} {l:List (Nat×SE)}:(∀i,i < n→a01 n m l i=.var i)∧∀(γ:G) i,n+m≤i→aO γ (a01 n m l i)=none:=by
 refine ⟨fun i h=>by unfold a01;rw [nJ h],fun γ i h=> ?_⟩
 unfold a01
 rw [rX (show n≤i by omega)]
 simp only
 rw [show Nat.blt i (Nat.add n m)=false from rX h]
 rfl
theorem yE {C:Ctx} {base:Nat} {c:nK} {jB:Bool} {s:S} {v:AV} {γ:G} {w:World} {cv:Value} (hR:Rel C base γ s w) (hv:aA γ v=some cv) (hn:c.n≤s.next):∀{l:List uF} {x:List (List Fact)},R.res (fun _=>true) (qh C c jB s v l)=some x→lY x→
  ∃o,o∈l∧o.jB=jB∧∃(γ':G) (s':S) (v':AV) (θ:Nat→Nat) (ν:Nat→SE),Step C base γ s w γ' s' w∧aA γ' v'=some cv∧(∀i,i < c.n→θ i=i∧ν i=.var i)∧(∀i,c.n≤i→c.n≤θ i)∧(∀i,c.n+o.m≤i→aO γ' (ν i)=none)∧
   NY s' v' o θ ν=true∧∀f∈o.facts,f.pos=true∧(f.sub ν).holds γ'
 | [],x,h,hu=>by
   obtain ⟨y, -,rfl⟩:=R.vM (show R.res (fun _=>true) (R.must s.pc (R.ok ()))=some x from h)
   exact absurd ⟨γ,fun f hf=>(hR.pc f hf).2⟩ (hu s.pc List.mem_cons_self)
 |o::l,x,h,hu=>by
  unfold qh at h
  cases hp:acT o.jB jB with
  |true=>
   rw [hp] at h
   obtain ⟨o',h3,h2⟩:=yE hR hv hn h hu
   exact ⟨o',List.mem_cons_of_mem _ h3,h2⟩
  |false=>
  rw [hp] at h
  have En:o.jB=jB:=by
   cases ho:o.jB<;>cases jB<;>rw [ho] at hp<;>first|rfl|cases hp
  simp only at h
  obtain ⟨r,y,⟨γ',hst,hc⟩,h1,hu1⟩:=R.BU h hu (Uj o.res v hR hv)
  revert h1
  obtain ⟨_,tl,vl⟩:=V7 c.n r.2.h o.post (a03 o.res r.1 (.nil,[],[]))
  intro h1
  simp only at h1
  cases hf:NY r.2 r.1 o (a0n c.n r.2.next tl) (a01 c.n o.m vl) with
  |true=>
   rw [hf] at h1
   exact ⟨o,List.mem_cons_self,En,γ',r.2,r.1,_,_,hst,hc,fun i hi=>⟨(TU (Nat.le_trans hn hst.next)).1 i hi,Us.1 i hi⟩,(TU (Nat.le_trans hn hst.next)).2,Us.2 γ',hf,kN (fun f hf=>(hst.rel.pc f hf).2) h1 hu1⟩
  |false=>
   rw [hf] at h1
   obtain ⟨o',h3,h2⟩:=yE hR hv hn h1 hu1
   exact ⟨o',List.mem_cons_of_mem _ h3,h2⟩
theorem bV {C:Ctx} (hC:Good C) (hM:C.P.follows .mixedOrders=true) (c:nK) (n:Nat) {l:List (List Fact)}
  (h:∀tl,R.res (fun _=>true) ((dS C n (c.fi tl) c.tr c.todo [] .run none c.S).bind (bC C c))=some l) (hu:lY l):bM C.P c:=by
 obtain ⟨hT,hG⟩:=Ip hC
 have hP:C.P=(mkCtx C.P (fun _=>false) []).P:=rfl
 intro base γ ro tl tm items cs w hfr
 have hs:=Jz hC (drawn C base hC hM) n γ (c.fi tl) ro c.tr c.todo [] .run none c.S tm items tl .run cs w (hfr.over hP.symm hT.symm hG.symm)
 obtain ⟨o,x,⟨lq,w',cs',hst,iO,hcs,hres⟩,hx,hux⟩:=R.BU (h tl) hu hs
 have hcs':cs'=cs:=hcs
 subst hcs'
 obtain ⟨res,a0Z,s1⟩:=o
 have fin:∀{v:AV} {cv:Value} {jB:Bool},aA lq v=some cv→R.res (fun _=>true) (qh C c jB s1 v c.outs)=some x→adT (mkCtx C.P (fun _=>false) []) (c.fi tl) cs' (lone (bf (c.fi tl) ro tm items tl .run) cs' w) w' cv jB→X9 C.P c base γ (lone (bf (c.fi tl) ro tm items tl .run) cs' w) tl cs' w:=by
  intro v cv jB hcv hx hend
  obtain ⟨o,ho,En,TL,s2,v2,θ,ν,hfz,hcv2,h1,h2,h3,h4,h5⟩:=yE hst.rel hcv hst.next hx hux
  simp only [NY,Bool.and_eq_true] at h4
  obtain ⟨g1,g2,g3⟩:=h4
  have g1:=kH _ _ g1
  subst g1
  exact ⟨o,ho,TL,s2,w',θ,ν,cv,(hst.trans hfz).ctx hP hT hG,h1,h2,fun x hx=>by
   obtain ⟨b,q1,q2,q3⟩:=GY g2 x hx
   obtain ⟨lc,ob,r1, -, -⟩:=hfz.rel.blk _ b q1
   exact ⟨b,lc,q1,by rw [(xX q2).2,wu,q3];rfl,r1,fun ob hob=>(xX q2).1 _ TL lc ob hob⟩,fun x hx y hy hne=>Pz g3 x hx y hy hne,h3,h5,hcv2,by rw [En];exact hend⟩
 have none_:R.res (fun _=>true) (R.must s1.pc (R.ok ()))=some x→False:=fun hx=>by
  obtain ⟨y, -,rfl⟩:=R.vM hx
  exact hux s1.pc List.mem_cons_self ⟨lq,fun f hf=>(hst.rel.pc f hf).2⟩
 cases res with
 |jB ch=>
  cases ch with
  |nil=>exact (none_ hx).elim
  |cons p l=>
   cases l with
   |cons _ _=>exact (none_ hx).elim
   |nil=>
    obtain ⟨pv,pr⟩:=p
    cases pr with
    |true=>exact (none_ hx).elim
    |false=>
     obtain ⟨vC,a1i,fr',k1,k2,k3,k4⟩:=hres
     have a1i:(match nY lq ⟨pv,false⟩,iP lq [] with|some a,some b=>some (a::b)|_,_=>none)=some vC:=a1i
     unfold nY at a1i
     cases hcv:aA lq pv with
     |none=>rw [hcv] at a1i;cases a1i
     |some cv=>
      rw [hcv] at a1i
      obtain rfl:=Option.some.inj (show some [({ v:=cv,recovered:=false }:PanicEntry)]=some vC from a1i)
      exact fin hcv (show R.res (fun _=>true) (qh C c true s1 pv c.outs)=some x from hx) ⟨fr',k1,k2,k3,k4⟩
 |ret v=>
  obtain ⟨cv,hcv,hend⟩:=hres
  refine fin hcv (show R.res (fun _=>true) (qh C c false s1 v c.outs)=some x from hx) ?_
  show a0j _ _ _ _ _ _
  unfold a0j
  cases hr:(c.fi tl).roundOf with
  |none=>rw [hr] at hend;exact hend
  |some i=>rw [hr] at hend;exact hend
end Go.Proofs.YtjioppomopfifaaGreatDoor.Abs
namespace Go.Proofs.YtjioppomopfifaaGreatDoor.Abs
open Go
mutual
def PV:Dt→Nat
 | .val _=>1
 | .sl _ _ _ es=>eP es+1
 | .pt _ _ _ _ _ _=>1
 | .ls _ es=>eP es+1
def eP:List Dt→Nat
 | []=>0
 |d::l=>PV d+eP l
end
theorem iJ:∀{l m:List Dt},eP (l++m)=eP l+eP m
 | [],m=>by simp [eP]
 |d::l,m=>by simp only [List.cons_append,eP,iJ (l:=l)];omega
theorem N7:∀(d:Dt),1≤PV d:=by
 intro d;cases d<;>simp only [PV]<;>omega
theorem H9:∀{l:List Dt},l.length≤eP l
 | []=>Nat.zero_le _
 |d::l=>by
  have:=N7 d
  have:=H9 (l:=l)
  simp only [List.length_cons,eP];omega
theorem PU (l:List Dt) (n:Nat):eP (l.take n)+eP (l.drop n)=eP l:=by
 rw [←iJ,List.take_append_drop]
mutual
def bulk {H:Type}:DataW H→Nat
 | .lit (.string bytes)=>bytes.length+1
 | .lit _=>1
 | .nil=>1
 | .ptr d=>bulk d+1
 | .slice elems spare=>Eh elems+Eh spare+1
 | .agg parts=>Eh parts+1
 | .iface _ d=>bulk d+1
 | .map entries=>MG entries+1
 | .held _=>1
def Eh {H:Type}:List (DataW H)→Nat
 | []=>0
 |d::r=>bulk d+Eh r
def MG {H:Type}:List (Lit×DataW H)→Nat
 | []=>0
 |x::r=>a4p x+MG r
def a4p {H:Type}:Lit×DataW H→Nat
 | (.string bytes,d)=>bytes.length+bulk d+1
 | (_,d)=>bulk d+1
end
end Go.Proofs.YtjioppomopfifaaGreatDoor.Abs
namespace Go.Proofs.YtjioppomopfifaaGreatDoor.Abs
open Go
mutual
def Dt.wf (K:TypeId→List Kd):Dt→Prop
 | .val v=>a0P v=true
 | .sl v t sz es=>(v=.slice none 0 0∧es=[])∨(sz=(K t).length∧(∃a n c,v=.slice (some a) n c∧es.length=n * sz)∧Dt.Em K (K t) 0 es)
 | .pt _ _ _ _ _ _=>True
 | .ls ks es=>Dt.Em K ks 0 es
def Dt.Em (K:TypeId→List Kd) (ks:List Kd):Nat→List Dt→Prop
 |_,[]=>True
 |j,d::l=>(∃k,ks[j % ks.length]? =some k∧k.fits d)∧Dt.wf K d∧Dt.Em K ks (j+1) l
end
section
variable {K:TypeId→List Kd} {ks:List Kd}
theorem Dt.Em.get:∀{l:List Dt} {j i:Nat} {d:Dt},Dt.Em K ks j l→l[i]? =some d→(∃k,ks[(j+i) % ks.length]? =some k∧k.fits d)∧d.wf K
 | [],_,_,_,_,h=>by simp at h
 |x::l,j,0,d,⟨h1,h2,h3⟩,h=>by
  simp only [List.getElem?_cons_zero,Option.some.injEq] at h
  subst h
  exact ⟨h1,h2⟩
 |x::l,j,i+1,d,⟨h1,h2,h3⟩,h=>by
  have:=h3.get (i:=i) (d:=d) (by simpa using h)
  rwa [show j+1+i=j+(i+1) by omega] at this
theorem Dt.Em.mk:∀{l:List Dt} {j:Nat},(∀(i:Nat) d,l[i]? =some d→(∃k,ks[(j+i) % ks.length]? =some k∧k.fits d)∧d.wf K)→Dt.Em K ks j l
 | [],_,_=>trivial
 |d::l,j,h=>⟨(h 0 d rfl).1,(h 0 d rfl).2,Dt.Em.mk fun i d' hi=>by
   have:=h (i+1) d' (by simpa using hi)
   rwa [show j+(i+1)=j+1+i by omega] at this⟩
theorem Dt.Em.take {l:List Dt} {j:Nat} (n:Nat) (h:Dt.Em K ks j l):Dt.Em K ks j (l.take n):=.mk fun i d hi=>by
 rw [List.getElem?_take] at hi
 split at hi
 ·exact h.get hi
 ·cases hi
theorem Dt.Em.append {l m:List Dt} {j:Nat} (h:Dt.Em K ks j l) (hm:∀(i:Nat) d,m[i]? =some d→(∃k,ks[(j+l.length+i) % ks.length]? =some k∧k.fits d)∧d.wf K):Dt.Em K ks j (l++m):=.mk fun i d hi=>by
 rw [List.getElem?_append] at hi
 split at hi
 ·exact h.get hi
 ·next hge=>
  have:=hm (i - l.length) d hi
  rwa [show j+l.length+(i - l.length)=j+i by omega] at this
end
def BF (K:TypeId→List Kd) (T:TypeId) (a:Option Addr) (k sz:Nat) (ss:List Dt):Prop:=ss.length=k * (K T).length∧Dt.Em K (K T) 0 ss∧(k≠0→sz=(K T).length∧∃b,a=some b)
theorem Oz {K:TypeId→List Kd} {T:TypeId} {d:Dt} (hf:Kd.fits (.sl T) d) (hw:d.wf K):∃a n c sz es,d=.sl (.slice a n c) T sz es∧BF K T a n sz es:=by
 obtain ⟨a,n,c,sz,es,rfl⟩:=hf
 rcases hw with ⟨h1,rfl⟩| ⟨h0,⟨a',n',c',h1,h2⟩,h3⟩
 ·injection h1 with e1 e2 e3
  subst e2
  exact ⟨_,_,_,_,_,rfl,by simp,trivial,fun h=>absurd rfl h⟩
 ·injection h1 with e1 e2 e3
  subst e2
  exact ⟨_,_,_,_,_,rfl,by rw [h2,h0],h3,fun _=>⟨h0,a',e1⟩⟩
theorem vX {l:List Dt} {a b:Nat} (h:a≤b):eP (l.take a)≤eP (l.take b):=by
 have:=PU (l.take b) a
 rw [List.take_take,Nat.min_eq_left h] at this
 omega
theorem DR {l:List Dt} {n:Nat} (h:n * 4+4≤l.length):∃a b c d,l[n * 4]? =some a∧l[n * 4+1]? =some b∧l[n * 4+2]? =some c∧l[n * 4+3]? =some d∧l.take ((n+1) * 4)=l.take (n * 4)++[a,b,c,d]:=by
 refine ⟨l[n * 4],l[n * 4+1],l[n * 4+2],l[n * 4+3],List.getElem?_eq_getElem _,List.getElem?_eq_getElem _,List.getElem?_eq_getElem _,List.getElem?_eq_getElem _, ?_⟩
 rw [show (n+1) * 4=n * 4+1+1+1+1 by omega]
 rw [List.take_add_one,List.take_add_one,List.take_add_one,List.take_add_one]
 rw [List.getElem?_eq_getElem (show n * 4 < l.length by omega),List.getElem?_eq_getElem (show n * 4+1 < l.length by omega),List.getElem?_eq_getElem (show n * 4+1+1 < l.length by omega),List.getElem?_eq_getElem (show n * 4+1+1+1 < l.length by omega)]
 simp only [Option.toList_some,List.append_assoc,List.cons_append,List.nil_append]
def XQ (K:TypeId→List Kd):List TypeId→List Dt→Prop
 | [],l=>l=[]
 |t::ts,l=>∃a b,l=a++b∧a.length=(K t).length∧Dt.Em K (K t) 0 a∧XQ K ts b
def aaw (K:TypeId→List Kd) (ts:List TypeId) (N:Nat) (l:List Dt):Prop:=XQ K ts l∧eP l≤N
end Go.Proofs.YtjioppomopfifaaGreatDoor.Abs
namespace Go.Proofs.YtjioppomopfifaaGreatDoor.Abs
open Go Go.ChangeShapes
noncomputable def a5p:List Kd→Nat→List AV
 | []=>fun _=>[]
 |k::l=>fun i=>.opq k (.var i)::a5p l (Nat.add i 1)
noncomputable def adN (C:Ctx) (t:TypeId) (i:Nat):AV:=
 match C.P.underlying t with
 |none=>.junk
 |some d=>match d with
  | .struct _=>.agg (a5p (aJ C t) i)
  |_=>match a5p (aJ C t) i with
   | []=>.junk
   |v::l=>match l with
    | []=>v
    |_::_=>.junk
noncomputable def a7I (C:Ctx):List TypeId→Nat→List AV
 | []=>fun _=>[]
 |t::ts=>fun i=>adN C t i::a7I C ts (Nat.add i (aJ C t).length)
noncomputable def a2V (P:Program) (ts:List TypeId):Bool:=ts.all fun t=>P.readableRec t && decide (t < P.types.size)
theorem U1 {H:Type} {enc:TypeId×Value→H} {P:Program} (hl:laidOutB P=true) {W W':World} (hk:W.keptBut W' (fun _=>False)) {sp:Nat→Bool}:∀{ts:List TypeId} {vs:List Value} {ds:List (DataW H)} {ps:List MemPlace},
  a2V P ts=true→DataW.TrodAll enc P W 0 (fun _=>true) true ts vs ds ps→(∀p∈ps,p.block < W.heap.size)→(∀p∈ps,sp p.block=true)→DataW.TrodAll enc P W' 0 sp true ts vs ds ps
 | [],vs,ds,ps,_,h,_,_=>by
   obtain ⟨rfl,rfl,rfl⟩:=trodAll_nil h
   exact rfl
 |t::ts,vs,ds,ps,hf,h,hlt,hs=>by
  obtain ⟨v,vs',d,ds',p,q,rfl,rfl,rfl,⟨n,hn⟩,h2⟩:=trodAll_cons h
  simp only [a2V,List.all_cons,Bool.and_eq_true,decide_eq_true_eq] at hf
  obtain ⟨⟨hr,hsz⟩,hf'⟩:=hf
  refine ⟨p,q,⟨n,DataW.trod_stays (kids_book hl hr) (book_sized hr) (fun h=>by cases h) ⟨hsz,book_self t⟩ hn (fun x hx=> ?_) (fun x hx=>hs x (List.mem_append_left _ hx))⟩,
   U1 hl hk hf' h2 (fun x hx=>hlt x (List.mem_append_right _ hx)) (fun x hx=>hs x (List.mem_append_right _ hx)),rfl⟩
  have hb:W'.heap[x.block]? =W.heap[x.block]? :=hk.block (hlt x (List.mem_append_left _ hx)) (fun _ f=>f.elim)
  cases x with
  |cell b off=>
   show W'.cell? ⟨b,off,none⟩=W.cell? ⟨b,off,none⟩
   have hb':W'.heap[b]? =W.heap[b]? :=hb
   simp only [World.cell?,hb']
  |map b=>exact hb
theorem a8K {P:Program} {ts:List TypeId} (h:(ts.all fun t=> !P.wantsStandIn t)=true) (j:Nat) (t:TypeId) (ht:ts[j]? =some t):P.wantsStandIn t=false:=by
 have:=List.all_eq_true.1 h t (List.mem_of_getElem? ht)
 simpa using this
end Go.Proofs.YtjioppomopfifaaGreatDoor.Abs
namespace Go.Proofs.YtjioppomopfifaaGreatDoor.Abs
open Go
section
variable (K:TypeId→List Kd) (T:TypeId)
def dD (M:Nat) (l:List Dt):Prop:=∃(n:Nat) (es:List Dt),l=[.val (.int .i64 (.ofNat n)),.ls (K T) es]∧n * 4≤es.length∧Dt.Em K (K T) 0 es∧eP (es.take (n * 4)) < M
def pBack (N M:Nat) (l:List Dt):Prop:=∃(n:Nat) (es:List Dt) (a:Option Addr) (k c sz:Nat) (ss:List Dt) (i:Int),l=[.val (.int .i64 (.ofNat n)),.ls (K T) es,.sl (.slice a k c) T sz ss,.val (.int .i64 i)]∧
 n * 4≤es.length∧Dt.Em K (K T) 0 es∧BF K T a k sz ss∧ -1≤i∧i < k∧i+1 < N∧eP (es.take (n * 4))+eP (ss.take ((i+1).toNat * 4)) < M
def aj (B:Nat) (l:List Dt):Prop:=l.length=4∧Dt.Em K (K T) 0 l∧eP l < B
end
theorem su {γ:G} {x y:SE} {l:List Dt} (h:pG γ [x,y]=some l):∃a b,l=[a,b]∧aO γ x=some a∧aO γ y=some b:=by
 simp only [pG,Option.bind_eq_some_iff,Option.map_eq_some_iff] at h
 obtain ⟨a,ha,q,⟨b,hb,r,hr,rfl⟩,rfl⟩:=h
 obtain rfl:=Option.some.inj hr
 exact ⟨a,b,rfl,ha,hb⟩
theorem pF {γ:G} {x y z t:SE} {l:List Dt} (h:pG γ [x,y,z,t]=some l):∃a b c d,l=[a,b,c,d]∧aO γ x=some a∧aO γ y=some b∧aO γ z=some c∧aO γ t=some d:=by
 simp only [pG,Option.bind_eq_some_iff,Option.map_eq_some_iff] at h
 obtain ⟨a,ha,q,⟨b,hb,q2,⟨c,hc,q3,⟨d,hd,r,hr,rfl⟩,rfl⟩,rfl⟩,rfl⟩:=h
 obtain rfl:=Option.some.inj hr
 exact ⟨a,b,c,d,rfl,ha,hb,hc,hd⟩
theorem OI {γ:G} {x y z t:SE} {a b c d:Dt} (h1:aO γ x=some a) (h2:aO γ y=some b) (h3:aO γ z=some c) (h4:aO γ t=some d):pG γ [x,y,z,t]=some [a,b,c,d]:=by simp [pG,h1,h2,h3,h4]
theorem uI {γ:G} {op:BinOp} {x y:SE} {a b:Int} (hop:uG op=true) (hx:aO γ x=some (.val (.int .i64 a))) (hy:aO γ y=some (.val (.int .i64 b))):aO γ (.a2 (.bin op) x y)=okV (intOp op .i64 a b):=by
 simp only [aO,hx,hy,Option.bind_some,e2,kG]
 cases op<;>first| (cases hop;done)|rfl
theorem zM {γ:G} {x y:SE} {a b:Int} (hx:aO γ x=some (.val (.int .i64 a))) (hy:aO γ y=some (.val (.int .i64 b))) (h1: -9223372036854775808≤a+b) (h2:a+b≤9223372036854775807):aO γ (.a2 (.bin .add) x y)=some (.val (.int .i64 (a+b))):=by
 simp only [aO,hx,hy,Option.bind_some,e2,kG,dB,if_true,intOp,okV]
 rw [wV h1 h2]
theorem wY {γ:G} {x y:SE} {a b:Int} (hx:aO γ x=some (.val (.int .i64 a))) (hy:aO γ y=some (.val (.int .i64 b))) (h1: -9223372036854775808≤a - b) (h2:a - b≤9223372036854775807):aO γ (.a2 (.bin .sub) x y)=some (.val (.int .i64 (a - b))):=by
 simp only [aO,hx,hy,Option.bind_some,e2,kG,dB,if_true,intOp,okV]
 rw [wV h1 h2]
theorem a0m {γ:G} {x:SE} {a c:Int} (h:(Fact.tr (.a2 (.bin .geq) x (.int .i64 c))).holds γ) (hx:aO γ x=some (.val (.int .i64 a))):c≤a:=by
 have h:aO γ _=_:=h
 rw [uI (b:=c) rfl hx rfl] at h
 have h:=Option.some.inj h
 injection h with h;injection h with h
 exact of_decide_eq_true h
theorem a4E {γ:G} {x:SE} {a c:Int} (h:(Fact.tr (.a2 (.bin .gtr) x (.int .i64 c))).holds γ) (hx:aO γ x=some (.val (.int .i64 a))):c < a:=by
 have h:aO γ _=_:=h
 rw [uI (b:=c) rfl hx rfl] at h
 have h:=Option.some.inj h
 injection h with h;injection h with h
 exact of_decide_eq_true h
theorem zH {K:TypeId→List Kd} {T:TypeId} (hK:K T=[.int .i64,.int .i64,.str,.sl T]) {es:List Dt} (hw:Dt.Em K (K T) 0 es) {n:Nat} (h:n * 4+4≤es.length):
  ∃(x y:Int) (s:ByteArray) (a:Option Addr) (k c sz:Nat) (ss:List Dt),es[n * 4]? =some (.val (.int .i64 x))∧es[n * 4+1]? =some (.val (.int .i64 y))∧es[n * 4+2]? =some (.val (.string s))∧es[n * 4+3]? =some (.sl (.slice a k c) T sz ss)∧
   BF K T a k sz ss∧eP (es.take ((n+1) * 4))=eP (es.take (n * 4))+4+eP ss:=by
 obtain ⟨d0,d1,d2,d3,h0,h1,h2,h3,ht⟩:=DR h
 have hl:(K T).length=4:=by rw [hK];rfl
 have kd:∀(q:Nat) d,q < 4→es[n * 4+q]? =some d→(∃k,(K T)[q]? =some k∧k.fits d)∧d.wf K:=by
  intro q d hq hd
  have:=hw.get hd
  rwa [hl,Nat.zero_add,Nat.mul_comm,Nat.mul_add_mod,Nat.mod_eq_of_lt hq] at this
 obtain ⟨⟨k0,q0,f0⟩, -⟩:=kd 0 d0 (by omega) h0
 obtain ⟨⟨k1,q1,f1⟩, -⟩:=kd 1 d1 (by omega) h1
 obtain ⟨⟨k2,q2,f2⟩, -⟩:=kd 2 d2 (by omega) h2
 obtain ⟨⟨k3,q3,f3⟩,w3⟩:=kd 3 d3 (by omega) h3
 rw [hK] at q0 q1 q2 q3
 simp only [List.getElem?_cons_zero,List.getElem?_cons_succ,Option.some.injEq] at q0 q1 q2 q3
 subst q0;subst q1;subst q2;subst q3
 obtain ⟨x,rfl⟩:=f0
 obtain ⟨y,rfl⟩:=f1
 obtain ⟨s,rfl⟩:=f2
 obtain ⟨a,k,c,sz,ss,rfl,g1⟩:=Oz f3 w3
 refine ⟨x,y,s,a,k,c,sz,ss,h0,h1,h2,h3,g1, ?_⟩
 rw [ht,iJ]
 simp only [eP,PV]
 omega
section
variable {K:TypeId→List Kd} {T:TypeId} {γ:G}
theorem y9 {nm:String} {M:Nat} {n e:SE} (h:(Fact.rel nm false (dD K T M) [n,e]).holds γ):∃(k:Nat) (es:List Dt),aO γ n=some (.val (.int .i64 (.ofNat k)))∧aO γ e=some (.ls (K T) es)∧k * 4≤es.length∧Dt.Em K (K T) 0 es∧eP (es.take (k * 4)) < M:=by
 obtain ⟨l,hl,k,es,rfl,h1,h2,h3⟩:=h
 obtain ⟨a,b,e1,e2,e3⟩:=su hl
 injection e1 with e1 e4;injection e4 with e4 _
 subst e1;subst e4
 exact ⟨k,es,e2,e3,h1,h2,h3⟩
theorem rY {nm:String} {N M:Nat} {n e s i:SE} (h:(Fact.rel nm false (pBack K T N M) [n,e,s,i]).holds γ):∃(m:Nat) (es:List Dt) (a:Option Addr) (k c sz:Nat) (ss:List Dt) (j:Int),
  aO γ n=some (.val (.int .i64 (.ofNat m)))∧aO γ e=some (.ls (K T) es)∧aO γ s=some (.sl (.slice a k c) T sz ss)∧aO γ i=some (.val (.int .i64 j))∧
  m * 4≤es.length∧Dt.Em K (K T) 0 es∧BF K T a k sz ss∧ -1≤j∧j < k∧j+1 < N∧eP (es.take (m * 4))+eP (ss.take ((j+1).toNat * 4)) < M:=by
 obtain ⟨l,hl,m,es,a,k,c,sz,ss,j,rfl,h1⟩:=h
 obtain ⟨d1,d2,d3,d4,e1,e2,e3,e4,e5⟩:=pF hl
 injection e1 with q1 e1;injection e1 with q2 e1;injection e1 with q3 e1;injection e1 with q4 _
 subst q1;subst q2;subst q3;subst q4
 exact ⟨m,es,a,k,c,sz,ss,j,e2,e3,e4,e5,h1⟩
theorem a06 {es:List Dt} {n:Nat} (h:n * 4≤es.length):n * 4≤eP (es.take (n * 4)):=by
 have:=H9 (l:=es.take (n * 4))
 rw [List.length_take] at this
 omega
theorem jY {ks:List Kd} {es:List Dt} {x y:SE} {d:Dt} {q:Kd} (hx:aO γ x=some (.ls ks es)) (hy:aO γ y=some d) (hq:ks[es.length % ks.length]? =some q) (hf:q.fits d):aO γ (.a2 .sn x y)=some (.ls ks (es++[d])):=by
 simp only [aO,hx,hy,Option.bind_some,Go.Proofs.YtjioppomopfifaaGreatDoor.Abs.e2]
 rw [if_pos ⟨q,hq,hf⟩]
theorem a7G {nm:String} {N M:Nat} {n e s i:SE} (h2:(Fact.rel nm false (pBack K T N M) [n,e,s,i]).holds γ) (h1:(Fact.tr (.a2 (.bin .geq) i (.int .i64 (.ofNat 0)))).holds γ) (h0:(Fact.rel "out" false CJ [i,.a1 .len s]).holds γ):False:=by
 obtain ⟨m,es,a,k,c,sz,ss,j,g1,g2,g3,g4, -, -, -, -,g5, -⟩:=rY h2
 have hj:=a0m h1 g4
 obtain ⟨l,hl,k1,q,m1,rfl,hn⟩:=h0
 obtain ⟨x,y,e1,e2',e3'⟩:=su hl
 injection e1 with e1 e4;injection e4 with e4 _
 subst e1;subst e4
 rw [g4] at e2'
 simp only [aO,g3,Option.bind_some,Go.Proofs.YtjioppomopfifaaGreatDoor.Abs.e1] at e3'
 have e2':=Option.some.inj e2'
 have e3':=Option.some.inj e3'
 injection e2' with e2';injection e2' with _ e2'
 injection e3' with e3';injection e3' with _ e3'
 apply hn
 simp only [Int.ofNat_eq_natCast] at hj
 omega
theorem a4v {nm:String} {N M bytes:Nat} (hM:M≤1073741824) (hb:bytes≤56) {n e s i:SE} (h2:(Fact.rel nm false (pBack K T N M) [n,e,s,i]).holds γ) (h0:(Fact.rel "grow" false (a5m 4 bytes 1) [e,n]).holds γ):False:=by
 obtain ⟨m,es,a,k,c,sz,ss,j,g1,g2,g3,g4,g5, -, -, -, -, -,g6⟩:=rY h2
 obtain ⟨l,hl,ks,es',q,rfl,hn⟩:=h0
 obtain ⟨x,y,e1,e2',e3'⟩:=su hl
 injection e1 with e1 e4;injection e4 with e4 _
 subst e1;subst e4
 rw [g2] at e2'
 rw [g1] at e3'
 have e2':=Option.some.inj e2'
 have e3':=Option.some.inj e3'
 injection e2' with _ e2'
 injection e3' with e3';injection e3' with _ e3'
 subst e2'
 have h4:=a06 g5
 have hq:q.toNat=m:=by rw [←e3'];rfl
 have hbm:(m+1) * bytes≤(m+1) * 56:=Nat.mul_le_mul_left _ hb
 apply hn
 rw [hq]
 refine ⟨by rw [←e3'];exact Int.natCast_nonneg m,g5,by omega,by omega⟩
theorem a4u {nm nm':String} {N M:Nat} (hK:K T=[.int .i64,.int .i64,.str,.sl T]) (hM:M≤1073741824) {n e s i:SE} (h2:(Fact.rel nm false (pBack K T (N+1) M) [n,e,s,i]).holds γ) (h1:(Fact.tr (.a2 (.bin .geq) i (.int .i64 (.ofNat 0)))).holds γ)
  (h0:(Fact.rel nm' true (pBack K T N M) [.a2 (.bin .add) n (.int .i64 (.ofNat 1)),.a2 .sn (.a2 .sn (.a2 .sn (.a2 .sn (.a2 (.tk 4) e n) (.a1 (.ld 0) (.a2 .el s i))) (.a1 (.ld 1) (.a2 .el s i))) (.a1 (.ld 2) (.a2 .el s i))) (.a1 (.ld 3) (.a2 .el s i)),s,.a2 (.bin .sub) i (.int .i64 (.ofNat 1))]).holds γ):False:=by
 obtain ⟨m,es,a,k,c,sz,ss,j,g1,g2,g3,g4,g5,g6,g7,g9,g10,g11,g12⟩:=rY h2
 have hj:0≤j:=a0m h1 g4
 obtain ⟨p,rfl⟩:=Int.eq_ofNat_of_zero_le hj
 have hp:p < k:=by omega
 have hl4:(K T).length=4:=by rw [hK];rfl
 obtain ⟨g7a,g8,g7c⟩:=g7
 obtain ⟨hsz,b,rfl⟩:=g7c (by omega)
 rw [hl4] at g7a hsz
 subst hsz
 obtain ⟨x,y,str,a',k',c',sz',ss',c0,c1,c2,c3,l1,l3⟩:=zH hK g8 (n:=p) (by omega)
 have h4:=a06 g5
 have hp1:((p:Int)+1).toNat=p+1:=by omega
 rw [hp1,l3] at g12
 have hel:aO γ (.a2 .el s i)=some (.pt (.pointer (some ⟨b.block,b.off+p * 4,none⟩)) T 4 ss (p * 4) 0):=by
  simp only [aO,g3,g4,Option.bind_some,Go.Proofs.YtjioppomopfifaaGreatDoor.Abs.e2]
  show (if p < k then _ else _)=_
  rw [if_pos hp]
 have hld:∀q,aO γ (.a1 (.ld q) (.a2 .el s i))=ss[p * 4+0+q]? :=fun q=>by
  show (aO γ (.a2 .el s i)).bind _=_
  rw [hel];rfl
 have htk:aO γ (.a2 (.tk 4) e n)=some (.ls (K T) (es.take (m * 4))):=by
  simp only [aO,g2,g1,Option.bind_some,Go.Proofs.YtjioppomopfifaaGreatDoor.Abs.e2]
  rw [if_pos g5]
 have hlen:(es.take (m * 4)).length=m * 4:=by rw [List.length_take];omega
 have k0:(K T)[0]? =some (.int .i64):=by rw [hK];rfl
 have k1:(K T)[1]? =some (.int .i64):=by rw [hK];rfl
 have k2:(K T)[2]? =some .str:=by rw [hK];rfl
 have k3:(K T)[3]? =some (.sl T):=by rw [hK];rfl
 have s0:=jY htk ((hld 0).trans c0) (q:=.int .i64) (by rw [hlen,hl4,Nat.mul_mod_left];exact k0) ⟨_,rfl⟩
 have s1:=jY s0 ((hld 1).trans c1) (q:=.int .i64) (by rw [List.length_append,hlen,hl4,List.length_singleton,Nat.mul_add_mod_of_lt (by omega)];exact k1) ⟨_,rfl⟩
 have s2:=jY s1 ((hld 2).trans c2) (q:=.str) (by rw [List.length_append,List.length_append,hlen,hl4,List.length_singleton,List.length_singleton,Nat.add_assoc,Nat.mul_add_mod_of_lt (by omega)];exact k2) ⟨_,rfl⟩
 have s3:=jY s2 ((hld 3).trans c3) (q:=.sl T) (by rw [List.length_append,List.length_append,List.length_append,hlen,hl4,List.length_singleton,List.length_singleton,List.length_singleton,Nat.add_assoc,Nat.add_assoc,Nat.mul_add_mod_of_lt (by omega)];exact k3) ⟨_,_,_,_,_,rfl⟩
 rw [List.append_assoc,List.append_assoc,List.append_assoc] at s3
 simp only [List.cons_append,List.nil_append] at s3
 have h5:(p+1) * 4≤eP (ss.take ((p+1) * 4)):=a06 (by omega)
 have hadd:aO γ (.a2 (.bin .add) n (.int .i64 (.ofNat 1)))=some (.val (.int .i64 (.ofNat (m+1)))):=zM (b:=1) g1 rfl (by simp only [Int.ofNat_eq_natCast];omega) (by simp only [Int.ofNat_eq_natCast];omega)
 have hsub:aO γ (.a2 (.bin .sub) i (.int .i64 (.ofNat 1)))=some (.val (.int .i64 ((p:Int) - 1))):=wY (b:=1) g4 rfl (by omega) (by omega)
 have hwn:Dt.Em K (K T) 0 (es.take (m * 4)++[.val (.int .i64 x),.val (.int .i64 y),.val (.string str),.sl (.slice a' k' c') T sz' ss']):=by
  refine Dt.Em.append (g6.take _) fun q d hd=> ?_
  rw [hlen,hl4,Nat.zero_add]
  have hw:=fun (q:Nat) d (hd:ss[p * 4+q]? =some d)=>(g8.get hd).2
  rcases q with _|_|_|_|q
  ·simp only [List.getElem?_cons_zero,Option.some.injEq] at hd
   subst hd
   exact ⟨⟨.int .i64,by rw [Nat.add_zero,Nat.mul_mod_left];exact k0,_,rfl⟩,hw 0 _ c0⟩
  ·simp only [List.getElem?_cons_succ,List.getElem?_cons_zero,Option.some.injEq] at hd
   subst hd
   exact ⟨⟨.int .i64,by rw [Nat.mul_add_mod_of_lt (by omega)];exact k1,_,rfl⟩,hw 1 _ c1⟩
  ·simp only [List.getElem?_cons_succ,List.getElem?_cons_zero,Option.some.injEq] at hd
   subst hd
   exact ⟨⟨.str,by rw [Nat.mul_add_mod_of_lt (by omega)];exact k2,_,rfl⟩,hw 2 _ c2⟩
  ·simp only [List.getElem?_cons_succ,List.getElem?_cons_zero,Option.some.injEq] at hd
   subst hd
   exact ⟨⟨.sl T,by rw [Nat.mul_add_mod_of_lt (by omega)];exact k3,_,_,_,_,_,rfl⟩,hw 3 _ c3⟩
  ·simp at hd
 refine h0 ⟨_,OI hadd s3 g3 hsub,m+1,_,_,k,c,4,ss,(p:Int) - 1,rfl, ?_,hwn,⟨by rw [hl4];exact g7a,g8,fun _=>⟨hl4.symm,b,rfl⟩⟩,by omega,by omega,by omega, ?_⟩
 ·rw [List.length_append,hlen];simp only [List.length_cons,List.length_nil];omega
 ·have e1:((p:Int) - 1+1).toNat=p:=by omega
  rw [e1,List.take_of_length_le (by rw [List.length_append,hlen];simp only [List.length_cons,List.length_nil];omega),iJ]
  simp only [eP,PV]
  omega
theorem a7H {nm nm':String} {N M:Nat} {n e s i:SE} (h2:(Fact.rel nm false (pBack K T N M) [n,e,s,i]).holds γ) (h0:(Fact.rel nm' true (dD K T M) [n,e]).holds γ):False:=by
 obtain ⟨m,es,a,k,c,sz,ss,j,g1,g2,g3,g4,g5,g6, -, -, -, -,g7⟩:=rY h2
 exact h0 ⟨_,sJ g1 g2,m,es,rfl,g5,g6,by omega⟩
theorem DZ {nm:String} {N:Nat} {n e:SE} (h2:(Fact.rel nm false (dD K T N) [n,e]).holds γ) (h1:(Fact.tr (.a2 (.bin .gtr) n (.int .i64 (.ofNat 0)))).holds γ) (hN:N≤1073741824):
  ∃(k:Nat) (es:List Dt),aO γ n=some (.val (.int .i64 (.ofNat (k+1))))∧aO γ e=some (.ls (K T) es)∧(k+1) * 4≤es.length∧Dt.Em K (K T) 0 es∧eP (es.take ((k+1) * 4)) < N∧aO γ (.a2 (.bin .sub) n (.int .i64 (.ofNat 1)))=some (.val (.int .i64 (.ofNat k))):=by
 obtain ⟨k,es,g1,g2,g3,g4,g5⟩:=y9 h2
 have hk:=a4E h1 g1
 have hl:=a06 g3
 simp only [Int.ofNat_eq_natCast] at hk
 obtain ⟨q,rfl⟩:∃q,k=q+1:=⟨k - 1,by omega⟩
 refine ⟨q,es,g1,g2,g3,g4,g5, ?_⟩
 rw [wY g1 rfl (by simp only [Int.ofNat_eq_natCast];omega) (by simp only [Int.ofNat_eq_natCast];omega)]
 congr 3
 simp only [Int.ofNat_eq_natCast];omega
theorem Ul {nm:String} {N:Nat} {n e:SE} (hN:N≤1073741824) (h2:(Fact.rel nm false (dD K T N) [n,e]).holds γ) (h1:(Fact.tr (.a2 (.bin .gtr) n (.int .i64 (.ofNat 0)))).holds γ) (h0:(Fact.rel "out" false CJ [.a2 (.bin .sub) n (.int .i64 (.ofNat 1)),n]).holds γ):False:=by
 obtain ⟨k,es,g1,g2,g3,g4,g5,g6⟩:=DZ h2 h1 hN
 obtain ⟨l,hl,k1,q,m1,rfl,hn⟩:=h0
 obtain ⟨x,y,e1,e2',e3'⟩:=su hl
 injection e1 with e1 e4;injection e4 with e4 _
 subst e1;subst e4
 rw [g6] at e2'
 rw [g1] at e3'
 have e2':=Option.some.inj e2'
 have e3':=Option.some.inj e3'
 injection e2' with e2';injection e2' with _ e2'
 injection e3' with e3';injection e3' with _ e3'
 apply hn
 simp only [Int.ofNat_eq_natCast] at e2' e3'
 omega
theorem Pg {nm:String} {N:Nat} {n e:SE} (hN:N≤1073741824) (h2:(Fact.rel nm false (dD K T N) [n,e]).holds γ) (h1:(Fact.tr (.a2 (.bin .gtr) n (.int .i64 (.ofNat 0)))).holds γ) (h0:(Fact.rel "hole" false (Pj 4) [e,.a2 (.bin .sub) n (.int .i64 (.ofNat 1))]).holds γ):False:=by
 obtain ⟨k,es,g1,g2,g3,g4,g5,g6⟩:=DZ h2 h1 hN
 obtain ⟨l,hl,ks,es',k1,q,rfl,hn⟩:=h0
 obtain ⟨x,y,e1,e2',e3'⟩:=su hl
 injection e1 with e1 e4;injection e4 with e4 _
 subst e1;subst e4
 rw [g2] at e2'
 rw [g6] at e3'
 have e2':=Option.some.inj e2'
 have e3':=Option.some.inj e3'
 injection e2' with _ e2'
 injection e3' with e3';injection e3' with _ e3'
 subst e2'
 apply hn
 have hq:q.toNat=k:=by rw [←e3'];rfl
 rw [hq]
 exact ⟨by rw [←e3'];exact Int.natCast_nonneg k,by omega⟩
theorem Um {nm:String} {N:Nat} {n e:SE} (hN:N≤1073741824) (h2:(Fact.rel nm false (dD K T N) [n,e]).holds γ) (h1:(Fact.tr (.a2 (.bin .gtr) n (.int .i64 (.ofNat 0)))).holds γ) (h0:(Fact.rel "cut" false a5n [.int .i64 (.ofNat 0),.a2 (.bin .sub) n (.int .i64 (.ofNat 1)),n]).holds γ):False:=by
 obtain ⟨k,es,g1,g2,g3,g4,g5,g6⟩:=DZ h2 h1 hN
 obtain ⟨l,hl,k1,q,k2,m1,q1,rfl,hn⟩:=h0
 have:=JC (show aO γ (.int .i64 (.ofNat 0))=some (.val (.int .i64 (.ofNat 0))) from rfl) g6 g1
 rw [this] at hl
 have hl:=Option.some.inj hl
 injection hl with a1 hl;injection hl with a2 hl;injection hl with a3 _
 injection a1 with a1;injection a1 with _ a1
 injection a2 with a2;injection a2 with _ a2
 injection a3 with a3;injection a3 with _ a3
 apply hn
 simp only [Int.ofNat_eq_natCast] at a1 a2 a3
 omega
theorem Ph {nm nm':String} {N NN:Nat} (hK:K T=[.int .i64,.int .i64,.str,.sl T]) (hN:N+1≤1073741824) (hNN:1073741824≤NN) {n e:SE} (h2:(Fact.rel nm false (dD K T (N+1)) [n,e]).holds γ) (h1:(Fact.tr (.a2 (.bin .gtr) n (.int .i64 (.ofNat 0)))).holds γ)
  (h0:(Fact.rel nm' true (pBack K T NN N) [.a2 (.bin .sub) n (.int .i64 (.ofNat 1)),e,.a2 (.at 4 3) e (.a2 (.bin .sub) n (.int .i64 (.ofNat 1))),.a2 (.bin .sub) (.a1 .len (.a2 (.at 4 3) e (.a2 (.bin .sub) n (.int .i64 (.ofNat 1))))) (.int .i64 (.ofNat 1))]).holds γ):False:=by
 obtain ⟨k,es,g1,g2,g3,g4,g5,g6⟩:=DZ h2 h1 hN
 have hl4:(K T).length=4:=by rw [hK];rfl
 obtain ⟨x,y,str,a',k',c',sz',ss',c0,c1,c2,c3,l1,l3⟩:=zH hK g4 (n:=k) (by omega)
 rw [l3] at g5
 have hat:aO γ (.a2 (.at 4 3) e (.a2 (.bin .sub) n (.int .i64 (.ofNat 1))))=some (.sl (.slice a' k' c') T sz' ss'):=by
  show (aO γ e).bind (fun u=>(aO γ (.a2 (.bin .sub) n (.int .i64 (.ofNat 1)))).bind (Go.Proofs.YtjioppomopfifaaGreatDoor.Abs.e2 (.at 4 3) u))=_
  rw [g2,g6]
  exact c3
 have hlen:aO γ (.a1 .len (.a2 (.at 4 3) e (.a2 (.bin .sub) n (.int .i64 (.ofNat 1)))))=some (.val (.int .i64 k')):=by
  show (aO γ (.a2 (.at 4 3) e (.a2 (.bin .sub) n (.int .i64 (.ofNat 1))))).bind _=_
  rw [hat];rfl
 have hk':ss'.length=k' * 4:=by have:=l1.1;rwa [hl4] at this
 have hml:=H9 (l:=ss')
 have hsub:=wY hlen (show aO γ (.int .i64 (.ofNat 1))=some (.val (.int .i64 (.ofNat 1))) from rfl) (by simp only [Int.ofNat_eq_natCast];omega) (by simp only [Int.ofNat_eq_natCast];omega)
 refine h0 ⟨_,OI g6 g2 hat hsub,k,es,a',k',c',sz',ss',_,rfl,by omega,g4,l1, ?_, ?_, ?_, ?_⟩
 ·simp only [Int.ofNat_eq_natCast];omega
 ·simp only [Int.ofNat_eq_natCast];omega
 ·simp only [Int.ofNat_eq_natCast];omega
 ·have e1:((k':Int) - Int.ofNat 1+1).toNat=k':=by simp only [Int.ofNat_eq_natCast];omega
  have e2:ss'.take (k' * 4)=ss':=List.take_of_length_le (by omega)
  rw [e1,e2]
  omega
theorem MC {nm nm':String} {B:Nat} (hK:K T=[.int .i64,.int .i64,.str,.sl T]) {x y z t:SE} (h1:(Fact.rel nm false (aj K T B) [x,y,z,t]).holds γ)
  (h0:(Fact.rel nm' true (dD K T B) [.int .i64 (.ofNat 1),.a2 .sn (.a2 .sn (.a2 .sn (.a2 .sn (.a1 (.nl [.int .i64,.int .i64,.str,.sl T]) (.bool true)) x) y) z) t]).holds γ):False:=by
 obtain ⟨l,hl, -,h2,h3⟩:=h1
 obtain ⟨a,b,c,d,rfl,e1,e2',e3',e4⟩:=pF hl
 have hl4:(K T).length=4:=by rw [hK];rfl
 have hnl:aO γ (.a1 (.nl [.int .i64,.int .i64,.str,.sl T]) (.bool true))=some (.ls (K T) []):=by rw [hK];rfl
 have kd:∀(q:Nat) d',q < 4→([a,b,c,d]:List Dt)[q]? =some d'→∃k,(K T)[q]? =some k∧k.fits d':=by
  intro q d' hq hd
  have:=(h2.get hd).1
  rwa [Nat.zero_add,hl4,Nat.mod_eq_of_lt hq] at this
 obtain ⟨k0,q0,f0⟩:=kd 0 a (by omega) rfl
 obtain ⟨k1,q1,f1⟩:=kd 1 b (by omega) rfl
 obtain ⟨k2,q2,f2⟩:=kd 2 c (by omega) rfl
 obtain ⟨k3,q3,f3⟩:=kd 3 d (by omega) rfl
 have s0:=jY hnl e1 (q:=k0) (by rw [hl4];exact q0) f0
 have s1:=jY s0 e2' (q:=k1) (by rw [hl4];exact q1) f1
 have s2:=jY s1 e3' (q:=k2) (by rw [hl4];exact q2) f2
 have s3:=jY s2 e4 (q:=k3) (by rw [hl4];exact q3) f3
 exact h0 ⟨_,sJ rfl s3,1,[a,b,c,d],rfl,by simp,h2,by
  rw [List.take_of_length_le (by simp)];exact h3⟩
end
theorem gW {F:Nat→Fact} {rows pats:List (List Nat)} (hp:∀p∈pats,∀γ:G,(∀i∈p,(F i).holds γ)→False)
  (h:(rows.all fun r=>pats.any fun p=>p.all fun i=>r.contains i)=true):lY (rows.map fun r=>r.map F):=by
 rintro pc hpc ⟨γ,hf⟩
 obtain ⟨r,hr,rfl⟩:=List.mem_map.1 hpc
 obtain ⟨p,hp1,hp2⟩:=List.any_eq_true.1 (List.all_eq_true.1 h r hr)
 exact hp p hp1 γ fun i hi=>hf _ (List.mem_map.2 ⟨i,by simpa using List.all_eq_true.1 hp2 i hi,rfl⟩)
theorem oQ {P:Program} {c:nK} (h:∀γ:G,(∀f∈c.facts,f.holds γ)→False):bM P c:=fun _ γ _ _ _ _ _ _ hfr=>(h γ fun f hf=>(hfr.rel.pc f hf).2).elim
end Go.Proofs.YtjioppomopfifaaGreatDoor.Abs
namespace Go.Proofs.YtjioppomopfifaaGreatDoor.Abs
open Go
end Go.Proofs.YtjioppomopfifaaGreatDoor.Abs
namespace Go.Proofs.YtjioppomopfifaaGreatDoor.Abs
open Go
mutual
inductive Alike:Dt→Dt→Prop
 |val (v:Value):Alike (.val v) (.val v)
 |sl (a a':Option Addr) (n c c':Nat) (t t':TypeId) (sz sz':Nat) (es es':List Dt):jE es es'→Alike (.sl (.slice a n c) t sz es) (.sl (.slice a' n c') t' sz' es')
inductive jE:List Dt→List Dt→Prop
 |nil:jE [] []
 |cons (x y:Dt) (l m:List Dt):Alike x y→jE l m→jE (x::l) (y::m)
end
theorem jE.append:∀{a b c d:List Dt},jE a b→jE c d→jE (a++c) (b++d)
 |_,_,_,_,.nil,h=>h
 |_,_,_,_,.cons _ _ _ _ h1 h2,h=>.cons _ _ _ _ h1 (h2.append h)
theorem jE.length:∀{a b:List Dt},jE a b→a.length=b.length
 |_,_,.nil=>rfl
 |_,_,.cons _ _ _ _ _ h=>by simp only [List.length_cons,h.length]
theorem jE.take:∀{a b:List Dt} {n:Nat},jE a b→jE (a.take n) (b.take n)
 |_,_,0,_=>by simp only [List.take_zero];exact .nil
 |_,_,_+1,.nil=>.nil
 |_,_,n+1,.cons x y l m h1 h2=>.cons _ _ _ _ h1 (h2.take (n:=n))
section
variable (K:TypeId→List Kd) (T:TypeId)
def pSl (N M:Nat) (l:List Dt):Prop:=∃(a:Option Addr) (k c sz:Nat) (ss:List Dt) (i:Int),l=[.sl (.slice a k c) T sz ss,.val (.int .i64 i)]∧BF K T a k sz ss∧eP ss < N∧0≤i∧i≤k∧(k:Int) - i < M
def jI (N M:Nat) (l:List Dt):Prop:=∃(a:Option Addr) (k c sz:Nat) (ss es:List Dt) (i:Int),l=[.sl (.slice a k c) T sz ss,.ls (K T) es,.val (.int .i64 (.ofNat k)),.val (.int .i64 i)]∧
 BF K T a k sz ss∧eP ss < N∧0≤i∧i≤k∧(k:Int) - i < M∧es.length=k * 4∧Dt.Em K (K T) 0 es∧eP (es.take (i.toNat * 4))≤eP (ss.take (i.toNat * 4))∧jE (ss.take (i.toNat * 4)) (es.take (i.toNat * 4))
def bU (l:List Dt):Prop:=∃(d:Dt) (a:Option Addr) (k c sz:Nat) (ss:List Dt),l=[d,.sl (.slice a k c) T sz ss]∧(Dt.sl (.slice a k c) T sz ss).wf K∧eP ss+1≤PV d∧Alike d (.sl (.slice a k c) T sz ss)
end
section
variable {K:TypeId→List Kd} {T:TypeId} {γ:G}
theorem a8j {nm:String} {N M:Nat} {s i:SE} (h:(Fact.rel nm false (pSl K T N M) [s,i]).holds γ):∃(a:Option Addr) (k c sz:Nat) (ss:List Dt) (j:Int),
  aO γ s=some (.sl (.slice a k c) T sz ss)∧aO γ i=some (.val (.int .i64 j))∧BF K T a k sz ss∧eP ss < N∧0≤j∧j≤k∧(k:Int) - j < M:=by
 obtain ⟨l,hl,a,k,c,sz,ss,j,rfl,h1⟩:=h
 obtain ⟨d1,d2,e1,e2,e3⟩:=su hl
 injection e1 with q1 e1;injection e1 with q2 _
 subst q1;subst q2
 exact ⟨a,k,c,sz,ss,j,e2,e3,h1⟩
theorem oO {nm:String} {N M:Nat} {s x n i:SE} (h:(Fact.rel nm false (jI K T N M) [s,x,n,i]).holds γ):∃(a:Option Addr) (k c sz:Nat) (ss es:List Dt) (j:Int),
  aO γ s=some (.sl (.slice a k c) T sz ss)∧aO γ x=some (.ls (K T) es)∧aO γ n=some (.val (.int .i64 (.ofNat k)))∧aO γ i=some (.val (.int .i64 j))∧
  BF K T a k sz ss∧eP ss < N∧0≤j∧j≤k∧(k:Int) - j < M∧es.length=k * 4∧Dt.Em K (K T) 0 es∧eP (es.take (j.toNat * 4))≤eP (ss.take (j.toNat * 4))∧jE (ss.take (j.toNat * 4)) (es.take (j.toNat * 4)):=by
 obtain ⟨l,hl,a,k,c,sz,ss,es,j,rfl,h1⟩:=h
 obtain ⟨d1,d2,d3,d4,e1,e2,e3,e4,e5⟩:=pF hl
 injection e1 with q1 e1;injection e1 with q2 e1;injection e1 with q3 e1;injection e1 with q4 _
 subst q1;subst q2;subst q3;subst q4
 exact ⟨a,k,c,sz,ss,es,j,e2,e3,e4,e5,h1⟩
theorem kC {s:SE} {a:Option Addr} {k c sz:Nat} {t:TypeId} {ss:List Dt} (h:aO γ s=some (.sl (.slice a k c) t sz ss)):aO γ (.a1 .len s)=some (.val (.int .i64 k)):=by
 show (aO γ s).bind _=_
 rw [h];rfl
theorem yj {x y:SE} {a b:Int} (h:(Fact.tr (.a2 (.bin .lss) x y)).holds γ) (hx:aO γ x=some (.val (.int .i64 a))) (hy:aO γ y=some (.val (.int .i64 b))):a < b:=by
 have h:aO γ _=_:=h
 rw [uI (b:=b) rfl hx hy] at h
 have h:=Option.some.inj h
 injection h with h;injection h with h
 exact of_decide_eq_true h
theorem a1o {x y:SE} {a b:Int} (h:(Fact.fl (.a2 (.bin .lss) x y)).holds γ) (hx:aO γ x=some (.val (.int .i64 a))) (hy:aO γ y=some (.val (.int .i64 b))):b≤a:=by
 have h:aO γ _=_:=h
 rw [uI (b:=b) rfl hx hy] at h
 have h:=Option.some.inj h
 injection h with h;injection h with h
 have:=of_decide_eq_false h
 omega
theorem a0L {nm:String} {i n:SE} {j m:Int} (hi:aO γ i=some (.val (.int .i64 j))) (hn:aO γ n=some (.val (.int .i64 m))) (h1:0≤j) (h2:j < m) (h:(Fact.rel nm false CJ [i,n]).holds γ):False:=by
 obtain ⟨l,hl,k1,q,m1,rfl,hno⟩:=h
 obtain ⟨x,y,e1,e2,e3⟩:=su hl
 injection e1 with q1 e1;injection e1 with q2 _
 subst q1;subst q2
 rw [hi] at e2
 rw [hn] at e3
 have e2:=Option.some.inj e2
 have e3:=Option.some.inj e3
 injection e2 with e2;injection e2 with _ e2
 injection e3 with e3;injection e3 with _ e3
 exact hno ⟨by omega,by omega⟩
theorem wF (hK:K T=[.int .i64,.int .i64,.str,.sl T]) {s i:SE} {a:Option Addr} {k c sz p:Nat} {ss:List Dt} (hs:aO γ s=some (.sl (.slice a k c) T sz ss)) (hi:aO γ i=some (.val (.int .i64 (p:Int)))) (hsl:BF K T a k sz ss) (hp:p < k):
  ∃(x y:Int) (str:ByteArray) (a':Option Addr) (k' c' sz':Nat) (ss':List Dt),aO γ (.a1 (.ld 0) (.a2 .el s i))=some (.val (.int .i64 x))∧aO γ (.a1 (.ld 1) (.a2 .el s i))=some (.val (.int .i64 y))∧aO γ (.a1 (.ld 2) (.a2 .el s i))=some (.val (.string str))∧
   aO γ (.a1 (.ld 3) (.a2 .el s i))=some (.sl (.slice a' k' c') T sz' ss')∧BF K T a' k' sz' ss'∧Dt.Em K (K T) 0 [.val (.int .i64 x),.val (.int .i64 y),.val (.string str),.sl (.slice a' k' c') T sz' ss']∧
   eP (ss.take ((p+1) * 4))=eP (ss.take (p * 4))+4+eP ss'∧ss.length=k * 4:=by
 have hl4:(K T).length=4:=by rw [hK];rfl
 obtain ⟨g7a,g8,g7c⟩:=hsl
 obtain ⟨hsz,b,rfl⟩:=g7c (by omega)
 rw [hl4] at g7a hsz
 subst hsz
 obtain ⟨x,y,str,a',k',c',sz',ss',c0,c1,c2,c3,l1,l3⟩:=zH hK g8 (n:=p) (by omega)
 have hel:aO γ (.a2 .el s i)=some (.pt (.pointer (some ⟨b.block,b.off+p * 4,none⟩)) T 4 ss (p * 4) 0):=by
  simp only [aO,hs,hi,Option.bind_some,Go.Proofs.YtjioppomopfifaaGreatDoor.Abs.e2]
  show (if p < k then _ else _)=_
  rw [if_pos hp]
 have hld:∀q,aO γ (.a1 (.ld q) (.a2 .el s i))=ss[p * 4+0+q]? :=fun q=>by
  show (aO γ (.a2 .el s i)).bind _=_
  rw [hel];rfl
 have key:∀(q:Nat) d,q < 4→ss[p * 4+q]? =some d→(∃k,(K T)[(0+q) % (K T).length]? =some k∧k.fits d)∧d.wf K:=fun q d hq h'=>by
  have:=g8.get h'
  rw [hl4,Nat.zero_add,Nat.mul_comm p 4,Nat.mul_add_mod] at this
  rw [hl4,Nat.zero_add]
  exact this
 refine ⟨x,y,str,a',k',c',sz',ss',(hld 0).trans c0,(hld 1).trans c1,(hld 2).trans c2,(hld 3).trans c3,l1,.mk fun q d hd=> ?_,l3,g7a⟩
 rcases q with _|_|_|_|q
 ·simp only [List.getElem?_cons_zero,Option.some.injEq] at hd
  subst hd
  exact key 0 _ (by omega) c0
 ·simp only [List.getElem?_cons_succ,List.getElem?_cons_zero,Option.some.injEq] at hd
  subst hd
  exact key 1 _ (by omega) c1
 ·simp only [List.getElem?_cons_succ,List.getElem?_cons_zero,Option.some.injEq] at hd
  subst hd
  exact key 2 _ (by omega) c2
 ·simp only [List.getElem?_cons_succ,List.getElem?_cons_zero,Option.some.injEq] at hd
  subst hd
  exact key 3 _ (by omega) c3
 ·simp at hd
theorem a9S (hK:K T=[.int .i64,.int .i64,.str,.sl T]) {s i:SE} {a:Option Addr} {k c sz p:Nat} {ss:List Dt} (hs:aO γ s=some (.sl (.slice a k c) T sz ss)) (hi:aO γ i=some (.val (.int .i64 (p:Int)))) (hsl:BF K T a k sz ss) (hp:p < k) (q:Nat):
  aO γ (.a1 (.ld q) (.a2 .el s i))=ss[p * 4+q]? :=by
 have hl4:(K T).length=4:=by rw [hK];rfl
 obtain ⟨g7a,g8,g7c⟩:=hsl
 obtain ⟨hsz,b,rfl⟩:=g7c (by omega)
 rw [hl4] at g7a hsz
 subst hsz
 have hel:aO γ (.a2 .el s i)=some (.pt (.pointer (some ⟨b.block,b.off+p * 4,none⟩)) T 4 ss (p * 4) 0):=by
  simp only [aO,hs,hi,Option.bind_some,Go.Proofs.YtjioppomopfifaaGreatDoor.Abs.e2]
  show (if p < k then _ else _)=_
  rw [if_pos hp]
 show (aO γ (.a2 .el s i)).bind _=_
 rw [hel];rfl
theorem UN (hK:K T=[.int .i64,.int .i64,.str,.sl T]) {s i:SE} {a:Option Addr} {k c sz p:Nat} {ss:List Dt} (hs:aO γ s=some (.sl (.slice a k c) T sz ss)) (hi:aO γ i=some (.val (.int .i64 (p:Int)))) (hsl:BF K T a k sz ss) (hp:p < k) {d0 d1 d2 d3:Dt}
  (h0:aO γ (.a1 (.ld 0) (.a2 .el s i))=some d0) (h1:aO γ (.a1 (.ld 1) (.a2 .el s i))=some d1) (h2:aO γ (.a1 (.ld 2) (.a2 .el s i))=some d2) (h3:aO γ (.a1 (.ld 3) (.a2 .el s i))=some d3):ss.take ((p+1) * 4)=ss.take (p * 4)++[d0,d1,d2,d3]:=by
 rw [a9S hK hs hi hsl hp] at h0 h1 h2 h3
 obtain ⟨hlt, -⟩:=List.getElem?_eq_some_iff.1 h3
 obtain ⟨u0,u1,u2,u3,q0,q1,q2,q3,qt⟩:=DR (l:=ss) (n:=p) (by omega)
 have h0':ss[p * 4]? =some d0:=h0
 rw [h0'] at q0;rw [h1] at q1;rw [h2] at q2;rw [h3] at q3
 rw [qt,Option.some.inj q0,Option.some.inj q1,Option.some.inj q2,Option.some.inj q3]
theorem BN (hK:K T=[.int .i64,.int .i64,.str,.sl T]) {a:Option Addr} {k sz:Nat} {ss:List Dt} (h:BF K T a k sz ss):k * 4≤eP ss:=by
 have hl4:(K T).length=4:=by rw [hK];rfl
 have:=h.1
 rw [hl4] at this
 have:=H9 (l:=ss)
 omega
theorem a8k {nm nm':String} {N M:Nat} (hK:K T=[.int .i64,.int .i64,.str,.sl T]) {s i:SE} (h2:(Fact.rel nm false (pSl K T N M) [s,i]).holds γ) (h1:(Fact.tr (.a2 (.bin .lss) i (.a1 .len s))).holds γ)
  (h0:(Fact.rel nm' true (aj K T N) [.a1 (.ld 0) (.a2 .el s i),.a1 (.ld 1) (.a2 .el s i),.a1 (.ld 2) (.a2 .el s i),.a1 (.ld 3) (.a2 .el s i)]).holds γ):False:=by
 obtain ⟨a,k,c,sz,ss,j,g1,g2,g3,g4,g5,g6,g7⟩:=a8j h2
 have hj:=yj h1 g2 (kC g1)
 obtain ⟨p,rfl⟩:=Int.eq_ofNat_of_zero_le g5
 obtain ⟨x,y,str,a',k',c',sz',ss',c0,c1,c2,c3,l1,l2,l3,l4⟩:=wF hK g1 g2 g3 (by omega)
 have h5:=vX (l:=ss) (a:=(p+1) * 4) (b:=k * 4) (by omega)
 rw [List.take_of_length_le (show ss.length≤k * 4 by omega)] at h5
 exact h0 ⟨_,OI c0 c1 c2 c3,rfl,l2,by simp only [eP,PV];omega⟩
theorem vI {nm:String} {B:Nat} (hK:K T=[.int .i64,.int .i64,.str,.sl T]) {x y z t:SE} (h1:(Fact.rel nm false (aj K T B) [x,y,z,t]).holds γ):
  ∃(a:Option Addr) (k c sz:Nat) (ss:List Dt),aO γ t=some (.sl (.slice a k c) T sz ss)∧BF K T a k sz ss∧eP ss+4 < B:=by
 obtain ⟨l,hl, -,h2,h3⟩:=h1
 obtain ⟨a,b,c,d,rfl,e1,e2',e3',e4⟩:=pF hl
 have hl4:(K T).length=4:=by rw [hK];rfl
 have kd:=h2.get (i:=3) (d:=d) rfl
 rw [Nat.zero_add,hl4,hK] at kd
 obtain ⟨⟨q,q1,q2⟩,q3⟩:=kd
 have q1:Kd.sl T=q:=by simpa using q1
 subst q1
 obtain ⟨a',n,c',sz,es,rfl,g⟩:=Oz q2 q3
 refine ⟨a',n,c',sz,es,e4,g, ?_⟩
 have:=N7 a;have:=N7 b;have:=N7 c
 simp only [eP,PV] at h3
 omega
theorem a3g {nm:String} {B bytes:Nat} (hK:K T=[.int .i64,.int .i64,.str,.sl T]) (hB:B≤1073741824) (hb:bytes≤56) {x y z t:SE} (h1:(Fact.rel nm false (aj K T B) [x,y,z,t]).holds γ) (h0:(Fact.rel "make" false (a5l bytes) [.a1 .len t]).holds γ):False:=by
 obtain ⟨a,k,c,sz,ss,g1,g2,g3⟩:=vI hK h1
 have hk:=BN hK g2
 obtain ⟨l,hl,k1,n,rfl,hno⟩:=h0
 have hl2:=RY (kC g1)
 rw [hl2] at hl
 have hl:=Option.some.inj hl
 injection hl with hl _;injection hl with hl;injection hl with _ hl
 subst hl
 have:k * bytes≤k * 56:=Nat.mul_le_mul_left _ hb
 exact hno ⟨by omega,by rw [Int.toNat_natCast];omega,by omega⟩
theorem a4B {ks:List Kd} {RJ:List Nat} (hz:ks.all BI=true) (n:Nat):Dt.Em K ks 0 (OW (iT ks RJ) n):=by
 refine .mk fun i d hi=> ?_
 have hlt:i < n * (iT ks RJ).length:=by rw [←yT];exact (List.getElem?_eq_some_iff.1 hi).1
 rw [GN _ _ _ hlt,rD] at hi
 obtain ⟨k,m,h1,rfl⟩:=zD ks RJ _ d hi
 refine ⟨⟨k,by rw [Nat.zero_add];exact h1,KD k m ?_⟩, ?_⟩
 ·exact List.all_eq_true.1 hz k (List.mem_of_getElem? h1)
 ·cases k<;>first|rfl|exact .inl ⟨rfl,rfl⟩
theorem a3h {nm nm':String} {N:Nat} (hK:K T=[.int .i64,.int .i64,.str,.sl T]) {x y z t:SE} {RJ:List Nat} (h1:(Fact.rel nm false (aj K T (N+1)) [x,y,z,t]).holds γ)
  (h0:(Fact.rel nm' true (jI K T N (N+1)) [t,.a1 (.zs [.int .i64,.int .i64,.str,.sl T] RJ) (.a1 .len t),.a1 .len t,.int .i64 (.ofNat 0)]).holds γ):False:=by
 obtain ⟨a,k,c,sz,ss,g1,g2,g3⟩:=vI hK h1
 have hk:=BN hK g2
 have hz:(K T).all BI=true:=by rw [hK];rfl
 have hx:aO γ (.a1 (.zs [.int .i64,.int .i64,.str,.sl T] RJ) (.a1 .len t))=some (.ls (K T) (OW (iT (K T) RJ) k)):=by
  show (aO γ (.a1 .len t)).bind _=_
  rw [kC g1,←hK]
  show (if (K T).all BI=true then _ else _)=_
  rw [if_pos hz]
 refine h0 ⟨_,OI g1 hx (kC g1) rfl,a,k,c,sz,ss,_,0,rfl,g2,by omega,by omega,by omega,by omega, ?_,a4B hz k,by simp [eP],by simp only [Int.toNat_zero,Nat.zero_mul,List.take_zero];exact .nil⟩
 rw [yT,rD,hK];rfl
theorem a7t {nm:String} {N M:Nat} {s x n i:SE} (h2:(Fact.rel nm false (jI K T N M) [s,x,n,i]).holds γ) (h1:(Fact.tr (.a2 (.bin .lss) i (.a1 .len s))).holds γ) (h0:(Fact.rel "out" false CJ [i,.a1 .len s]).holds γ):False:=by
 obtain ⟨a,k,c,sz,ss,es,j,g1,g2,g3,g4,g5,g6,g7,g8,g9, -⟩:=oO h2
 exact a0L g4 (kC g1) g7 (yj h1 g4 (kC g1)) h0
theorem a4i {nm:String} {N M:Nat} {s x n i:SE} (h2:(Fact.rel nm false (jI K T N M) [s,x,n,i]).holds γ) (h1:(Fact.tr (.a2 (.bin .lss) i (.a1 .len s))).holds γ) (h0:(Fact.rel "out" false CJ [i,n]).holds γ):False:=by
 obtain ⟨a,k,c,sz,ss,es,j,g1,g2,g3,g4,g5,g6,g7,g8,g9, -⟩:=oO h2
 exact a0L g4 g3 g7 (yj h1 g4 (kC g1)) h0
theorem a4l {nm:String} {N M:Nat} {s x n i:SE} (h2:(Fact.rel nm false (jI K T N M) [s,x,n,i]).holds γ) (h1:(Fact.tr (.a2 (.bin .lss) i (.a1 .len s))).holds γ) (h0:(Fact.rel "hole" false (Pj 4) [x,i]).holds γ):False:=by
 obtain ⟨a,k,c,sz,ss,es,j,g1,g2,g3,g4,g5,g6,g7,g8,g9,g10, -⟩:=oO h2
 have hj:=yj h1 g4 (kC g1)
 obtain ⟨l,hl,ks,es',k1,q,rfl,hno⟩:=h0
 have hl2:=sJ g2 g4
 rw [hl2] at hl
 have hl:=Option.some.inj hl
 injection hl with a1 hl;injection hl with a2 _
 injection a1 with _ a1
 injection a2 with a2;injection a2 with _ a2
 subst a1;subst a2
 exact hno ⟨g7,by omega⟩
theorem a4g {nm nm':String} {N M:Nat} (hK:K T=[.int .i64,.int .i64,.str,.sl T]) {s x n i:SE} (h2:(Fact.rel nm false (jI K T N M) [s,x,n,i]).holds γ) (h1:(Fact.tr (.a2 (.bin .lss) i (.a1 .len s))).holds γ)
  (h0:(Fact.rel nm' true (aj K T N) [.a1 (.ld 0) (.a2 .el s i),.a1 (.ld 1) (.a2 .el s i),.a1 (.ld 2) (.a2 .el s i),.a1 (.ld 3) (.a2 .el s i)]).holds γ):False:=by
 obtain ⟨a,k,c,sz,ss,es,j,g1,g2,g3,g4,g5,g6,g7,g8,g9, -⟩:=oO h2
 have hj:=yj h1 g4 (kC g1)
 obtain ⟨p,rfl⟩:=Int.eq_ofNat_of_zero_le g7
 obtain ⟨x',y,str,a',k',c',sz',ss',c0,c1,c2,c3,l1,l2,l3,l4⟩:=wF hK g1 g4 g5 (by omega)
 have h5:=vX (l:=ss) (a:=(p+1) * 4) (b:=k * 4) (by omega)
 rw [List.take_of_length_le (show ss.length≤k * 4 by omega)] at h5
 exact h0 ⟨_,OI c0 c1 c2 c3,rfl,l2,by simp only [eP,PV];omega⟩
theorem NQ {ks:List Kd} {es:List Dt} {x i y:SE} {d:Dt} {kd:IntKind} {p sz q:Nat} {kq:Kd} (hx:aO γ x=some (.ls ks es)) (hi:aO γ i=some (.val (.int kd (.ofNat p)))) (hy:aO γ y=some d) (hl:ks.length=sz) (hq:q < sz) (h:p * sz+sz≤es.length) (hk:ks[q]? =some kq) (hf:kq.fits d):
  aO γ (.a3 (.up sz q) x i y)=some (.ls ks (es.set (p * sz+q) d)):=by
 simp only [aO,hx,hi,hy,Option.bind_some,Go.Proofs.YtjioppomopfifaaGreatDoor.Abs.e3]
 rw [if_pos ⟨by omega,kq,by rw [hl,Nat.mul_comm,Nat.mul_add_mod,Nat.mod_eq_of_lt hq];exact hk,hf⟩]
theorem a4h {nm nm':String} {N M:Nat} (hK:K T=[.int .i64,.int .i64,.str,.sl T]) (hN:N≤1073741824) {s x n i v:SE} {dv:Dt} (h2:(Fact.rel nm false (jI K T N (M+1)) [s,x,n,i]).holds γ) (h1:(Fact.tr (.a2 (.bin .lss) i (.a1 .len s))).holds γ)
  (hv:aO γ v=some dv) (hf:(Kd.sl T).fits dv) (hw:dv.wf K) (hm:∀d,aO γ (.a1 (.ld 3) (.a2 .el s i))=some d→PV dv≤PV d∧Alike d dv)
  (h0:(Fact.rel nm' true (jI K T N M) [s,.a3 (.up 4 3) (.a3 (.up 4 2) (.a3 (.up 4 1) (.a3 (.up 4 0) x i (.a1 (.ld 0) (.a2 .el s i))) i (.a1 (.ld 1) (.a2 .el s i))) i (.a1 (.ld 2) (.a2 .el s i))) i v,n,.a2 (.bin .add) i (.int .i64 (.ofNat 1))]).holds γ):False:=by
 obtain ⟨a,k,c,sz,ss,es,j,g1,g2,g3,g4,g5,g6,g7,g8,g9,g10,g11,g12,g13⟩:=oO h2
 have hj:=yj h1 g4 (kC g1)
 obtain ⟨p,rfl⟩:=Int.eq_ofNat_of_zero_le g7
 have hp:p < k:=by omega
 have hk:=BN hK g5
 have hl4:(K T).length=4:=by rw [hK];rfl
 obtain ⟨x',y,str,a',k',c',sz',ss',c0,c1,c2,c3,l1,l2,l3,l4⟩:=wF hK g1 g4 g5 hp
 obtain ⟨hmv,hsame⟩:=hm _ c3
 simp only [PV] at hmv
 have k0:(K T)[0]? =some (.int .i64):=by rw [hK];rfl
 have k1:(K T)[1]? =some (.int .i64):=by rw [hK];rfl
 have k2:(K T)[2]? =some .str:=by rw [hK];rfl
 have k3:(K T)[3]? =some (.sl T):=by rw [hK];rfl
 have s0:=NQ g2 g4 c0 hl4 (by omega:0 < 4) (by omega) k0 ⟨_,rfl⟩
 have s1:=NQ s0 g4 c1 hl4 (by omega:1 < 4) (by rw [List.length_set];omega) k1 ⟨_,rfl⟩
 have s2:=NQ s1 g4 c2 hl4 (by omega:2 < 4) (by rw [List.length_set,List.length_set];omega) k2 ⟨_,rfl⟩
 have s3:=NQ s2 g4 hv hl4 (by omega:3 < 4) (by rw [List.length_set,List.length_set,List.length_set];omega) k3 hf
 have hadd:=zM (γ:=γ) (b:=1) g4 (show aO γ (.int .i64 (.ofNat 1))=_ from rfl) (by omega) (by omega)
 have hset:∀(q:Nat) (l:List Dt) d,Dt.Em K (K T) 0 l→q < 4→(∃kd,(K T)[q]? =some kd∧kd.fits d)→d.wf K→Dt.Em K (K T) 0 (l.set (p * 4+q) d):=by
  intro q l d hl hq hkd hd
  refine .mk fun m u hu=> ?_
  rw [List.getElem?_set] at hu
  split at hu
  ·next e=>
   subst e
   split at hu
   ·obtain rfl:=Option.some.inj hu
    refine ⟨?_,hd⟩
    rw [hl4,Nat.zero_add,Nat.mul_comm,Nat.mul_add_mod,Nat.mod_eq_of_lt hq]
    exact hkd
   ·cases hu
  ·exact hl.get hu
 have w0:=hset 0 es _ g11 (by omega) ⟨_,k0,⟨x',rfl⟩⟩ rfl
 have w1:=hset 1 _ _ w0 (by omega) ⟨_,k1,⟨y,rfl⟩⟩ rfl
 have w2:=hset 2 _ _ w1 (by omega) ⟨_,k2,⟨str,rfl⟩⟩ rfl
 have w3:=hset 3 _ _ w2 (by omega) ⟨_,k3,hf⟩ hw
 have e1:((p:Int)+1).toNat=p+1:=by omega
 have e2:((p:Int)).toNat=p:=by omega
 rw [e2] at g12 g13
 obtain ⟨d0,d1,d2,d3,q0,q1,q2,q3,qt⟩:=DR (l:=(((es.set (p * 4+0) (.val (.int .i64 x'))).set (p * 4+1) (.val (.int .i64 y))).set (p * 4+2) (.val (.string str))).set (p * 4+3) dv) (n:=p) (by simp only [List.length_set];omega)
 have hlen:p * 4+3 < es.length:=by omega
 have t0:(((((es.set (p * 4+0) (.val (.int .i64 x'))).set (p * 4+1) (.val (.int .i64 y))).set (p * 4+2) (.val (.string str))).set (p * 4+3) dv)).take (p * 4)=es.take (p * 4):=by
  simp only [List.take_set]
  rw [List.set_eq_of_length_le (by simp only [List.length_set,List.length_take];omega),List.set_eq_of_length_le (by simp only [List.length_set,List.length_take];omega),List.set_eq_of_length_le (by simp only [List.length_set,List.length_take];omega),List.set_eq_of_length_le (by simp only [List.length_take];omega)]
 have r0:d0=.val (.int .i64 x'):=by
  have:=q0
  simp only [List.getElem?_set] at this
  simp at this
  exact this.2.symm
 have r1:d1=.val (.int .i64 y):=by
  have:=q1
  simp only [List.getElem?_set] at this
  simp at this
  exact this.2.symm
 have r2:d2=.val (.string str):=by
  have:=q2
  simp only [List.getElem?_set] at this
  simp at this
  exact this.2.symm
 have r3:d3=dv:=by
  have:=q3
  simp only [List.getElem?_set] at this
  simp at this
  exact this.2.symm
 subst r0;subst r1;subst r2;subst r3
 rw [t0] at qt
 refine h0 ⟨_,OI g1 s3 g3 hadd,a,k,c,sz,ss,_,(p:Int)+1,rfl,g5,g6,by omega,by omega,by omega,by simp only [List.length_set];exact g10,w3, ?_, ?_⟩
 ·rw [e1,l3,qt,iJ]
  simp only [eP,PV] at hmv ⊢
  omega
 ·rw [e1,qt,UN hK g1 g4 g5 hp c0 c1 c2 c3]
  exact g13.append (.cons _ _ _ _ (.val _) (.cons _ _ _ _ (.val _) (.cons _ _ _ _ (.val _) (.cons _ _ _ _ hsame .nil))))
theorem a4k {nm nm' nm2:String} {N M:Nat} (hK:K T=[.int .i64,.int .i64,.str,.sl T]) (hN:N≤1073741824) {s x n i v:SE} (h2:(Fact.rel nm false (jI K T N (M+1)) [s,x,n,i]).holds γ) (h1:(Fact.tr (.a2 (.bin .lss) i (.a1 .len s))).holds γ)
  (h3:(Fact.rel nm2 false (bU K T) [.a1 (.ld 3) (.a2 .el s i),v]).holds γ)
  (h0:(Fact.rel nm' true (jI K T N M) [s,.a3 (.up 4 3) (.a3 (.up 4 2) (.a3 (.up 4 1) (.a3 (.up 4 0) x i (.a1 (.ld 0) (.a2 .el s i))) i (.a1 (.ld 1) (.a2 .el s i))) i (.a1 (.ld 2) (.a2 .el s i))) i v,n,.a2 (.bin .add) i (.int .i64 (.ofNat 1))]).holds γ):False:=by
 obtain ⟨l,hl,d,a,k,c,sz,ss,rfl,hw,hm,hs⟩:=h3
 obtain ⟨u1,u2,e1,e2,e3⟩:=su hl
 injection e1 with q1 e1;injection e1 with q2 _
 subst q1;subst q2
 refine a4h hK hN h2 h1 e3 ⟨_,_,_,_,_,rfl⟩ hw (fun d' hd'=> ?_) h0
 rw [e2] at hd'
 obtain rfl:=Option.some.inj hd'
 simp only [PV]
 exact ⟨hm,hs⟩
theorem a1N {nm:String} {N M:Nat} {s x n i:SE} (h2:(Fact.rel nm false (jI K T N M) [s,x,n,i]).holds γ) (h0:(Fact.rel "short" false (VL 4) [x,n]).holds γ):False:=by
 obtain ⟨a,k,c,sz,ss,es,j,g1,g2,g3,g4,g5,g6,g7,g8,g9,g10, -⟩:=oO h2
 obtain ⟨l,hl,ks,es',q,rfl,hno⟩:=h0
 have hl2:=sJ g2 g3
 rw [hl2] at hl
 have hl:=Option.some.inj hl
 injection hl with a1 hl;injection hl with a2 _
 injection a1 with _ a1
 injection a2 with a2;injection a2 with _ a2
 subst a1;subst a2
 exact hno ⟨Int.natCast_nonneg k,by rw [g10];exact Nat.le_refl _⟩
theorem a7u {nm nm' nm2:String} {N M:Nat} (hK:K T=[.int .i64,.int .i64,.str,.sl T]) {s x n i v:SE} (h2:(Fact.rel nm false (jI K T N M) [s,x,n,i]).holds γ) (h1:(Fact.fl (.a2 (.bin .lss) i (.a1 .len s))).holds γ)
  (h3:(Fact.rel nm2 false (a3y T 4) [v,x,n]).holds γ) (h0:(Fact.rel nm' true (bU K T) [s,v]).holds γ):False:=by
 obtain ⟨a,k,c,sz,ss,es,j,g1,g2,g3,g4,g5,g6,g7,g8,g9,g10,g11,g12,g13⟩:=oO h2
 have hj:=a1o h1 g4 (kC g1)
 obtain rfl:j=k:=by omega
 obtain ⟨l,hl,b,k',c',ks,es',rfl,hle⟩:=h3
 simp only [pG,g2,g3,Option.bind_some,Option.map_some,Option.bind_eq_some_iff] at hl
 obtain ⟨dv,hdv,hl⟩:=hl
 have hl:=Option.some.inj hl
 injection hl with a1 hl;injection hl with a2 hl;injection hl with a3 _
 injection a2 with _ a2
 injection a3 with a3;injection a3 with _ a3
 subst a2
 have hk:k'=k:=by
  have:(Int.ofNat k)=Int.ofNat k':=a3
  simp only [Int.ofNat_eq_natCast] at this
  omega
 subst hk
 have hl4:(K T).length=4:=by rw [hK];rfl
 subst a1
 have e2:((k':Int)).toNat=k':=by omega
 rw [e2] at g12 g13
 have hss:=g5.1
 rw [hl4] at hss
 refine h0 ⟨_,sJ g1 hdv,_,_,_,_,_,_,rfl,.inr ⟨hl4.symm,⟨b,_,c',rfl,by rw [List.length_take];omega⟩,g11.take _⟩, ?_, ?_⟩
 ·have h5:=vX (l:=ss) (a:=k' * 4) (b:=ss.length) (by omega)
  rw [List.take_length] at h5
  simp only [PV]
  omega
 ·rw [List.take_of_length_le (show ss.length≤k' * 4 by omega)] at g13
  exact .sl _ _ _ _ _ _ _ _ _ _ _ g13
end
end Go.Proofs.YtjioppomopfifaaGreatDoor.Abs
namespace Go.Proofs.YtjioppomopfifaaGreatDoor.Abs
open Go
theorem U9 {P:Program} {cS:Nat→nK} {cL:Nat→Nat→nK} {B:Nat} (zS:bM P (cS 0)) (zL:∀N,bM P (cL N 0))
  (hL:∀N M,N≤B→bM P (cS N)→bM P (cL N M)→bM P (cL N (M+1))) (hS:∀N,N+1≤B→bM P (cL N (N+1))→bM P (cS (N+1))):∀N,N≤B→bM P (cS N)
 | 0,_=>zS
 |N+1,h=>by
  have hN:=U9 zS zL hL hS N (by omega)
  have all:∀M,bM P (cL N M):=fun M=>by
   induction M with
   |zero=>exact zL N
   |succ M ih=>exact hL N M (by omega) hN ih
  exact hS N h (all (N+1))
section
variable {K:TypeId→List Kd} {T:TypeId} {γ:G}
theorem TW {nm:String} {l:List SE} (h:(Fact.rel nm false (aj K T 0) l).holds γ):False:=by
 obtain ⟨_,_,_,_,h⟩:=h
 omega
theorem a4f {nm:String} {N:Nat} {s x n i:SE} (h:(Fact.rel nm false (jI K T N 0) [s,x,n,i]).holds γ):False:=by
 obtain ⟨a,k,c,sz,ss,es,j, -, -, -, -, -, -, -,h8,h9, -⟩:=oO h
 omega
theorem a4j {nm nm':String} {B q:Nat} {x y z t:SE} (hK:K T=[.int .i64,.int .i64,.str,.sl T]) (h1:(Fact.rel nm false (aj K T B) [x,y,z,t]).holds γ) (h2:(Fact.tr (.a2 (.bin .eql) (.a1 .len t) (.int .i64 (.ofNat 0)))).holds γ) (h0:(Fact.rel nm' true (bU K T) [t,.a1 (.ns T q) (.bool true)]).holds γ):False:=by
 obtain ⟨a,k,c,sz,ss,g1,g2,g3⟩:=vI hK h1
 have h2:aO γ _=_:=h2
 rw [uI (b:=0) rfl (kC g1) rfl] at h2
 have h2:=Option.some.inj h2
 injection h2 with h2;injection h2 with h2
 have hk:=of_decide_eq_true h2
 obtain rfl:k=0:=by omega
 have hl4:(K T).length=4:=by rw [hK];rfl
 have hss:=g2.1
 rw [hl4,Nat.zero_mul] at hss
 obtain rfl:=List.length_eq_zero_iff.1 hss
 refine h0 ⟨_,sJ g1 rfl,_,none,0,0,q,[],rfl,.inl ⟨rfl,rfl⟩, ?_,.sl _ _ _ _ _ _ _ _ _ _ _ .nil⟩
 simp only [eP,PV]
 omega
theorem OH:∀{xs ys:List SE} {l:List Dt},pG γ (xs++ys)=some l→∃a b,l=a++b∧pG γ xs=some a∧pG γ ys=some b
 | [],ys,l,h=>⟨[],l,rfl,rfl,h⟩
 |x::xs,ys,l,h=>by
  simp only [List.cons_append,pG,Option.bind_eq_some_iff,Option.map_eq_some_iff] at h
  obtain ⟨d,hd,r,hr,rfl⟩:=h
  obtain ⟨a,b,rfl,h1,h2⟩:=OH hr
  exact ⟨d::a,b,rfl,by simp only [pG,hd,h1,Option.bind_some,Option.map_some],h2⟩
theorem OG:∀{xs:List SE} {l:List Dt},pG γ xs=some l→l.length=xs.length
 | [],l,h=>by rw [←Option.some.inj h];rfl
 |x::xs,l,h=>by
  simp only [pG,Option.bind_eq_some_iff,Option.map_eq_some_iff] at h
  obtain ⟨d,hd,r,hr,rfl⟩:=h
  simp only [List.length_cons,OG hr]
theorem L9 {t:TypeId} {ts:List TypeId} {l:List Dt} (h:XQ K (t::ts) l):∃a b,l=a++b∧a.length=(K t).length∧Dt.Em K (K t) 0 a∧XQ K ts b:=h
end
end Go.Proofs.YtjioppomopfifaaGreatDoor.Abs
namespace Go.Proofs.YtjioppomopfifaaGreatDoor.Abs
open Go
noncomputable def ada (o:Out):R Unit:=
 match o.res with
 | .ret v=>match v with
   | .bool b=>match b with
     |true=>.ok ()
     |false=>.must o.s.pc (.ok ())
   | .opq k e=>match o7 k .bool with
     |true=>.must (.fl e::o.s.pc) (.ok ())
     |false=>.bad "another end"
   |_=>.bad "another end"
 | .jB _=>.must o.s.pc (.ok ())
abbrev Case:=List (Nat×SE)×List Fact
def Case.holds (γ:G) (c:Case):Prop:=(∀x∈c.1,aO γ x.2=aO γ (.var x.1))∧∀f∈c.2,f.pos=true∧f.holds γ
end Go.Proofs.YtjioppomopfifaaGreatDoor.Abs
namespace Go.Proofs.YtjioppomopfifaaGreatDoor.Abs
open Go
def oI (l:List Dt):Prop:=∃m:Int,l=[.val (.int .i64 m)]∧1≤m∧m≤1000000
section
variable (K:TypeId→List Kd) (T:TypeId)
def zT (l:List Dt):Prop:=∃(m r:Int) (a:Option Addr) (k c sz:Nat) (ss:List Dt),l=[.val (.int .i64 m),.val (.int .i64 r),.sl (.slice a k c) T sz ss]∧1≤r∧r≤m∧m≤1000000∧(r < m→(eP ss:Int)+4≤4 * r)
def sN (N M:Nat) (l:List Dt):Prop:=∃(a:Option Addr) (k c sz:Nat) (ss:List Dt) (i n m:Int),l=[.sl (.slice a k c) T sz ss,.val (.int .i64 i),.val (.int .i64 n),.val (.int .i64 m)]∧BF K T a k sz ss∧eP ss < N∧0≤i∧i≤k∧(k:Int) - i < M∧
 1≤n∧n≤m∧m≤1000000∧(k:Int)≤m∧(n < m→(eP (ss.take (i.toNat * 4)):Int)≤4 * (n - 1))
end
section
variable {K:TypeId→List Kd} {T:TypeId} {γ:G}
theorem JB {x y z:SE} {l:List Dt} (h:pG γ [x,y,z]=some l):∃a b c,l=[a,b,c]∧aO γ x=some a∧aO γ y=some b∧aO γ z=some c:=by
 simp only [pG,Option.bind_eq_some_iff,Option.map_eq_some_iff] at h
 obtain ⟨a,ha,q,⟨b,hb,r,⟨c,hc,u,hu,rfl⟩,rfl⟩,rfl⟩:=h
 obtain rfl:=Option.some.inj hu
 exact ⟨a,b,c,rfl,ha,hb,hc⟩
theorem vJ {nm:String} {N M:Nat} {s i n m:SE} (h:(Fact.rel nm false (sN K T N M) [s,i,n,m]).holds γ):∃(a:Option Addr) (k c sz:Nat) (ss:List Dt) (j p q:Int),
  aO γ s=some (.sl (.slice a k c) T sz ss)∧aO γ i=some (.val (.int .i64 j))∧aO γ n=some (.val (.int .i64 p))∧aO γ m=some (.val (.int .i64 q))∧BF K T a k sz ss∧eP ss < N∧0≤j∧j≤k∧(k:Int) - j < M∧
  1≤p∧p≤q∧q≤1000000∧(k:Int)≤q∧(p < q→(eP (ss.take (j.toNat * 4)):Int)≤4 * (p - 1)):=by
 obtain ⟨l,hl,a,k,c,sz,ss,j,p,q,rfl,h1⟩:=h
 obtain ⟨d1,d2,d3,d4,e1,e2,e3,e4,e5⟩:=pF hl
 injection e1 with q1 e1;injection e1 with q2 e1;injection e1 with q3 e1;injection e1 with q4 _
 subst q1;subst q2;subst q3;subst q4
 exact ⟨a,k,c,sz,ss,j,p,q,e2,e3,e4,e5,h1⟩
theorem a2a {nm:String} {m r t:SE} (h:(Fact.rel nm false (zT T) [m,r,t]).holds γ):∃(q p:Int) (a:Option Addr) (k c sz:Nat) (ss:List Dt),
  aO γ m=some (.val (.int .i64 q))∧aO γ r=some (.val (.int .i64 p))∧aO γ t=some (.sl (.slice a k c) T sz ss)∧1≤p∧p≤q∧q≤1000000∧(p < q→(eP ss:Int)+4≤4 * p):=by
 obtain ⟨l,hl,q,p,a,k,c,sz,ss,rfl,h1⟩:=h
 obtain ⟨d1,d2,d3,e1,e2,e3,e4⟩:=JB hl
 injection e1 with q1 e1;injection e1 with q2 e1;injection e1 with q3 _
 subst q1;subst q2;subst q3
 exact ⟨q,p,a,k,c,sz,ss,e2,e3,e4,h1⟩
theorem a4W {nm:String} {N:Nat} {s i n m:SE} (h:(Fact.rel nm false (sN K T N 0) [s,i,n,m]).holds γ):False:=by
 obtain ⟨a,k,c,sz,ss,j,p,q, -, -, -, -, -, -, -,h6,h7, -⟩:=vJ h
 omega
theorem aa8 {nm:String} {N M:Nat} {s i n m:SE} (h2:(Fact.rel nm false (sN K T N M) [s,i,n,m]).holds γ) (h1:(Fact.tr (.a2 (.bin .lss) i (.a1 .len s))).holds γ) (h0:(Fact.rel "out" false CJ [i,.a1 .len s]).holds γ):False:=by
 obtain ⟨a,k,c,sz,ss,j,p,q,g1,g2,g3,g4,g5,g6,g7, -⟩:=vJ h2
 exact a0L g2 (kC g1) g7 (yj h1 g2 (kC g1)) h0
theorem a7V {nm nm':String} {N M:Nat} (hK:K T=[.int .i64,.int .i64,.str,.sl T]) {s i n m:SE} (h2:(Fact.rel nm false (sN K T N M) [s,i,n,m]).holds γ) (h1:(Fact.tr (.a2 (.bin .lss) i (.a1 .len s))).holds γ)
  (h0:(Fact.rel nm' true (aj K T N) [.a1 (.ld 0) (.a2 .el s i),.a1 (.ld 1) (.a2 .el s i),.a1 (.ld 2) (.a2 .el s i),.a1 (.ld 3) (.a2 .el s i)]).holds γ):False:=by
 obtain ⟨a,k,c,sz,ss,j,p,q,g1,g2,g3,g4,g5,g6,g7,g8,g9, -⟩:=vJ h2
 exact a8k (nm:=nm) (M:=k+1) hK ⟨_,sJ g1 g2,a,k,c,sz,ss,j,rfl,g5,g6,g7,g8,by omega⟩ h1 h0
theorem a7X {nm nm':String} {N M:Nat} {s i n m:SE} (h2:(Fact.rel nm false (sN K T N M) [s,i,n,m]).holds γ) (h1:(Fact.tr (.a2 (.bin .lss) n m)).holds γ) (h0:(Fact.rel nm' true oI [.a2 (.bin .sub) m n]).holds γ):False:=by
 obtain ⟨a,k,c,sz,ss,j,p,q,g1,g2,g3,g4,g5,g6,g7,g8,g9,g10,g11,g12, -⟩:=vJ h2
 have hlt:=yj h1 g3 g4
 exact h0 ⟨_,RY (wY g4 g3 (by omega) (by omega)),q - p,rfl,by omega,by omega⟩
theorem a7W {nm nm' nm2:String} {N M:Nat} (hK:K T=[.int .i64,.int .i64,.str,.sl T]) {s i n m r:SE} (h2:(Fact.rel nm false (sN K T N (M+1)) [s,i,n,m]).holds γ) (h1:(Fact.tr (.a2 (.bin .lss) i (.a1 .len s))).holds γ) (h3:(Fact.tr (.a2 (.bin .lss) n m)).holds γ)
  (h4:(Fact.rel nm2 false (zT T) [.a2 (.bin .sub) m n,r,.a1 (.ld 3) (.a2 .el s i)]).holds γ)
  (h0:(Fact.rel nm' true (sN K T N M) [s,.a2 (.bin .add) i (.int .i64 (.ofNat 1)),.a2 (.bin .add) n r,m]).holds γ):False:=by
 obtain ⟨a,k,c,sz,ss,j,p,q,g1,g2,g3,g4,g5,g6,g7,g8,g9,g10,g11,g12,g13,g14⟩:=vJ h2
 have hj:=yj h1 g2 (kC g1)
 have hp:=yj h3 g3 g4
 obtain ⟨q',r',a2,k2,c2,sz2,ss2,f1,f2,f3,f4,f5,f6,f7⟩:=a2a h4
 rw [wY g4 g3 (by omega) (by omega)] at f1
 have f1:=Option.some.inj f1
 injection f1 with f1;injection f1 with _ f1
 obtain ⟨u,rfl⟩:=Int.eq_ofNat_of_zero_le g7
 obtain ⟨x,y,str,a',k',c',sz',ss',c0,c1,c2',c3,l1,l2,l3,l4⟩:=wF hK g1 g2 g5 (by omega)
 rw [c3] at f3
 have f3:=Option.some.inj f3
 injection f3 with _ _ _ f3
 subst f3
 have hadd:=zM (γ:=γ) (b:=1) g2 (show aO γ (.int .i64 (.ofNat 1))=_ from rfl) (by omega) (by omega)
 have adv:=zM (γ:=γ) g3 f2 (by omega) (by omega)
 refine h0 ⟨_,OI g1 hadd adv g4,a,k,c,sz,ss,(u:Int)+1,p+r',q,rfl,g5,g6,by omega,by omega,by omega,by omega,by omega,g12,g13,fun hlt=> ?_⟩
 have e1:((u:Int)+1).toNat=u+1:=by omega
 have e2:((u:Int)).toNat=u:=by omega
 have h5:=g14 hp
 rw [e2] at h5
 rw [e1,l3]
 have:=f7 (by omega)
 omega
theorem a8a {nm nm':String} {N M:Nat} (hK:K T=[.int .i64,.int .i64,.str,.sl T]) {s i n m:SE} (h2:(Fact.rel nm false (sN K T N M) [s,i,n,m]).holds γ) (h1:(Fact.fl (.a2 (.bin .lss) i (.a1 .len s))).holds γ) (h0:(Fact.rel nm' true (zT T) [m,n,s]).holds γ):False:=by
 obtain ⟨a,k,c,sz,ss,j,p,q,g1,g2,g3,g4,g5,g6,g7,g8,g9,g10,g11,g12,g13,g14⟩:=vJ h2
 have hj:=a1o h1 g2 (kC g1)
 obtain rfl:j=k:=by omega
 refine h0 ⟨_,JC g4 g3 g1,q,p,a,k,c,sz,ss,rfl,g10,g11,g12,fun hlt=> ?_⟩
 have h5:=g14 hlt
 have e2:((k:Int)).toNat=k:=by omega
 have hl4:(K T).length=4:=by rw [hK];rfl
 have hlen:=g5.1
 rw [hl4] at hlen
 rw [e2,List.take_of_length_le (by omega)] at h5
 omega
theorem a7Z {nm nm':String} {N M:Nat} {s i n m:SE} (h2:(Fact.rel nm false (sN K T N M) [s,i,n,m]).holds γ) (h1:(Fact.fl (.a2 (.bin .lss) n m)).holds γ) (h0:(Fact.rel nm' true (zT T) [m,n,s]).holds γ):False:=by
 obtain ⟨a,k,c,sz,ss,j,p,q,g1,g2,g3,g4,g5,g6,g7,g8,g9,g10,g11,g12,g13,g14⟩:=vJ h2
 have hp:=a1o h1 g3 g4
 exact h0 ⟨_,JC g4 g3 g1,q,p,a,k,c,sz,ss,rfl,g10,g11,g12,fun hlt=>by omega⟩
theorem Y2 {nm:String} {m:SE} (h:(Fact.rel nm false oI [m]).holds γ):∃q:Int,aO γ m=some (.val (.int .i64 q))∧1≤q∧q≤1000000:=by
 obtain ⟨l,hl,q,rfl,h1,h2⟩:=h
 simp only [pG,Option.bind_eq_some_iff,Option.map_eq_some_iff] at hl
 obtain ⟨d,hd,r,hr,e⟩:=hl
 obtain rfl:=Option.some.inj hr
 injection e with e _
 subst e
 exact ⟨q,hd,h1,h2⟩
theorem aa9 {nm nm' nm2:String} {N:Nat} (hK:K T=[.int .i64,.int .i64,.str,.sl T]) {x y z t m:SE} (h1:(Fact.rel nm false (aj K T N) [x,y,z,t]).holds γ) (h2:(Fact.rel nm2 false oI [m]).holds γ) (h0:(Fact.rel nm' true (zT T) [m,m,t]).holds γ):False:=by
 obtain ⟨a,k,c,sz,ss,g1, -, -⟩:=vI hK h1
 obtain ⟨q,g2,g3,g4⟩:=Y2 h2
 exact h0 ⟨_,JC g2 g2 g1,q,q,a,k,c,sz,ss,rfl,g3,Int.le_refl _,g4,fun h=>absurd h (Int.lt_irrefl _)⟩
theorem a4H {nm nm' nm2:String} {N:Nat} (hK:K T=[.int .i64,.int .i64,.str,.sl T]) {x y z t m:SE} (h1:(Fact.rel nm false (aj K T (N+1)) [x,y,z,t]).holds γ) (h2:(Fact.rel nm2 false oI [m]).holds γ) (h3:(Fact.fl (.a2 (.bin .gtr) (.a1 .len t) m)).holds γ)
  (h0:(Fact.rel nm' true (sN K T N (N+1)) [t,.int .i64 (.ofNat 0),.int .i64 (.ofNat 1),m]).holds γ):False:=by
 obtain ⟨a,k,c,sz,ss,g1,g2,g3⟩:=vI hK h1
 obtain ⟨q,f1,f2,f3⟩:=Y2 h2
 have hk:=BN hK g2
 have h3:aO γ _=_:=h3
 rw [uI (b:=q) rfl (kC g1) f1] at h3
 have h3:=Option.some.inj h3
 injection h3 with h3;injection h3 with h3
 have hle:=of_decide_eq_false h3
 exact h0 ⟨_,OI g1 rfl rfl f1,a,k,c,sz,ss,0,1,q,rfl,g2,by omega,by omega,by omega,by omega,by omega,f2,f3,by omega,fun _=>by simp [eP]⟩
theorem a5M {nm:String} {b:Nat} (h1:1≤b) (h2:b≤1000000) (h0:(Fact.rel nm true oI [.int .i64 (.ofNat b)]).holds γ):False:=
 h0 ⟨_,RY rfl,.ofNat b,rfl,by simp only [Int.ofNat_eq_natCast];omega,by simp only [Int.ofNat_eq_natCast];omega⟩
theorem a7Y {nm nm' nm2:String} {N B b:Nat} (hK:K T=[.int .i64,.int .i64,.str,.sl T]) {x y z t r:SE} (h1:(Fact.rel nm false (aj K T N) [x,y,z,t]).holds γ) (h2:(Fact.rel nm2 false (zT T) [.int .i64 (.ofNat (b+1)),r,t]).holds γ) (h3:(Fact.fl (.a2 (.bin .gtr) r (.int .i64 (.ofNat b)))).holds γ)
  (hB:4 * b < B):(Fact.rel nm' false (aj K T B) [x,y,z,t]).holds γ:=by
 obtain ⟨l,hl,h4,h5,h6⟩:=h1
 obtain ⟨d1,d2,d3,d4,rfl,e1,e2',e3',e4⟩:=pF hl
 obtain ⟨q,p,a,k,c,sz,ss,f1,f2,f3,f4,f5,f6,f7⟩:=a2a h2
 have f1:=Option.some.inj (show some (Dt.val (.int .i64 (.ofNat (b+1))))=some _ from f1)
 injection f1 with f1;injection f1 with _ f1
 have h3:aO γ _=_:=h3
 rw [uI (b:=.ofNat b) rfl f2 rfl] at h3
 have h3:=Option.some.inj h3
 injection h3 with h3;injection h3 with h3
 have hle:=of_decide_eq_false h3
 simp only [Int.ofNat_eq_natCast] at f1 hle
 have hs:=f7 (by omega)
 rw [e4] at f3
 obtain rfl:=Option.some.inj f3
 have k1:∀(i:Nat) d,[d1,d2,d3,Dt.sl (.slice a k c) T sz ss][i]? =some d→i < 3→PV d=1:=by
  intro i d hd hi
  have:=h5.get hd
  have hl4:(K T).length=4:=by rw [hK];rfl
  obtain ⟨⟨kd,hkd,hf⟩, -⟩:=this
  rw [Nat.zero_add,hl4,Nat.mod_eq_of_lt (by omega),hK] at hkd
  rcases i with _|_|_|i
  ·obtain rfl:Kd.int .i64=kd:=by simpa using hkd
   obtain ⟨n,rfl⟩:=hf;rfl
  ·obtain rfl:Kd.int .i64=kd:=by simpa using hkd
   obtain ⟨n,rfl⟩:=hf;rfl
  ·obtain rfl:Kd.str=kd:=by simpa using hkd
   obtain ⟨n,rfl⟩:=hf;rfl
  ·omega
 have m1:=k1 0 d1 rfl (by omega)
 have m2:=k1 1 d2 rfl (by omega)
 have m3:=k1 2 d3 rfl (by omega)
 refine ⟨_,hl,h4,h5, ?_⟩
 simp only [eP,PV,m1,m2,m3]
 omega
end
end Go.Proofs.YtjioppomopfifaaGreatDoor.Abs
namespace Go.Proofs.YtjioppomopfifaaGreatDoor.Abs
open Go
end Go.Proofs.YtjioppomopfifaaGreatDoor.Abs
namespace Go.Proofs.YtjioppomopfifaaGreatDoor.Abs
open Go
def dA (k n:Int) (s l:Nat):Prop:=
 (k=1∧ -576460752303423488≤n∧n≤576460752303423487∧s=0∧l=0)∨(k=2∧n=0∧s≤64∧l=0)∨((k=3∨k=4∨k=6)∧0≤n∧n≤1073741824∧s=0∧l=0)∨(k=5∧0≤n∧n≤1073741824∧s=0∧l≤64)∨
 (k=7∧n=0∧s=0∧l≤64)∨(k=8∧n=0∧s=0∧l=0)∨(k=9∧n=0∧s=0∧l=2)
inductive TK:Dt→Dt→Dt→Dt→Prop
 |mk (k n:Int) (s:ByteArray) (a:Option Addr) (l c:Nat) (t:TypeId) (sz:Nat) (es:List Dt):dA k n s.size l→
  (∀i d0 d1 d2 d3,es[i * 4]? =some d0→es[i * 4+1]? =some d1→es[i * 4+2]? =some d2→es[i * 4+3]? =some d3→TK d0 d1 d2 d3)→
  TK (.val (.int .i64 k)) (.val (.int .i64 n)) (.val (.string s)) (.sl (.slice a l c) t sz es)
def kZ (es:List Dt):Prop:=∀i d0 d1 d2 d3,es[i * 4]? =some d0→es[i * 4+1]? =some d1→es[i * 4+2]? =some d2→es[i * 4+3]? =some d3→TK d0 d1 d2 d3
theorem kZ.nil:kZ []:=fun i d0 d1 d2 d3 h=>by simp at h
theorem kZ.left {a b:List Dt} (h:kZ (a++b)):kZ a:=fun i d0 d1 d2 d3 h0 h1 h2 h3=>by
 have e:∀{j d},a[j]? =some d→(a++b)[j]? =some d:=fun {j d} hj=>by
  rw [List.getElem?_append_left (List.getElem?_eq_some_iff.1 hj).1];exact hj
 exact h i d0 d1 d2 d3 (e h0) (e h1) (e h2) (e h3)
theorem kZ.right {a b:List Dt} {m:Nat} (ha:a.length=m * 4) (h:kZ (a++b)):kZ b:=fun i d0 d1 d2 d3 h0 h1 h2 h3=>by
 have e:∀{j d},b[j]? =some d→(a++b)[m * 4+j]? =some d:=fun {j d} hj=>by
  rw [List.getElem?_append_right (by omega)]
  rw [show m * 4+j - a.length=j by omega]
  exact hj
 refine h (m+i) d0 d1 d2 d3 ?_ ?_ ?_ ?_
 ·rw [show (m+i) * 4=m * 4+i * 4 by omega];exact e h0
 ·rw [show (m+i) * 4+1=m * 4+(i * 4+1) by omega];exact e h1
 ·rw [show (m+i) * 4+2=m * 4+(i * 4+2) by omega];exact e h2
 ·rw [show (m+i) * 4+3=m * 4+(i * 4+3) by omega];exact e h3
theorem kZ.append {a b:List Dt} {m:Nat} (ha:a.length=m * 4) (h1:kZ a) (h2:kZ b):kZ (a++b):=fun i d0 d1 d2 d3 e0 e1 e2 e3=>by
 by_cases hi:i < m
 ·have e:∀{j d},j < m * 4→(a++b)[j]? =some d→a[j]? =some d:=fun {j d} hj h=>by
    rw [List.getElem?_append_left (by omega)] at h;exact h
  exact h1 i d0 d1 d2 d3 (e (by omega) e0) (e (by omega) e1) (e (by omega) e2) (e (by omega) e3)
 ·have e:∀{q d},(a++b)[i * 4+q]? =some d→b[(i - m) * 4+q]? =some d:=fun {q d} h=>by
    rw [List.getElem?_append_right (by omega)] at h
    rw [show (i - m) * 4+q=i * 4+q - a.length by omega]
    exact h
  exact h2 (i - m) d0 d1 d2 d3 (e (q:=0) e0) (e e1) (e e2) (e e3)
theorem kZ.iff {a b:List Dt} {m:Nat} (ha:a.length=m * 4):kZ (a++b)↔kZ a∧kZ b:=⟨fun h=>⟨h.left,h.right ha⟩,fun h=>h.1.append ha h.2⟩
theorem kZ.one {d0 d1 d2 d3:Dt}:kZ [d0,d1,d2,d3]↔TK d0 d1 d2 d3:=by
 refine ⟨fun h=>h 0 d0 d1 d2 d3 rfl rfl rfl rfl,fun h i u0 u1 u2 u3 h0 h1 h2 h3=> ?_⟩
 cases i with
 |zero=>
  simp only [Nat.zero_mul,Nat.zero_add,List.getElem?_cons_zero,List.getElem?_cons_succ,Option.some.injEq] at h0 h1 h2 h3
  subst h0;subst h1;subst h2;subst h3
  exact h
 |succ i=>
  rw [List.getElem?_eq_none (by simp only [List.length_cons,List.length_nil];omega)] at h0
  cases h0
theorem TK.iff {k n:Int} {s:ByteArray} {a:Option Addr} {l c:Nat} {t:TypeId} {sz:Nat} {es:List Dt}:TK (.val (.int .i64 k)) (.val (.int .i64 n)) (.val (.string s)) (.sl (.slice a l c) t sz es)↔dA k n s.size l∧kZ es:=by
 refine ⟨fun h=> ?_,fun h=>.mk _ _ _ _ _ _ _ _ _ h.1 h.2⟩
 cases h with
 |mk _ _ _ _ _ _ _ _ _ h1 h2=>exact ⟨h1,h2⟩
section
variable (K:TypeId→List Kd) (T:TypeId)
def ng (l:List Dt):Prop:=∃(m' m:Nat) (es' es:List Dt) (a:Option Addr) (k c sz:Nat) (ss:List Dt) (j:Int),l=[.val (.int .i64 (.ofNat m')),.ls (K T) es',.val (.int .i64 (.ofNat m)),.ls (K T) es,.sl (.slice a k c) T sz ss,.val (.int .i64 j)]∧
 (kZ (es'.take (m' * 4))↔kZ (es.take (m * 4))∧kZ (ss.take ((j+1).toNat * 4)))∧eP (es'.take (m' * 4))=eP (es.take (m * 4))+eP (ss.take ((j+1).toNat * 4))
def jR (l:List Dt):Prop:=∃(m:Nat) (es:List Dt),l=[.val (.int .i64 (.ofNat m)),.ls (K T) es]∧kZ (es.take (m * 4))
end
section
variable {K:TypeId→List Kd} {T:TypeId} {γ:G}
theorem a8l {x1 x2 x3 x4 x5 x6:SE} {l:List Dt} (h:pG γ [x1,x2,x3,x4,x5,x6]=some l):∃a b c d e f,l=[a,b,c,d,e,f]∧aO γ x1=some a∧aO γ x2=some b∧aO γ x3=some c∧aO γ x4=some d∧aO γ x5=some e∧aO γ x6=some f:=by
 simp only [pG,Option.bind_eq_some_iff,Option.map_eq_some_iff] at h
 obtain ⟨a,ha,q,⟨b,hb,r,⟨c,hc,u,⟨d,hd,v,⟨e,he,w,⟨f,hf,z,hz,rfl⟩,rfl⟩,rfl⟩,rfl⟩,rfl⟩,rfl⟩:=h
 obtain rfl:=Option.some.inj hz
 exact ⟨a,b,c,d,e,f,rfl,ha,hb,hc,hd,he,hf⟩
theorem acY {x1 x2 x3 x4 x5 x6:SE} {a b c d e f:Dt} (h1:aO γ x1=some a) (h2:aO γ x2=some b) (h3:aO γ x3=some c) (h4:aO γ x4=some d) (h5:aO γ x5=some e) (h6:aO γ x6=some f):pG γ [x1,x2,x3,x4,x5,x6]=some [a,b,c,d,e,f]:=by simp [pG,h1,h2,h3,h4,h5,h6]
theorem a0a {nm:String} {n' e' n e s i:SE} (h:(Fact.rel nm false (ng K T) [n',e',n,e,s,i]).holds γ):∃(m' m:Nat) (es' es:List Dt) (a:Option Addr) (k c sz:Nat) (ss:List Dt) (j:Int),
  aO γ n'=some (.val (.int .i64 (.ofNat m')))∧aO γ e'=some (.ls (K T) es')∧aO γ n=some (.val (.int .i64 (.ofNat m)))∧aO γ e=some (.ls (K T) es)∧aO γ s=some (.sl (.slice a k c) T sz ss)∧aO γ i=some (.val (.int .i64 j))∧
  (kZ (es'.take (m' * 4))↔kZ (es.take (m * 4))∧kZ (ss.take ((j+1).toNat * 4)))∧eP (es'.take (m' * 4))=eP (es.take (m * 4))+eP (ss.take ((j+1).toNat * 4)):=by
 obtain ⟨l,hl,m',m,es',es,a,k,c,sz,ss,j,rfl,h1⟩:=h
 obtain ⟨d1,d2,d3,d4,d5,d6,e1,g1,g2,g3,g4,g5,g6⟩:=a8l hl
 injection e1 with q1 e1;injection e1 with q2 e1;injection e1 with q3 e1;injection e1 with q4 e1;injection e1 with q5 e1;injection e1 with q6 _
 subst q1;subst q2;subst q3;subst q4;subst q5;subst q6
 exact ⟨m',m,es',es,a,k,c,sz,ss,j,g1,g2,g3,g4,g5,g6,h1⟩
theorem a4t {nm:String} {N M:Nat} (hK:K T=[.int .i64,.int .i64,.str,.sl T]) (hM:M≤1073741824) {n e s i:SE} (h2:(Fact.rel nm false (pBack K T (N+1) M) [n,e,s,i]).holds γ) (h1:(Fact.tr (.a2 (.bin .geq) i (.int .i64 (.ofNat 0)))).holds γ):
  ∃(m:Nat) (es:List Dt) (a:Option Addr) (k c sz:Nat) (ss:List Dt) (p:Nat) (d0 d1 d2 d3:Dt),aO γ n=some (.val (.int .i64 (.ofNat m)))∧aO γ e=some (.ls (K T) es)∧aO γ s=some (.sl (.slice a k c) T sz ss)∧aO γ i=some (.val (.int .i64 (p:Int)))∧m * 4≤es.length∧
   aO γ (.a2 (.bin .add) n (.int .i64 (.ofNat 1)))=some (.val (.int .i64 (.ofNat (m+1))))∧
   aO γ (.a2 .sn (.a2 .sn (.a2 .sn (.a2 .sn (.a2 (.tk 4) e n) (.a1 (.ld 0) (.a2 .el s i))) (.a1 (.ld 1) (.a2 .el s i))) (.a1 (.ld 2) (.a2 .el s i))) (.a1 (.ld 3) (.a2 .el s i)))=some (.ls (K T) (es.take (m * 4)++[d0,d1,d2,d3]))∧
   aO γ (.a2 (.bin .sub) i (.int .i64 (.ofNat 1)))=some (.val (.int .i64 ((p:Int) - 1)))∧ss.take ((p+1) * 4)=ss.take (p * 4)++[d0,d1,d2,d3]∧(p+1) * 4≤ss.length:=by
 obtain ⟨m,es,a,k,c,sz,ss,j,g1,g2,g3,g4,g5,g6,g7,g9,g10,g11,g12⟩:=rY h2
 have hj:0≤j:=a0m h1 g4
 obtain ⟨p,rfl⟩:=Int.eq_ofNat_of_zero_le hj
 have hp:p < k:=by omega
 have hl4:(K T).length=4:=by rw [hK];rfl
 obtain ⟨x,y,str,a',k',c',sz',ss',c0,c1,c2,c3,l1,l2,l3,l4⟩:=wF hK g3 g4 g7 hp
 have ht:=UN hK g3 g4 g7 hp c0 c1 c2 c3
 have h4:=a06 g5
 have hp1:((p:Int)+1).toNat=p+1:=by omega
 rw [hp1] at g12
 have htk:aO γ (.a2 (.tk 4) e n)=some (.ls (K T) (es.take (m * 4))):=by
  simp only [aO,g2,g1,Option.bind_some,Go.Proofs.YtjioppomopfifaaGreatDoor.Abs.e2]
  rw [if_pos g5]
 have hlen:(es.take (m * 4)).length=m * 4:=by rw [List.length_take];omega
 have k0:(K T)[0]? =some (.int .i64):=by rw [hK];rfl
 have k1:(K T)[1]? =some (.int .i64):=by rw [hK];rfl
 have k2:(K T)[2]? =some .str:=by rw [hK];rfl
 have k3:(K T)[3]? =some (.sl T):=by rw [hK];rfl
 have s0:=jY htk c0 (q:=.int .i64) (by rw [hlen,hl4,Nat.mul_mod_left];exact k0) ⟨_,rfl⟩
 have s1:=jY s0 c1 (q:=.int .i64) (by rw [List.length_append,hlen,hl4,List.length_singleton,Nat.mul_add_mod_of_lt (by omega)];exact k1) ⟨_,rfl⟩
 have s2:=jY s1 c2 (q:=.str) (by rw [List.length_append,List.length_append,hlen,hl4,List.length_singleton,List.length_singleton,Nat.add_assoc,Nat.mul_add_mod_of_lt (by omega)];exact k2) ⟨_,rfl⟩
 have s3:=jY s2 c3 (q:=.sl T) (by rw [List.length_append,List.length_append,List.length_append,hlen,hl4,List.length_singleton,List.length_singleton,List.length_singleton,Nat.add_assoc,Nat.add_assoc,Nat.mul_add_mod_of_lt (by omega)];exact k3) ⟨_,_,_,_,_,rfl⟩
 rw [List.append_assoc,List.append_assoc,List.append_assoc] at s3
 simp only [List.cons_append,List.nil_append] at s3
 have h5:(p+1) * 4≤eP (ss.take ((p+1) * 4)):=a06 (by omega)
 have hadd:aO γ (.a2 (.bin .add) n (.int .i64 (.ofNat 1)))=some (.val (.int .i64 (.ofNat (m+1)))):=zM (b:=1) g1 rfl (by simp only [Int.ofNat_eq_natCast];omega) (by simp only [Int.ofNat_eq_natCast];omega)
 have hsub:aO γ (.a2 (.bin .sub) i (.int .i64 (.ofNat 1)))=some (.val (.int .i64 ((p:Int) - 1))):=wY (b:=1) g4 rfl (by omega) (by omega)
 exact ⟨m,es,a,k,c,sz,ss,p,_,_,_,_,g1,g2,g3,g4,g5,hadd,s3,hsub,ht,by omega⟩
theorem a0b {nm nm' nm2:String} {N M:Nat} (hK:K T=[.int .i64,.int .i64,.str,.sl T]) (hM:M≤1073741824) {n e s i n' e':SE} (h2:(Fact.rel nm false (pBack K T (N+1) M) [n,e,s,i]).holds γ) (h1:(Fact.tr (.a2 (.bin .geq) i (.int .i64 (.ofNat 0)))).holds γ)
  (h3:(Fact.rel nm2 false (ng K T) [n',e',.a2 (.bin .add) n (.int .i64 (.ofNat 1)),.a2 .sn (.a2 .sn (.a2 .sn (.a2 .sn (.a2 (.tk 4) e n) (.a1 (.ld 0) (.a2 .el s i))) (.a1 (.ld 1) (.a2 .el s i))) (.a1 (.ld 2) (.a2 .el s i))) (.a1 (.ld 3) (.a2 .el s i)),s,.a2 (.bin .sub) i (.int .i64 (.ofNat 1))]).holds γ)
  (h0:(Fact.rel nm' true (ng K T) [n',e',n,e,s,i]).holds γ):False:=by
 obtain ⟨m,es,a,k,c,sz,ss,p,d0,d1,d2,d3,g1,g2,g3,g4,g5,g6,g7,g8,g9,g10⟩:=a4t hK hM h2 h1
 obtain ⟨m',m1,es',es1,a1,k1,c1,sz1,ss1,j1,f1,f2,f3,f4,f5,f6,f7,f8⟩:=a0a h3
 rw [g6] at f3;rw [g7] at f4;rw [g3] at f5;rw [g8] at f6
 have f3:=Option.some.inj f3;injection f3 with f3;injection f3 with _ f3
 have f4:=Option.some.inj f4;injection f4 with _ f4
 have f5:=Option.some.inj f5;injection f5 with _ _ _ f5
 have f6:=Option.some.inj f6;injection f6 with f6;injection f6 with _ f6
 have f3:m+1=m1:=Int.ofNat.inj f3
 subst f3;subst f4;subst f5;subst f6
 have hlen:(es.take (m * 4)).length=m * 4:=by rw [List.length_take];omega
 have e1:((p:Int) - 1+1).toNat=p:=by omega
 have e2:((p:Int)+1).toNat=p+1:=by omega
 have ht:(es.take (m * 4)++[d0,d1,d2,d3]).take ((m+1) * 4)=es.take (m * 4)++[d0,d1,d2,d3]:=List.take_of_length_le (by rw [List.length_append,hlen];simp only [List.length_cons,List.length_nil];omega)
 have hlp:(ss.take (p * 4)).length=p * 4:=by rw [List.length_take];omega
 rw [e1,ht,kZ.iff hlen] at f7
 rw [e1,ht,iJ] at f8
 refine h0 ⟨_,acY f1 f2 g1 g2 g3 g4,m',m,es',es,a,k,c,sz,ss,p,rfl, ?_, ?_⟩
 ·rw [e2,g9,kZ.iff hlp,f7]
  exact ⟨fun h=>⟨h.1.1,h.2,h.1.2⟩,fun h=>⟨⟨h.1,h.2.2⟩,h.2.1⟩⟩
 ·rw [e2,g9,iJ,f8]
  omega
theorem aam {nm nm':String} {N M:Nat} {n e s i:SE} (h2:(Fact.rel nm false (pBack K T N M) [n,e,s,i]).holds γ) (h1:(Fact.fl (.a2 (.bin .geq) i (.int .i64 (.ofNat 0)))).holds γ) (h0:(Fact.rel nm' true (ng K T) [n,e,n,e,s,i]).holds γ):False:=by
 obtain ⟨m,es,a,k,c,sz,ss,j,g1,g2,g3,g4,g5,g6,g7,g9,g10,g11,g12⟩:=rY h2
 have h1:aO γ _=_:=h1
 rw [uI (b:=0) rfl g4 rfl] at h1
 have h1:=Option.some.inj h1
 injection h1 with h1;injection h1 with h1
 have hj:=of_decide_eq_false h1
 have e1:(j+1).toNat=0:=by omega
 refine h0 ⟨_,acY g1 g2 g1 g2 g3 g4,m,m,es,es,a,k,c,sz,ss,j,rfl, ?_, ?_⟩
 ·rw [e1,Nat.zero_mul,List.take_zero]
  exact ⟨fun h=>⟨h,kZ.nil⟩,fun h=>h.1⟩
 ·rw [e1,Nat.zero_mul,List.take_zero];simp only [eP];omega
theorem TQ {nm:String} {N:Nat} (hK:K T=[.int .i64,.int .i64,.str,.sl T]) (hN:N+1≤1073741824) {n e:SE} (h2:(Fact.rel nm false (dD K T (N+1)) [n,e]).holds γ) (h1:(Fact.tr (.a2 (.bin .gtr) n (.int .i64 (.ofNat 0)))).holds γ):
  ∃(m:Nat) (es:List Dt) (k nn:Int) (str:ByteArray) (a:Option Addr) (l c sz:Nat) (ss:List Dt),aO γ n=some (.val (.int .i64 (.ofNat (m+1))))∧aO γ e=some (.ls (K T) es)∧(m+1) * 4≤es.length∧aO γ (.a2 (.bin .sub) n (.int .i64 (.ofNat 1)))=some (.val (.int .i64 (.ofNat m)))∧
   aO γ (.a2 (.at 4 0) e (.a2 (.bin .sub) n (.int .i64 (.ofNat 1))))=some (.val (.int .i64 k))∧aO γ (.a2 (.at 4 1) e (.a2 (.bin .sub) n (.int .i64 (.ofNat 1))))=some (.val (.int .i64 nn))∧aO γ (.a2 (.at 4 2) e (.a2 (.bin .sub) n (.int .i64 (.ofNat 1))))=some (.val (.string str))∧
   aO γ (.a2 (.at 4 3) e (.a2 (.bin .sub) n (.int .i64 (.ofNat 1))))=some (.sl (.slice a l c) T sz ss)∧BF K T a l sz ss∧es.take ((m+1) * 4)=es.take (m * 4)++[.val (.int .i64 k),.val (.int .i64 nn),.val (.string str),.sl (.slice a l c) T sz ss]:=by
 obtain ⟨k1,es,g1,g2,g3,g4,g5⟩:=y9 h2
 have hk:=a4E h1 g1
 obtain ⟨m,rfl⟩:∃m,k1=m+1:=⟨k1 - 1,by simp only [Int.ofNat_eq_natCast] at hk;omega⟩
 have h4:=a06 g3
 have hsub:aO γ (.a2 (.bin .sub) n (.int .i64 (.ofNat 1)))=some (.val (.int .i64 (.ofNat m))):=by
  rw [wY (b:=1) g1 rfl (by simp only [Int.ofNat_eq_natCast];omega) (by simp only [Int.ofNat_eq_natCast];omega)]
  simp only [Int.ofNat_eq_natCast,Int.natCast_add,Int.natCast_one,Int.add_sub_cancel]
 obtain ⟨x,y,str,a,l,c,sz,ss,c0,c1,c2,c3,l1,l2⟩:=zH hK g4 (n:=m) (by omega)
 have hat:∀q,aO γ (.a2 (.at 4 q) e (.a2 (.bin .sub) n (.int .i64 (.ofNat 1))))=es[m * 4+q]? :=fun q=>by
  show (aO γ e).bind _=_
  rw [g2,Option.bind_some,hsub];rfl
 obtain ⟨u0,u1,u2,u3,q0,q1,q2,q3,qt⟩:=DR (l:=es) (n:=m) (by omega)
 have e0:=Option.some.inj (c0.symm.trans q0)
 have e1:=Option.some.inj (c1.symm.trans q1)
 have e2':=Option.some.inj (c2.symm.trans q2)
 have e3':=Option.some.inj (c3.symm.trans q3)
 exact ⟨m,es,x,y,str,a,l,c,sz,ss,g1,g2,g3,hsub,(hat 0).trans c0,(hat 1).trans c1,(hat 2).trans c2,(hat 3).trans c3,l1,by rw [qt,←e0,←e1,←e2',←e3']⟩
theorem Gz {nm:String} {n e:SE} (h:(Fact.rel nm false (jR K T) [n,e]).holds γ):∃(m:Nat) (es:List Dt),aO γ n=some (.val (.int .i64 (.ofNat m)))∧aO γ e=some (.ls (K T) es)∧kZ (es.take (m * 4)):=by
 obtain ⟨l,hl,m,es,rfl,h1⟩:=h
 obtain ⟨d1,d2,e1,e2,e3⟩:=su hl
 injection e1 with q1 e1;injection e1 with q2 _
 subst q1;subst q2
 exact ⟨m,es,e2,e3,h1⟩
theorem NR {nm nm2:String} {N:Nat} (hK:K T=[.int .i64,.int .i64,.str,.sl T]) (hN:N+1≤1073741824) {n e n' e':SE} (h2:(Fact.rel nm false (dD K T (N+1)) [n,e]).holds γ) (h1:(Fact.tr (.a2 (.bin .gtr) n (.int .i64 (.ofNat 0)))).holds γ)
  (h3:(Fact.rel nm2 false (ng K T) [n',e',.a2 (.bin .sub) n (.int .i64 (.ofNat 1)),e,.a2 (.at 4 3) e (.a2 (.bin .sub) n (.int .i64 (.ofNat 1))),.a2 (.bin .sub) (.a1 .len (.a2 (.at 4 3) e (.a2 (.bin .sub) n (.int .i64 (.ofNat 1))))) (.int .i64 (.ofNat 1))]).holds γ):
  ∃(m m':Nat) (es es':List Dt) (k nn:Int) (str:ByteArray) (l:Nat) (_ss:List Dt),aO γ n=some (.val (.int .i64 (.ofNat (m+1))))∧aO γ e=some (.ls (K T) es)∧aO γ n'=some (.val (.int .i64 (.ofNat m')))∧aO γ e'=some (.ls (K T) es')∧
   aO γ (.a2 (.at 4 0) e (.a2 (.bin .sub) n (.int .i64 (.ofNat 1))))=some (.val (.int .i64 k))∧aO γ (.a2 (.at 4 1) e (.a2 (.bin .sub) n (.int .i64 (.ofNat 1))))=some (.val (.int .i64 nn))∧aO γ (.a2 (.at 4 2) e (.a2 (.bin .sub) n (.int .i64 (.ofNat 1))))=some (.val (.string str))∧
   aO γ (.a1 .len (.a2 (.at 4 3) e (.a2 (.bin .sub) n (.int .i64 (.ofNat 1)))))=some (.val (.int .i64 l))∧
   (kZ (es.take ((m+1) * 4))↔kZ (es'.take (m' * 4))∧dA k nn str.size l)∧eP (es.take ((m+1) * 4))=eP (es'.take (m' * 4))+4:=by
 obtain ⟨m,es,k,nn,str,a,l,c,sz,ss,g1,g2,g3,g4,g5,g6,g7,g8,g9,g10⟩:=TQ hK hN h2 h1
 obtain ⟨m',m1,es',es1,a1,k1,c1,sz1,ss1,j1,f1,f2,f3,f4,f5,f6,f7,f8⟩:=a0a h3
 have hk:=BN hK g9
 obtain ⟨kl,esl,p1,p2,p3,p4,p5⟩:=y9 h2
 rw [g1] at p1;rw [g2] at p2
 have p1:=Option.some.inj p1;injection p1 with p1;injection p1 with _ p1
 have p2:=Option.some.inj p2;injection p2 with _ p2
 have p1:m+1=kl:=Int.ofNat.inj p1
 subst p1;subst p2
 rw [g10,iJ] at p5
 simp only [eP,PV] at p5
 have hsub:aO γ (.a2 (.bin .sub) (.a1 .len (.a2 (.at 4 3) e (.a2 (.bin .sub) n (.int .i64 (.ofNat 1))))) (.int .i64 (.ofNat 1)))=some (.val (.int .i64 ((l:Int) - 1))):=wY (b:=1) (kC g8) rfl (by omega) (by omega)
 rw [g4] at f3;rw [g2] at f4;rw [g8] at f5;rw [hsub] at f6
 have f3:=Option.some.inj f3;injection f3 with f3;injection f3 with _ f3
 have f4:=Option.some.inj f4;injection f4 with _ f4
 have f5:=Option.some.inj f5;injection f5 with _ _ _ f5
 have f6:=Option.some.inj f6;injection f6 with f6;injection f6 with _ f6
 have f3:m=m1:=Int.ofNat.inj f3
 subst f3;subst f4;subst f5;subst f6
 have e1:((l:Int) - 1+1).toNat=l:=by omega
 have hl4:(K T).length=4:=by rw [hK];rfl
 have hss:=g9.1
 rw [hl4] at hss
 rw [e1,List.take_of_length_le (show ss.length≤l * 4 by omega)] at f7 f8
 have hlen:(es.take (m * 4)).length=m * 4:=by rw [List.length_take];omega
 refine ⟨m,m',es,es',k,nn,str,l,ss,g1,g2,f1,f2,g5,g6,g7,kC g8, ?_, ?_⟩
 ·rw [g10,kZ.iff hlen,kZ.one,TK.iff,f7]
  exact ⟨fun h=>⟨⟨h.1,h.2.2⟩,h.2.1⟩,fun h=>⟨h.1.1,h.2,h.1.2⟩⟩
 ·rw [g10,iJ,f8]
  simp only [eP,PV]
  omega
theorem gX {nm nm2 nm3 nm':String} {N:Nat} (hK:K T=[.int .i64,.int .i64,.str,.sl T]) (hN:N+1≤1073741824) {n e n' e':SE} (h2:(Fact.rel nm false (dD K T (N+1)) [n,e]).holds γ) (h1:(Fact.tr (.a2 (.bin .gtr) n (.int .i64 (.ofNat 0)))).holds γ)
  (h3:(Fact.rel nm2 false (ng K T) [n',e',.a2 (.bin .sub) n (.int .i64 (.ofNat 1)),e,.a2 (.at 4 3) e (.a2 (.bin .sub) n (.int .i64 (.ofNat 1))),.a2 (.bin .sub) (.a1 .len (.a2 (.at 4 3) e (.a2 (.bin .sub) n (.int .i64 (.ofNat 1))))) (.int .i64 (.ofNat 1))]).holds γ)
  (h4:(Fact.rel nm3 false (jR K T) [n',e']).holds γ)
  (hc:∀(k nn:Int) (str:ByteArray) (l:Nat),aO γ (.a2 (.at 4 0) e (.a2 (.bin .sub) n (.int .i64 (.ofNat 1))))=some (.val (.int .i64 k))→aO γ (.a2 (.at 4 1) e (.a2 (.bin .sub) n (.int .i64 (.ofNat 1))))=some (.val (.int .i64 nn))→aO γ (.a2 (.at 4 2) e (.a2 (.bin .sub) n (.int .i64 (.ofNat 1))))=some (.val (.string str))→
    aO γ (.a1 .len (.a2 (.at 4 3) e (.a2 (.bin .sub) n (.int .i64 (.ofNat 1)))))=some (.val (.int .i64 l))→dA k nn str.size l)
  (h0:(Fact.rel nm' true (jR K T) [n,e]).holds γ):False:=by
 obtain ⟨m,m',es,es',k,nn,str,l,ss,g1,g2,g3,g4,g5,g6,g7,g8,g9, -⟩:=NR hK hN h2 h1 h3
 obtain ⟨m2,es2,f1,f2,f3⟩:=Gz h4
 rw [g3] at f1;rw [g4] at f2
 have f1:=Option.some.inj f1;injection f1 with f1;injection f1 with _ f1
 have f2:=Option.some.inj f2;injection f2 with _ f2
 have f1:m'=m2:=Int.ofNat.inj f1
 subst f1;subst f2
 exact h0 ⟨_,sJ g1 g2,m+1,es,rfl,g9.2 ⟨f3,hc k nn str l g5 g6 g7 g8⟩⟩
theorem a8i {nm nm':String} {N:Nat} {n e:SE} (h2:(Fact.rel nm false (dD K T N) [n,e]).holds γ) (h1:(Fact.fl (.a2 (.bin .gtr) n (.int .i64 (.ofNat 0)))).holds γ) (h0:(Fact.rel nm' true (jR K T) [n,e]).holds γ):False:=by
 obtain ⟨k1,es,g1,g2,g3,g4,g5⟩:=y9 h2
 have h1:aO γ _=_:=h1
 rw [uI (b:=0) rfl g1 rfl] at h1
 have h1:=Option.some.inj h1
 injection h1 with h1;injection h1 with h1
 have hj:=of_decide_eq_false h1
 simp only [Int.ofNat_eq_natCast] at hj
 obtain rfl:k1=0:=by omega
 exact h0 ⟨_,sJ g1 g2,0,es,rfl,by rw [Nat.zero_mul,List.take_zero];exact kZ.nil⟩
theorem Ua {nm nm2 nm3 nm':String} {N:Nat} (hK:K T=[.int .i64,.int .i64,.str,.sl T]) (hN:N+1≤1073741824) {n e n' e':SE} (h2:(Fact.rel nm false (dD K T (N+1)) [n,e]).holds γ) (h1:(Fact.tr (.a2 (.bin .gtr) n (.int .i64 (.ofNat 0)))).holds γ)
  (h3:(Fact.rel nm2 false (ng K T) [n',e',.a2 (.bin .sub) n (.int .i64 (.ofNat 1)),e,.a2 (.at 4 3) e (.a2 (.bin .sub) n (.int .i64 (.ofNat 1))),.a2 (.bin .sub) (.a1 .len (.a2 (.at 4 3) e (.a2 (.bin .sub) n (.int .i64 (.ofNat 1))))) (.int .i64 (.ofNat 1))]).holds γ)
  (h4:(Fact.rel nm3 false (jR K T) [n,e]).holds γ) (h0:(Fact.rel nm' true (jR K T) [n',e']).holds γ):False:=by
 obtain ⟨m,m',es,es',k,nn,str,l,ss,g1,g2,g3,g4,g5,g6,g7,g8,g9, -⟩:=NR hK hN h2 h1 h3
 obtain ⟨m2,es2,f1,f2,f3⟩:=Gz h4
 rw [g1] at f1;rw [g2] at f2
 have f1:=Option.some.inj f1;injection f1 with f1;injection f1 with _ f1
 have f2:=Option.some.inj f2;injection f2 with _ f2
 have f1:m+1=m2:=Int.ofNat.inj f1
 subst f1;subst f2
 exact h0 ⟨_,sJ g3 g4,m',es',rfl,(g9.1 f3).1⟩
theorem dY {nm nm3:String} {N:Nat} (hK:K T=[.int .i64,.int .i64,.str,.sl T]) (hN:N+1≤1073741824) {n e:SE} (h2:(Fact.rel nm false (dD K T (N+1)) [n,e]).holds γ) (h1:(Fact.tr (.a2 (.bin .gtr) n (.int .i64 (.ofNat 0)))).holds γ) (h4:(Fact.rel nm3 false (jR K T) [n,e]).holds γ):
  ∃(k nn:Int) (str:ByteArray) (l:Nat),aO γ (.a2 (.at 4 0) e (.a2 (.bin .sub) n (.int .i64 (.ofNat 1))))=some (.val (.int .i64 k))∧aO γ (.a2 (.at 4 1) e (.a2 (.bin .sub) n (.int .i64 (.ofNat 1))))=some (.val (.int .i64 nn))∧aO γ (.a2 (.at 4 2) e (.a2 (.bin .sub) n (.int .i64 (.ofNat 1))))=some (.val (.string str))∧
   aO γ (.a1 .len (.a2 (.at 4 3) e (.a2 (.bin .sub) n (.int .i64 (.ofNat 1)))))=some (.val (.int .i64 l))∧dA k nn str.size l:=by
 obtain ⟨m,es,k,nn,str,a,l,c,sz,ss,g1,g2,g3,g4,g5,g6,g7,g8,g9,g10⟩:=TQ hK hN h2 h1
 obtain ⟨m2,es2,f1,f2,f3⟩:=Gz h4
 rw [g1] at f1;rw [g2] at f2
 have f1:=Option.some.inj f1;injection f1 with f1;injection f1 with _ f1
 have f2:=Option.some.inj f2;injection f2 with _ f2
 have f1:m+1=m2:=Int.ofNat.inj f1
 subst f1;subst f2
 have hlen:(es.take (m * 4)).length=m * 4:=by rw [List.length_take];omega
 rw [g10,kZ.iff hlen,kZ.one,TK.iff] at f3
 exact ⟨k,nn,str,l,g5,g6,g7,kC g8,f3.2.1⟩
end
section
variable (K:TypeId→List Kd) (T:TypeId)
def uz (l:List Dt):Prop:=∃(w:Int) (m:Nat) (es:List Dt),l=[.val (.int .i64 w),.val (.int .i64 (.ofNat m)),.ls (K T) es]∧0≤w∧w+eP (es.take (m * 4))≤1000000000
def kM (l:List Dt):Prop:=∃(w' w:Int) (m:Nat) (es:List Dt),l=[.val (.int .i64 w'),.val (.int .i64 w),.val (.int .i64 (.ofNat m)),.ls (K T) es]∧w'≤w+eP (es.take (m * 4))
end
section
variable {K:TypeId→List Kd} {T:TypeId} {γ:G}
theorem Oh {nm:String} {w n e:SE} (h:(Fact.rel nm false (uz K T) [w,n,e]).holds γ):∃(x:Int) (m:Nat) (es:List Dt),aO γ w=some (.val (.int .i64 x))∧aO γ n=some (.val (.int .i64 (.ofNat m)))∧aO γ e=some (.ls (K T) es)∧0≤x∧x+eP (es.take (m * 4))≤1000000000:=by
 obtain ⟨l,hl,x,m,es,rfl,h1⟩:=h
 obtain ⟨d1,d2,d3,e1,e2,e3,e4⟩:=JB hl
 injection e1 with q1 e1;injection e1 with q2 e1;injection e1 with q3 _
 subst q1;subst q2;subst q3
 exact ⟨x,m,es,e2,e3,e4,h1⟩
theorem TM {nm:String} {w' w n e:SE} (h:(Fact.rel nm false (kM K T) [w',w,n,e]).holds γ):∃(x' x:Int) (m:Nat) (es:List Dt),aO γ w'=some (.val (.int .i64 x'))∧aO γ w=some (.val (.int .i64 x))∧aO γ n=some (.val (.int .i64 (.ofNat m)))∧aO γ e=some (.ls (K T) es)∧x'≤x+eP (es.take (m * 4)):=by
 obtain ⟨l,hl,x',x,m,es,rfl,h1⟩:=h
 obtain ⟨d1,d2,d3,d4,e1,e2,e3,e4,e5⟩:=pF hl
 injection e1 with q1 e1;injection e1 with q2 e1;injection e1 with q3 e1;injection e1 with q4 _
 subst q1;subst q2;subst q3;subst q4
 exact ⟨x',x,m,es,e2,e3,e4,e5,h1⟩
theorem Gm {nm nm2 nm3 nm':String} {N c:Nat} (hK:K T=[.int .i64,.int .i64,.str,.sl T]) (hN:N+1≤1073741824) (hc:c≤4) {w n e n' e':SE} (h2:(Fact.rel nm false (dD K T (N+1)) [n,e]).holds γ) (h1:(Fact.tr (.a2 (.bin .gtr) n (.int .i64 (.ofNat 0)))).holds γ)
  (h3:(Fact.rel nm2 false (ng K T) [n',e',.a2 (.bin .sub) n (.int .i64 (.ofNat 1)),e,.a2 (.at 4 3) e (.a2 (.bin .sub) n (.int .i64 (.ofNat 1))),.a2 (.bin .sub) (.a1 .len (.a2 (.at 4 3) e (.a2 (.bin .sub) n (.int .i64 (.ofNat 1))))) (.int .i64 (.ofNat 1))]).holds γ)
  (h4:(Fact.rel nm3 false (uz K T) [w,n,e]).holds γ) (h0:(Fact.rel nm' true (uz K T) [.a2 (.bin .add) w (.int .i64 (.ofNat c)),n',e']).holds γ):False:=by
 obtain ⟨m,m',es,es',k,nn,str,l,ss,g1,g2,g3,g4,g5,g6,g7,g8, -,g9⟩:=NR hK hN h2 h1 h3
 obtain ⟨x,m2,es2,f0,f1,f2,f3,f4⟩:=Oh h4
 rw [g1] at f1;rw [g2] at f2
 have f1:=Option.some.inj f1;injection f1 with f1;injection f1 with _ f1
 have f2:=Option.some.inj f2;injection f2 with _ f2
 have f1:m+1=m2:=Int.ofNat.inj f1
 subst f1;subst f2
 have hadd:aO γ (.a2 (.bin .add) w (.int .i64 (.ofNat c)))=some (.val (.int .i64 (x+c))):=zM (b:=c) f0 rfl (by omega) (by omega)
 exact h0 ⟨_,JC hadd g3 g4,x+c,m',es',rfl,by omega,by omega⟩
theorem DN {nm nm2 nm3 nm4 nm':String} {N c:Nat} (hK:K T=[.int .i64,.int .i64,.str,.sl T]) (hN:N+1≤1073741824) (hc:c≤4) {w w' n e n' e':SE} (h2:(Fact.rel nm false (dD K T (N+1)) [n,e]).holds γ) (h1:(Fact.tr (.a2 (.bin .gtr) n (.int .i64 (.ofNat 0)))).holds γ)
  (h3:(Fact.rel nm2 false (ng K T) [n',e',.a2 (.bin .sub) n (.int .i64 (.ofNat 1)),e,.a2 (.at 4 3) e (.a2 (.bin .sub) n (.int .i64 (.ofNat 1))),.a2 (.bin .sub) (.a1 .len (.a2 (.at 4 3) e (.a2 (.bin .sub) n (.int .i64 (.ofNat 1))))) (.int .i64 (.ofNat 1))]).holds γ)
  (h4:(Fact.rel nm3 false (uz K T) [w,n,e]).holds γ) (h5:(Fact.rel nm4 false (kM K T) [w',.a2 (.bin .add) w (.int .i64 (.ofNat c)),n',e']).holds γ) (h0:(Fact.rel nm' true (kM K T) [w',w,n,e]).holds γ):False:=by
 obtain ⟨m,m',es,es',k,nn,str,l,ss,g1,g2,g3,g4,g5,g6,g7,g8, -,g9⟩:=NR hK hN h2 h1 h3
 obtain ⟨x,m2,es2,f0,f1,f2,f3,f4⟩:=Oh h4
 obtain ⟨y',y,m3,es3,p0,p1,p2,p3,p4⟩:=TM h5
 rw [g1] at f1;rw [g2] at f2;rw [g3] at p2;rw [g4] at p3
 have f1:=Option.some.inj f1;injection f1 with f1;injection f1 with _ f1
 have f2:=Option.some.inj f2;injection f2 with _ f2
 have p2:=Option.some.inj p2;injection p2 with p2;injection p2 with _ p2
 have p3:=Option.some.inj p3;injection p3 with _ p3
 have f1:m+1=m2:=Int.ofNat.inj f1
 have p2:m'=m3:=Int.ofNat.inj p2
 subst f1;subst f2;subst p2;subst p3
 have hadd:aO γ (.a2 (.bin .add) w (.int .i64 (.ofNat c)))=some (.val (.int .i64 (x+c))):=zM (b:=c) f0 rfl (by omega) (by omega)
 rw [hadd] at p1
 have p1:=Option.some.inj p1;injection p1 with p1;injection p1 with _ p1
 exact h0 ⟨_,OI p0 f0 g1 g2,y',x,m+1,es,rfl,by omega⟩
theorem a4C {nm nm':String} {w n e:SE} (h4:(Fact.rel nm false (uz K T) [w,n,e]).holds γ) (h0:(Fact.rel nm' true (kM K T) [w,w,n,e]).holds γ):False:=by
 obtain ⟨x,m2,es2,f0,f1,f2,f3,f4⟩:=Oh h4
 exact h0 ⟨_,OI f0 f0 f1 f2,x,x,m2,es2,rfl,by omega⟩
theorem Rk {op:BinOp} (hop:lT op=true) {b:Bool} {x:SE} {a c:Int} (h:aO γ (.a2 (.bin op) x (.int .i64 c))=some (.val (.bool b))) (hx:aO γ x=some (.val (.int .i64 a))):Dq op a c=b:=by
 have hc:Rf (.a2 (.bin op) x (.int .i64 c))=some (op,x,.i64,c):=by
  show (match lT op with|false=>none|true=>_)=_
  rw [hop]
 obtain ⟨j,g1,e1⟩:=zn hc h
 rw [hx] at g1
 have g1:=Option.some.inj g1
 injection g1 with g1;injection g1 with _ g1
 subst g1
 injection e1 with e1;injection e1 with e1
 exact e1.symm
theorem aQ {x:SE} {a c:Int} (h:(Fact.tr (.a2 (.bin .eql) x (.int .i64 c))).holds γ) (hx:aO γ x=some (.val (.int .i64 a))):a=c:=of_decide_eq_true (Rk (op:=.eql) rfl h hx)
theorem au {x:SE} {a c:Int} (h:(Fact.fl (.a2 (.bin .eql) x (.int .i64 c))).holds γ) (hx:aO γ x=some (.val (.int .i64 a))):a≠c:=of_decide_eq_false (Rk (op:=.eql) rfl h hx)
theorem dU {x:SE} {a c:Int} (h:(Fact.tr (.a2 (.bin .leq) x (.int .i64 c))).holds γ) (hx:aO γ x=some (.val (.int .i64 a))):a≤c:=of_decide_eq_true (Rk (op:=.leq) rfl h hx)
theorem um {x:SE} {a c:Int} (h:(Fact.fl (.a2 (.bin .leq) x (.int .i64 c))).holds γ) (hx:aO γ x=some (.val (.int .i64 a))):¬ a≤c:=of_decide_eq_false (Rk (op:=.leq) rfl h hx)
theorem eu {x:SE} {a c:Int} (h:(Fact.tr (.a2 (.bin .geq) x (.int .i64 c))).holds γ) (hx:aO γ x=some (.val (.int .i64 a))):c≤a:=of_decide_eq_true (Rk (op:=.geq) rfl h hx)
theorem Du {x:SE} {a c:Int} (h:(Fact.fl (.a2 (.bin .geq) x (.int .i64 c))).holds γ) (hx:aO γ x=some (.val (.int .i64 a))):¬ c≤a:=of_decide_eq_false (Rk (op:=.geq) rfl h hx)
theorem a7C {x:SE} {a c:Int} (h:(Fact.tr (.a2 (.bin .gtr) x (.int .i64 c))).holds γ) (hx:aO γ x=some (.val (.int .i64 a))):c < a:=of_decide_eq_true (Rk (op:=.gtr) rfl h hx)
theorem bY {x:SE} {s:ByteArray} (h:aO γ x=some (.val (.string s))):aO γ (.a1 .len x)=some (.val (.int .i64 s.size)):=by
 show (aO γ x).bind _=_
 rw [h];rfl
theorem aaW {b:Bool} {x:SE} {s:ByteArray} (h:aO γ (.a2 (.bin .eql) x (.str []))=some (.val (.bool b))) (hx:aO γ x=some (.val (.string s))):(b=true↔s.size=0):=by
 obtain ⟨u,v,q,g1,g2,g3,g4⟩:=Kw (p:=true) rfl h
 rw [hx] at g1
 have g1:=Option.some.inj g1;injection g1 with g1
 have g2:=Option.some.inj (show some (Dt.val (.string ⟨⟨[]⟩⟩))=some _ from g2)
 injection g2 with g2
 subst g1;subst g2
 injection g3 with g3;injection g3 with g3
 have g3:b=q:=g3
 rw [g3,g4]
 constructor
 ·intro e;injection e with e;rw [e];rfl
 ·intro e
  have:s=⟨⟨[]⟩⟩:=by
   cases s with
   |mk d=>
    have hd:d.size=0:=e
    rw [Array.eq_empty_of_size_eq_zero hd]
  rw [this]
theorem eG {x:SE} {s:ByteArray} (h:(Fact.tr (.a2 (.bin .eql) x (.str []))).holds γ) (hx:aO γ x=some (.val (.string s))):s.size=0:=(aaW h hx).1 rfl
theorem uj {x:SE} {s:ByteArray} (h:(Fact.fl (.a2 (.bin .eql) x (.str []))).holds γ) (hx:aO γ x=some (.val (.string s))):s.size≠0:=fun e=>by
 have:=(aaW h hx).2 e
 cases this
end
end Go.Proofs.YtjioppomopfifaaGreatDoor.Abs
namespace Go.Proofs.YtjioppomopfifaaGreatDoor.Abs
open Go
mutual
theorem Alike.symm:∀{x y:Dt},Alike x y→Alike y x
 |_,_,.val v=>.val v
 |_,_,.sl _ _ _ _ _ _ _ _ _ _ _ h=>.sl _ _ _ _ _ _ _ _ _ _ _ h.symm
theorem jE.symm:∀{a b:List Dt},jE a b→jE b a
 |_,_,.nil=>.nil
 |_,_,.cons _ _ _ _ h1 h2=>.cons _ _ _ _ h1.symm h2.symm
end
mutual
theorem Alike.trans:∀{x y z:Dt},Alike x y→Alike y z→Alike x z
 |_,_,_,.val _,h=>h
 |_,_,_,.sl _ _ _ _ _ _ _ _ _ _ _ h,.sl _ _ _ _ _ _ _ _ _ _ _ h'=>.sl _ _ _ _ _ _ _ _ _ _ _ (h.trans h')
theorem jE.trans:∀{a b c:List Dt},jE a b→jE b c→jE a c
 |_,_,_,.nil,h=>h
 |_,_,_,.cons _ _ _ _ h1 h2,.cons _ _ _ _ h3 h4=>.cons _ _ _ _ (h1.trans h3) (h2.trans h4)
end
def ah (l:List Dt):Prop:=∃a b c d,l=[a,b,c,d]∧TK a b c d
section
variable {K:TypeId→List Kd} {T:TypeId} {γ:G}
theorem NT {nm:String} {B:Nat} (hK:K T=[.int .i64,.int .i64,.str,.sl T]) {x y z t:SE} (h1:(Fact.rel nm false (aj K T B) [x,y,z,t]).holds γ):∃(k n:Int) (s:ByteArray) (a:Option Addr) (l c sz:Nat) (ss:List Dt),aO γ x=some (.val (.int .i64 k))∧aO γ y=some (.val (.int .i64 n))∧aO γ z=some (.val (.string s))∧aO γ t=some (.sl (.slice a l c) T sz ss)∧
  BF K T a l sz ss∧Dt.Em K (K T) 0 [.val (.int .i64 k),.val (.int .i64 n),.val (.string s),.sl (.slice a l c) T sz ss]∧eP ss+4 < B∧
  aO γ (.a2 .sn (.a2 .sn (.a2 .sn (.a2 .sn (.a1 (.nl [.int .i64,.int .i64,.str,.sl T]) (.bool true)) x) y) z) t)=some (.ls (K T) [.val (.int .i64 k),.val (.int .i64 n),.val (.string s),.sl (.slice a l c) T sz ss]):=by
 obtain ⟨li,hl, -,h2,h3⟩:=h1
 obtain ⟨a,b,c,d,rfl,e1,e2',e3',e4⟩:=pF hl
 have hl4:(K T).length=4:=by rw [hK];rfl
 have hnl:aO γ (.a1 (.nl [.int .i64,.int .i64,.str,.sl T]) (.bool true))=some (.ls (K T) []):=by rw [hK];rfl
 have kd:∀(q:Nat) d',q < 4→([a,b,c,d]:List Dt)[q]? =some d'→∃k,(K T)[q]? =some k∧k.fits d':=by
  intro q d' hq hd
  have:=(h2.get hd).1
  rwa [Nat.zero_add,hl4,Nat.mod_eq_of_lt hq] at this
 obtain ⟨k0,q0,f0⟩:=kd 0 a (by omega) rfl
 obtain ⟨k1,q1,f1⟩:=kd 1 b (by omega) rfl
 obtain ⟨k2,q2,f2⟩:=kd 2 c (by omega) rfl
 obtain ⟨k3,q3,f3⟩:=kd 3 d (by omega) rfl
 have s0:=jY hnl e1 (q:=k0) (by rw [hl4];exact q0) f0
 have s1:=jY s0 e2' (q:=k1) (by rw [hl4];exact q1) f1
 have s2:=jY s1 e3' (q:=k2) (by rw [hl4];exact q2) f2
 have s3:=jY s2 e4 (q:=k3) (by rw [hl4];exact q3) f3
 have hd:=(h2.get (i:=3) (d:=d) rfl).2
 rw [hK] at q0 q1 q2 q3
 simp only [List.getElem?_cons_zero,List.getElem?_cons_succ,Option.some.injEq] at q0 q1 q2 q3
 subst q0;subst q1;subst q2;subst q3
 obtain ⟨k,rfl⟩:=f0
 obtain ⟨n,rfl⟩:=f1
 obtain ⟨s,rfl⟩:=f2
 obtain ⟨a',l,c',sz,ss,rfl,g1⟩:=Oz f3 hd
 simp only [eP,PV] at h3
 exact ⟨k,n,s,a',l,c',sz,ss,e1,e2',e3',e4,g1,h2,by omega,s3⟩
theorem check_sound {nm nm2 nm':String} {B:Nat} (hK:K T=[.int .i64,.int .i64,.str,.sl T]) {x y z t:SE} (h1:(Fact.rel nm false (aj K T B) [x,y,z,t]).holds γ)
  (h2:(Fact.rel nm2 false (jR K T) [.int .i64 (.ofNat 1),.a2 .sn (.a2 .sn (.a2 .sn (.a2 .sn (.a1 (.nl [.int .i64,.int .i64,.str,.sl T]) (.bool true)) x) y) z) t]).holds γ) (h0:(Fact.rel nm' true ah [x,y,z,t]).holds γ):False:=by
 obtain ⟨k,n,s,a,l,c,sz,ss,e1,e2',e3',e4,g1,g2,g3,g4⟩:=NT hK h1
 obtain ⟨m,es,f1,f2,f3⟩:=Gz h2
 rw [g4] at f2
 have f2:=Option.some.inj f2;injection f2 with _ f2
 have f1:=Option.some.inj (show some (Dt.val (.int .i64 (.ofNat 1)))=some _ from f1)
 injection f1 with f1;injection f1 with _ f1
 have f1:1=m:=Int.ofNat.inj f1
 subst f1;subst f2
 exact h0 ⟨_,OI e1 e2' e3' e4,_,_,_,_,rfl,kZ.one.1 f3⟩
theorem a0v {nm:String} {x y z t:SE} (h:(Fact.rel nm false ah [x,y,z,t]).holds γ):∃a b c d,aO γ x=some a∧aO γ y=some b∧aO γ z=some c∧aO γ t=some d∧TK a b c d:=by
 obtain ⟨l,hl,a,b,c,d,rfl,h1⟩:=h
 obtain ⟨d1,d2,d3,d4,e1,e2,e3,e4,e5⟩:=pF hl
 injection e1 with q1 e1;injection e1 with q2 e1;injection e1 with q3 e1;injection e1 with q4 _
 subst q1;subst q2;subst q3;subst q4
 exact ⟨a,b,c,d,e2,e3,e4,e5,h1⟩
end
section
variable {K:TypeId→List Kd} {T:TypeId} {γ:G}
theorem a4s {nm:String} {M:Nat} {n e s i:SE} (h:(Fact.rel nm false (pBack K T 0 M) [n,e,s,i]).holds γ):False:=by
 obtain ⟨m,es,a,k,c,sz,ss,j, -, -, -, -, -, -, -,h1, -,h2, -⟩:=rY h
 omega
theorem Ux {nm:String} {n e:SE} (h:(Fact.rel nm false (dD K T 0) [n,e]).holds γ):False:=by
 obtain ⟨m,es, -, -, -, -,h1⟩:=y9 h
 omega
end
theorem NZ {P:Program} {c:Nat→nK} {B:Nat} (z:bM P (c 0)) (h:∀N,N+1≤B→bM P (c N)→bM P (c (N+1))):∀N,N≤B→bM P (c N)
 | 0,_=>z
 |N+1,hN=>h N hN (NZ z h N (by omega))
end Go.Proofs.YtjioppomopfifaaGreatDoor.Abs
namespace Go.Proofs.YtjioppomopfifaaGreatDoor.Abs
open Go Go.ChangeShapes
theorem mem_of {p:List Nat} {Q:Nat→Prop} (h:∀i∈p,Q i) (i:Nat) (e:p.contains i=true):Q i:=h i (by simpa using e)
end Go.Proofs.YtjioppomopfifaaGreatDoor.Abs
namespace Go.Proofs.YtjioppomopfifaaGreatDoor.Abs
open Go
structure FS where
 to:List Nat
 nm:Option String
 un:Bool
 gs:List Nat
 er:Option String
 go:Bool
 deriving Inhabited
def a1n (P:Program) (fn:Func):FS:=
 ⟨P.leadsTo fn,if fn.ours || fn.body.isNone || fn.name== "runtime.NumGoroutine" then some fn.name else none,
  (match fn.body with|some c=>c.unfollowed|none=>entryCalls fn),fn.body.elim [] Code.globalsNamed,
  if fn.body.isNone then entryReads.lookup fn.name else none,fn.goes⟩
noncomputable def a1m (T:Tr FS) (g:Nat):List Nat:=(T.get g).elim [] FS.to
noncomputable def clT (T:Tr FS):Nat→List Nat→List Nat→Nat→List Nat:=
 @Nat.rec (fun _=>List Nat→List Nat→Nat→List Nat) (fun _ seen _=>seen.reverse)
  (fun _ cl todo seen m=>
    @List.rec Nat (fun _=>List Nat) seen.reverse
     (fun f todo _=>@Bool.rec (fun _=>List Nat)
       (cl (a1m T f++todo) (f::seen) (Nat.lor m (Nat.shiftLeft 1 f)))
       (cl todo seen m)
       (Nat.beq (Nat.land (Nat.shiftRight m f) 1) 1)) todo)
theorem acK (m f:Nat):Nat.beq (Nat.land (Nat.shiftRight m f) 1) 1=m.testBit f:=by
 have h1:Nat.land (Nat.shiftRight m f) 1=(m >>> f) % 2:=Nat.and_one_is_mod (m >>> f)
 rw [h1,Nat.testBit_eq_decide_div_mod_eq,Nat.shiftRight_eq_div_pow]
 rcases Nat.mod_two_eq_zero_or_one (m / 2 ^ f) with h|h<;>rw [h]<;>rfl
structure wR (P:Program) (L:List FS):Prop where
 eq:P.funcs.toList.map (a1n P)=L
theorem wR.get {P:Program} {L:List FS} (h:wR P L) (g:Nat):(P.funcs[g]?).map (a1n P)=(Tr.ofList L).get g:=by
 rw [Tr.iy,←h.eq,List.getElem?_map,Array.getElem?_toList]
theorem wR.to {P:Program} {L:List FS} (h:wR P L) (g:Nat):(P.funcs[g]?).elim [] P.leadsTo=a1m (Tr.ofList L) g:=by
 unfold a1m;rw [←h.get];cases P.funcs[g]? <;>rfl
theorem wR.bind {P:Program} {L:List FS} (h:wR P L) {α:Type} (g:Nat) (p:Func→Option α) (q:FS→Option α) (hp:∀fn,p fn=q (a1n P fn)):(P.funcs[g]?).bind p=((Tr.ofList L).get g).bind q:=by
 rw [←h.get];cases P.funcs[g]? with
 |none=>rfl
 |some fn=>exact hp fn
theorem wR.any {P:Program} {L:List FS} (h:wR P L) (g:Nat) (p:Func→Bool) (q:FS→Bool) (hp:∀fn,p fn=q (a1n P fn)):(P.funcs[g]?).any p=((Tr.ofList L).get g).any q:=by
 rw [←h.get];cases P.funcs[g]? with
 |none=>rfl
 |some fn=>exact hp fn
theorem yL {P:Program} {L:List FS} (h:wR P L):∀(n:Nat) (todo seen:List Nat) (m:Nat),(∀f,m.testBit f=seen.contains f)→
  P.closureVia n todo seen=clT (Tr.ofList L) n todo seen m
 | 0,_,_,_,_=>by unfold Program.closureVia;rfl
 |n+1,[],_,_,_=>by unfold Program.closureVia;rfl
 |n+1,f::todo,seen,m,hm=>by
  rw [Program.closureVia]
  show _=@Bool.rec (fun _=>List Nat) (clT (Tr.ofList L) n (a1m (Tr.ofList L) f++todo) (f::seen) (Nat.lor m (Nat.shiftLeft 1 f))) (clT (Tr.ofList L) n todo seen m) (Nat.beq (Nat.land (Nat.shiftRight m f) 1) 1)
  rw [acK,hm f]
  cases hc:seen.contains f with
  |true=>exact yL h n todo seen m hm
  |false=>
   show P.closureVia n _ _=_
   rw [h.to]
   refine yL h n _ _ _ fun g=> ?_
   show (m ||| 1 <<< f).testBit g=_
   rw [Nat.testBit_or,hm g,Nat.testBit_shiftLeft,List.contains_cons,Bool.or_comm]
   congr 1
   by_cases he:g=f
   ·subst he;simp
   ·have:(g==f)=false:=by simpa using he
    rw [this]
    by_cases hg:g ≥ f
    ·simp only [hg,decide_true,Bool.true_and]
     have:g - f≠0:=by omega
     obtain ⟨k,hk⟩:=Nat.exists_eq_succ_of_ne_zero this
     rw [hk];simp [Nat.testBit_succ]
    ·simp [hg]
def a6m (L:List FS):Nat:=1+(L.map fun x=>x.to.length+1).sum
theorem Rh {P:Program} {L:List FS} (h:wR P L) (f:Nat):P.closure f=clT (Tr.ofList L) (a6m L) [f] [] 0:=by
 unfold Program.closure
 rw [yL h _ [f] [] 0 (fun g=>by simp)]
 congr 1
 unfold a6m
 rw [←h.eq,List.map_map];rfl
structure Bo (P:Program) (T:Tr FS) (N:Nat) (f:Nat) (K:List Nat):Prop where
 h:∀g,(P.funcs[g]?).map (a1n P)=T.get g
 all:∀g,P.closure g=clT T N [g] [] 0
 cl:P.closure f=K
theorem aex {P:Program} {L:List FS} {f:Nat} {K:List Nat} {T:Tr FS} {N:Nat} (h:wR P L) (hT:T=Tr.ofList L) (hN:N=a6m L) (hk:clT T N [f] [] 0=K):Bo P T N f K:=
 ⟨fun g=>by rw [h.get,hT],fun g=>by rw [Rh h,hT,hN],by rw [Rh h,←hT,←hN,hk]⟩
theorem Bo.bind {P:Program} {T:Tr FS} {N f:Nat} {K:List Nat} (h:Bo P T N f K) {α:Type} (g:Nat) (p:Func→Option α) (q:FS→Option α) (hp:∀fn,p fn=q (a1n P fn)):(P.funcs[g]?).bind p=(T.get g).bind q:=by
 rw [←h.h];cases P.funcs[g]? with
 |none=>rfl
 |some fn=>exact hp fn
theorem Bo.any {P:Program} {T:Tr FS} {N f:Nat} {K:List Nat} (h:Bo P T N f K) (g:Nat) (p:Func→Bool) (q:FS→Bool) (hp:∀fn,p fn=q (a1n P fn)):(P.funcs[g]?).any p=(T.get g).any q:=by
 rw [←h.h];cases P.funcs[g]? with
 |none=>rfl
 |some fn=>exact hp fn
theorem Bo.to {P:Program} {T:Tr FS} {N f:Nat} {K:List Nat} (h:Bo P T N f K) (g:Nat):(P.funcs[g]?).elim [] P.leadsTo=a1m T g:=by
 unfold a1m;rw [←h.h];cases P.funcs[g]? <;>rfl
theorem Bo.inPlace {P:Program} {T:Tr FS} {N f:Nat} {K:List Nat} (h:Bo P T N f K) {r:List String} (e:K.filterMap (fun g=>(T.get g).bind (·.nm))=r):P.inPlace f=r:=by
 unfold Program.inPlace
 rw [h.cl,←e]
 congr 1;funext g
 exact h.bind g _ _ fun _=>rfl
theorem Bo.unfollowed {P:Program} {T:Tr FS} {N f:Nat} {K:List Nat} (h:Bo P T N f K) {r:Bool} (e:K.any (fun g=>(T.get g).any (·.un))=r):P.unfollowed f=r:=by
 unfold Program.unfollowed
 rw [h.cl,←e]
 congr 1;funext g
 exact h.any g _ _ fun _=>rfl
theorem Bo.recurses {P:Program} {T:Tr FS} {N f:Nat} {K:List Nat} (h:Bo P T N f K) {r:Bool}
  (e:(K.any (fun g=>(T.get g).any (·.un)) || K.any fun g=>(a1m T g).any fun x=>(clT T N [x] [] 0).contains g)=r):P.recurses f=r:=by
 unfold Program.recurses
 rw [h.unfollowed rfl,h.cl,←e]
 congr 2;funext g
 rw [h.to]
 congr 1;funext x
 rw [h.all]
theorem Bo.varsNamed {P:Program} {T:Tr FS} {N f:Nat} {K:List Nat} (h:Bo P T N f K) {gs:List Nat} {r:List String}
  (e1:(K.flatMap fun g=>(T.get g).elim [] (·.gs)).eraseDups=gs)
  (e:(gs.filterMap (fun g=>(P.globals[g]?).map (·.name))++K.filterMap fun g=>(T.get g).bind (·.er)).eraseDups=r):P.varsNamed f=r:=by
 unfold Program.varsNamed
 have h1:(P.closure f).flatMap (fun g=>((P.funcs[g]?).bind (·.body)).elim [] Code.globalsNamed)=K.flatMap fun g=>(T.get g).elim [] (·.gs):=by
  rw [h.cl];congr 1;funext g
  rw [←h.h];cases P.funcs[g]? <;>rfl
 have h2:(P.closure f).filterMap (fun g=>(P.funcs[g]?).bind fun fn=>if fn.body.isNone then entryReads.lookup fn.name else none)=K.filterMap fun g=>(T.get g).bind (·.er):=by
  rw [h.cl];congr 1;funext g
  exact h.bind g _ _ fun _=>rfl
 rw [h1,h2,e1,e]
theorem Bo.goes {P:Program} {T:Tr FS} {N f:Nat} {K:List Nat} (h:Bo P T N f K) (e1:K.any (fun g=>(T.get g).any (·.un))=false) (e:K.any (fun g=>(T.get g).any (·.go))=false):P.goes f=false:=by
 unfold Program.goes
 rw [h.unfollowed e1,Bool.false_and,Bool.or_false,h.cl,←e]
 congr 1;funext g
 exact h.any g _ _ fun _=>rfl
theorem Bo.goesBy {P:Program} {T:Tr FS} {N f:Nat} {K:List Nat} (h:Bo P T N f K) {c:OpenClaim} (hf:P.funcNamed c.func=some f) (hs:c.start=.entering)
  (e1:K.any (fun g=>(T.get g).any (·.un))=false) (e:K.any (fun g=>(T.get g).any (·.go))=false):false=c.goesBy P:=by
 unfold OpenClaim.goesBy Program.goesAt Program.goesFrom
 rw [hf,hs]
 show false=(P.goes f || false)
 rw [h.goes e1 e];rfl
theorem wR.abx {P:Program} {L:List FS} (h:wR P L) (e:L.any (·.go)=false) (f:Nat):P.goes f=false:=by
 have h1:P.funcs.any Func.goes=false:=by
  rw [←Array.any_toList,←e,←h.eq,List.any_map];rfl
 have h2:∀g:Nat,(P.funcs[g]?).any Func.goes=false:=fun g=>by
  cases hg:P.funcs[g]? with
  |none=>rfl
  |some fn=>
   show Func.goes fn=false
   have h3:=h1
   rw [Array.any_eq_false] at h3
   obtain ⟨hi,he⟩:=Array.getElem?_eq_some_iff.1 hg
   have:=h3 g hi
   rw [he] at this
   exact Bool.eq_false_iff.2 this
 unfold Program.goes
 rw [h1,Bool.and_false,Bool.or_false,List.any_eq_false]
 exact fun g _=>by rw [h2 g];exact Bool.false_ne_true
theorem wR.goesBy {P:Program} {L:List FS} (h:wR P L) (e:L.any (·.go)=false) {c:OpenClaim} (hs:c.start=.entering):false=c.goesBy P:=by
 unfold OpenClaim.goesBy Program.goesAt Program.goesFrom
 rw [hs]
 cases P.funcNamed c.func with
 |none=>rfl
 |some f=>show false=(P.goes f || false);rw [h.abx e f];rfl
theorem acS {α β:Type} {l:List α} {f:α→β} {a n:Nat} {x y:List β} (h1:((l.drop a).take n).map f=x) (h2:(l.drop (a+n)).map f=y):(l.drop a).map f=x++y:=by
 rw [←h1,←h2,←List.map_append,←List.drop_drop,List.take_append_drop]
theorem aaZ {α:Type} [BEq α] [ReflBEq α] {a b:α} (h:b=a):(a==b)=true:=by rw [h];exact BEq.refl a
theorem acR {p:Nat→Bool} {n:Nat} (a:Nat) (h:Nat.ble n a=true):∀i,a≤i→i < n→p i=true:=fun _ h1 h2=>absurd (Nat.lt_of_lt_of_le h2 (Nat.le_of_ble_eq_true h)) (Nat.not_lt.2 h1)
theorem aav {p:Nat→Bool} {n:Nat} (a k:Nat) (h:(List.range' a k).all p=true) (h2:∀i,a+k≤i→i < n→p i=true):∀i,a≤i→i < n→p i=true:=fun i h3 h4=>by
 rcases Nat.lt_or_ge i (a+k) with h5|h5
 ·exact List.all_eq_true.1 h i (List.mem_range'_1.2 ⟨h3,h5⟩)
 ·exact h2 i h5 h4
theorem JD {p:Nat→Bool} {n:Nat} (h:∀i,0≤i→i < n→p i=true):(List.range n).all p=true:=
 List.all_eq_true.2 fun i hi=>h i (Nat.zero_le i) (List.mem_range.1 hi)
theorem laidOutB_of {P:Program} (h1:∀i,0≤i→i < P.types.size→rowFine P i=true) (h2:P.globals.all (fun g=>decide (g.type < P.types.size))=true)
  (h3:P.funcs.all (fun f=>f.params.all fun t=>decide (t < P.types.size))=true):laidOutB P=true:=by
 unfold laidOutB
 rw [JD h1,h2,h3];rfl
def aaz (P:Program) (t:Nat):Bool:=match P.underlying t with|some (.map _ e)=>decide (e < P.types.size)|_=>true
theorem mapsRowed_of {P:Program} (h:∀i,0≤i→i < P.types.size→aaz P i=true):mapsRowed P=true:=by
 unfold mapsRowed
 exact JD (p:=aaz P) h
def aaB (P:Program) (t:Nat):Bool:=match P.underlying t with
    |some (.map k _)=>(match P.underlying k with|some (.array _ _)|some (.struct _)=>false|_=>true)
    |_=>true
theorem plainKeys_of {P:Program} (h:∀i,0≤i→i < P.types.size→aaB P i=true):P.plainKeys=true:=by
 unfold Program.plainKeys
 exact JD (p:=aaB P) h
end Go.Proofs.YtjioppomopfifaaGreatDoor.Abs
namespace Go.Proofs.YtjioppomopfifaaGreatDoor.Abs
open Go
noncomputable def aN (P:Program) (u:DL) (pT pS:PD):nK:=
 { ZO P u pT with
   facts:=[.rel "term" false pT [.var u.nG,.var (u.nG+1),.var (u.nG+2),.var (u.nG+3)],.rel "sound" false pS [.var u.nG,.var (u.nG+1),.var (u.nG+2),.var (u.nG+3)]],
   outs:=[{ res:=.int .i64 0,post:=[],facts:=[],m:=0 }] }
section
variable {K:TypeId→List Kd} {T:TypeId} {γ:G}
abbrev abo (T:TypeId) (x y z t:SE):SE:=.a2 .sn (.a2 .sn (.a2 .sn (.a2 .sn (.a1 (.nl [.int .i64,.int .i64,.str,.sl T]) (.bool true)) x) y) z) t
theorem a8B {nm nm3 nm':String} {B:Nat} (hK:K T=[.int .i64,.int .i64,.str,.sl T]) {x y z t:SE} (h1:(Fact.rel nm false (aj K T B) [x,y,z,t]).holds γ) (h3:(Fact.rel nm3 false ah [x,y,z,t]).holds γ)
  (h0:(Fact.rel nm' true (jR K T) [.int .i64 (.ofNat 1),abo T x y z t]).holds γ):False:=by
 obtain ⟨k,n,s,a,l,c,sz,ss,e1,e2',e3',e4,g1,g2,g3,g4⟩:=NT hK h1
 obtain ⟨a1,b1,c1,d1,f1,f2,f3,f4,h⟩:=a0v h3
 rw [e1] at f1;rw [e2'] at f2;rw [e3'] at f3;rw [e4] at f4
 obtain rfl:=Option.some.inj f1
 obtain rfl:=Option.some.inj f2
 obtain rfl:=Option.some.inj f3
 obtain rfl:=Option.some.inj f4
 refine h0 ⟨_,sJ rfl g4,1,_,rfl, ?_⟩
 rw [List.take_of_length_le (by simp)]
 exact kZ.one.2 h
theorem a8A {nm nm':String} {B:Nat} (hK:K T=[.int .i64,.int .i64,.str,.sl T]) (hB:B≤1000000) {x y z t:SE} (h1:(Fact.rel nm false (aj K T B) [x,y,z,t]).holds γ)
  (h0:(Fact.rel nm' true (uz K T) [.int .i64 (.ofNat 0),.int .i64 (.ofNat 1),abo T x y z t]).holds γ):False:=by
 obtain ⟨k,n,s,a,l,c,sz,ss,e1,e2',e3',e4,g1,g2,g3,g4⟩:=NT hK h1
 refine h0 ⟨_,JC rfl rfl g4,0,1,_,rfl,by decide, ?_⟩
 rw [List.take_of_length_le (by simp)]
 simp only [eP,PV]
 omega
theorem a3B {nm nm3:String} {B:Nat} (hK:K T=[.int .i64,.int .i64,.str,.sl T]) (hB:B≤60000) {x y z t v:SE} (h1:(Fact.rel nm false (aj K T B) [x,y,z,t]).holds γ)
  (h3:(Fact.rel nm3 false (kM K T) [v,.int .i64 (.ofNat 0),.int .i64 (.ofNat 1),abo T x y z t]).holds γ) (h0:(Fact.tr (.a2 (.bin .gtr) v (.int .i64 (.ofNat 65536)))).holds γ):False:=by
 obtain ⟨k,n,s,a,l,c,sz,ss,e1,e2',e3',e4,g1,g2,g3,g4⟩:=NT hK h1
 obtain ⟨x',x0,m,es,p0,p1,p2,p3,p4⟩:=TM h3
 rw [g4] at p3
 have p3:=Option.some.inj p3;injection p3 with _ p3
 have p1:=Option.some.inj (show some (Dt.val (.int .i64 (.ofNat 0)))=some _ from p1)
 injection p1 with p1;injection p1 with _ p1
 have p2:=Option.some.inj (show some (Dt.val (.int .i64 (.ofNat 1)))=some _ from p2)
 injection p2 with p2;injection p2 with _ p2
 have p2:1=m:=Int.ofNat.inj p2
 subst p1;subst p2;subst p3
 have h:=a7C h0 p0
 rw [List.take_of_length_le (by simp)] at p4
 simp only [eP,PV] at p4
 simp only [Int.ofNat_eq_natCast] at h p4
 omega
end
end Go.Proofs.YtjioppomopfifaaGreatDoor.Abs
