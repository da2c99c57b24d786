/- A part of the proof of ScriptParses: Walk. Conditions: those of each theorem. -/
import Derived.Test.YtokipodjggomfaaGreatDoorScrK4
import Derived.Test.YtokipodjggomfaaGreatDoorScrK9
import Derived.Test.YtokipodjggomfaaGreatDoorScrRun
import Derived.Test.YtokipodjggomfaaGreatDoorTie
import Derived.Test.YtokipodjggomfaaGreatDoorCards
import Derived.WalkKit
import Derived.ProofKit
import Derived.OpenShut
import Derived.SevenTiedAt
import Derived.ChangeCalls
import Derived.Shelf.Vars
set_option linter.unusedVariables false
set_option linter.unusedSimpArgs false
namespace Go.Proofs.YtokipodjggomfaaGreatDoor
open Go Go.ChangeShapes Go.WideShapes Go.ChangeAt Go.RowKit Go.Proofs.YtokipodjggomfaaGreatDoor
theorem Zp:ownKnob Tryz.prog.godebug=none:=by kernel_rfl
theorem VI:Abs.Good Sa:=Cp (u7 a1r (u7 a1q (u7 VK (u7 Hf (u7 Hg cQ))))) (aM a2G (aM YR (aM (Ym 1073741824 (aX _)) cR)))
set_option maxRecDepth 100000 in
theorem MJ(os:Os)(c:os.Started)(H:Type)(qf:TypeId×Value->H):
  ReturnsInHanded {} Tryz.checked os 3 .any (λw args=>(Rows.scriptParsesSpec.pre qf Tryz.prog Tryz.f3 Rows.scriptParsesRow.domain false w args/\laidMetH Tryz.prog Rows.scriptParsesRow.laid w)/\sizedMet qf Tryz.prog Tryz.f3 (OpenSpec.ofChange Rows.scriptParsesSpec) false w args)
   (Rows.scriptParsesSpec.post qf Tryz.prog Tryz.f3 false true false false):=by
 refine Abs.w9 (C:=Tryz.checked) (X:=λw _=>laidMetH Tryz.prog Rows.scriptParsesRow.laid w) (λ_ _ _ hh h=>h.of_heap hh) Zp c (by kernel_rfl) Tryz.func3
  (ChangeSpec.witness_shaped (enc:=qf) (C:=Tryz.checked) (os:=os) (X:=λw _=>laidMetH Tryz.prog Rows.scriptParsesRow.laid w) false (World.laidAll Tryz.prog os Rows.scriptParsesRow.laid) #[.string ⟨#[]⟩] 8 (World.laidAll_os _ _ _)
    (World.shaped_of_ZipB (by kernel_rfl) (by kernel_rfl)) (by kernel_rfl) (by kernel_rfl) (by kernel_rfl)
    (by rw[MakeChecks.laidMetH_plain _ _ _ (by kernel_rfl)];exact laidMet_laidAll _ (by kernel_rfl) (by kernel_rfl))) ?_
 intro W base args ds gs before d O P f a;have i:∀(j:Nat)t v,Tryz.f3.params[j]? =some t->args[j]? =some v->Value.okWide Tryz.prog W .any base t v:=d;have l:=O;obtain⟨p,q,r,U,rfl,V,Z⟩:=O;have E:DataW.TrodAll qf Tryz.prog W 0 (λ_=>true) true Tryz.f3.params.toList args.toList ds p:=r;rw[Tryz.params3]at E i;obtain⟨rfl,rfl⟩:=trodVars_none U;have o:=E;obtain⟨v1,r1,d1,e1,p1,F, -,rfl, -, -,o⟩:=trodAll_cons o;obtain⟨-,rfl, -⟩:=trodAll_nil o;clear r d;simp only[zP]at l;obtain⟨vs,m,hw,hv⟩:=Abs.Hl (g:=0) (t:=3) f (by kernel_rfl) (by kernel_rfl)
  (Go.Proofs.cell_of_shapedOpen_int (zero:=#[.int .i64 0]) (t:=3) f (bq (by kernel_rfl)) (by kernel_rfl) rfl (by kernel_rfl) (by kernel_rfl) Tryz.underlying3)
 obtain⟨vs1,z1,s,y⟩:=Abs.vF (g:=1) (t:=75) (z:=.nilIface) f (by kernel_rfl) (by kernel_rfl);obtain⟨Q,F,G, -, -⟩:=Abs.Cn a (n:= "strconv.ErrSyntax") (bk _ (bk _ (bk _ (bk _ aV)))) (by kernel_rfl) (g:=1) (t:=75) (by kernel_rfl) (by kernel_rfl) Tryz.underlying75;obtain rfl:z1=Value.iface Q F:=ae (by rw[<-y,<-G];simp[World.cell?,s]);obtain⟨vs2,z2,B,D⟩:=Abs.vF (g:=2) (t:=75) (z:=.nilIface) f (by kernel_rfl) (by kernel_rfl);obtain⟨R,S,J, -, -⟩:=Abs.Cn a (n:= "strconv.ErrRange") (bk _ (bk _ (bk _ aV))) (by kernel_rfl) (g:=2) (t:=75) (by kernel_rfl) (by kernel_rfl) Tryz.underlying75;obtain rfl:z2=Value.iface R S:=ae (by rw[<-D,<-J];simp[World.cell?,B]);have K:=Abs.VJ a (n:= "internal/strconv.uint64pow10") (k:=.u64) (zs:=Lib.pow10Tab) (bk _ (bk _ aV)) (by kernel_rfl) f (g:=5) (by kernel_rfl) (by kernel_rfl) Tryz.underlying169 (by kernel_rfl) (by kernel_rfl) (by kernel_rfl) (by kernel_rfl) (t:=169) (z:=⟨List.replicate 20 (Value.int .u64 0)⟩) (by kernel_rfl);refine(Abs.Lu VI uD 1000000 (N:=Abs.fH [d1]) (L:=[kS]) (ts:=[kS]) (by kernel_rfl) (λu hu=>hu) a26 (λid=>if id=0 then some (.int .i64 m)else if id=1 then some (.iface Q F)else if id=2 then some (.iface R S)else none)
  (Zo _) (sU (a2Y _)) W E (λj t v A I=>i j t v (by rw[<-xN];exact A) I) (aX _)
  (λgg v b=>by
    split at b
    .obtain rfl:=ae b;rfl
    .split at b
     .obtain rfl:=ae b;rfl
     .split at b
      .obtain rfl:=ae b;rfl
      .cases b)
  (λLd x Y=>by
    simp only[a26,bQ,eE,er]at Y;rcases Y with rfl|rfl|rfl|rfl
    .exact Abs.MY (by kernel_rfl) (by kernel_rfl) hw hv (Abs.KE (bn (by kernel_rfl)) rfl) rfl
    .exact Abs.MY (by kernel_rfl) (by kernel_rfl) s y (Abs.ze (bn (by kernel_rfl)) rfl) rfl
    .exact Abs.MY (by kernel_rfl) (by kernel_rfl) B D (Abs.ze (bn (by kernel_rfl)) rfl) rfl
    .exact Abs.a3n (by kernel_rfl) K)).mono λe W'⟨he,T⟩=>?_
 subst he;exact⟨_,rfl,Abs.UU (pa:=p) (pv:=[]) l (λ_ _ _=>(trodAll_cons_mk (shut_bool Tryz.underlying4 _) trodAll_mk0)) (λsp M=>by rw[Tryz.params3];exact Abs.E3 (by kernel_rfl) T (by kernel_rfl) E (λx Y=>l.lt x Y) M) (λ_ _=>rfl) (zP p).symm
  (Abs.Sb T)⟩
end Go.Proofs.YtokipodjggomfaaGreatDoor
