/- A part of the proof of ScriptReads: 2Walk. Conditions: those of each theorem. -/
import Derived.Test.YtokipodjggomfaaGreatDoorScr2Run
import Derived.Test.YtokipodjggomfaaGreatDoorScr2B
import Derived.Test.YtokipodjggomfaaGreatDoorScr2D
import Derived.Test.YtokipodjggomfaaGreatDoorScr2E
import Derived.Test.YtokipodjggomfaaGreatDoorTie
import Derived.Test.YtokipodjggomfaaGreatDoorCards
import Derived.WalkKit
import Derived.ProofKit
import Derived.OpenShut
import Derived.SevenTiedAt
import Derived.ChangeCalls
import Derived.Shelf.Vars
set_option linter.unusedVariables false
set_option linter.unusedSimpArgs false
namespace Go.Proofs.YtokipodjggomfaaGreatDoor
open Go.ChangeShapes Go.WideShapes Go.ChangeAt Go.RowKit
theorem a0i:ownKnob Tryz.prog.godebug=none:=by kernel_rfl
theorem WA:Abs.Good J5:=Hf (vo a5N (vo a5M (vo a0m (vo Mf (vo Mh (vo Mg dw)))))) (ba (TF 4201) (ba (Q5 4201) (ba (a1l 4202) (ba (TS 4202) (ba (Re 4202) (ba (TH 1073741824 (bD _)) dy))))))
set_option maxRecDepth 100000 in
theorem Pj(os:Os)(c:os.Started)(H:Type)(vn:TypeId×Value->H):
  ReturnsInHanded {} Tryz.checked os 4 .any (λw args=>(Rows.scriptReadsSpec.pre vn Tryz.prog Tryz.f4 Rows.scriptReadsRow.domain false w args/\laidMetH Tryz.prog Rows.scriptReadsRow.laid w)/\sizedMet vn Tryz.prog Tryz.f4 (OpenSpec.ofChange Rows.scriptReadsSpec) false w args)
   (Rows.scriptReadsSpec.post vn Tryz.prog Tryz.f4 false true false false):=by
 refine Abs.BZ (C:=Tryz.checked) (X:=λw _=>laidMetH Tryz.prog Rows.scriptReadsRow.laid w) (λ_ _ _ hh h=>h.of_heap hh) a0i c (by kernel_rfl) Tryz.func4
  (ChangeSpec.witness_shaped (enc:=vn) (C:=Tryz.checked) (os:=os) (X:=λw _=>laidMetH Tryz.prog Rows.scriptReadsRow.laid w) false (World.laidAll Tryz.prog os Rows.scriptReadsRow.laid) #[.string ⟨#[]⟩] 8 (World.laidAll_os _ _ _)
    (World.shaped_of_ZipB (by kernel_rfl) (by kernel_rfl)) (by kernel_rfl) (by kernel_rfl) (by kernel_rfl)
    (by rw[MakeChecks.laidMetH_plain _ _ _ (by kernel_rfl)];exact laidMet_laidAll _ (by kernel_rfl) (by kernel_rfl))) ?_
 intro W base args ds gs before d M O f a;have i:∀(j:Nat)t v,Tryz.f4.params[j]? =some t->args[j]? =some v->Value.okWide Tryz.prog W .any base t v:=d;have l:=M;obtain⟨p,q,r,T,rfl,U,V⟩:=M;have D:DataW.TrodAll vn Tryz.prog W 0 (λ_=>true) true Tryz.f4.params.toList args.toList ds p:=r;rw[Tryz.params4]at D i;obtain⟨rfl,rfl⟩:=trodVars_none T;have o:=D;obtain⟨v1,r1,d1,e1,p1,E, -,rfl, -, -,o⟩:=trodAll_cons o;obtain⟨-,rfl, -⟩:=trodAll_nil o;clear r d;simp only[List.append_nil]at l;obtain⟨vs,m,hw,hv⟩:=Abs.Mn (g:=0) (t:=3) f (by kernel_rfl) (by kernel_rfl)
  (Go.Proofs.cell_of_shapedOpen_int (zero:=#[.int .i64 0]) (t:=3) f (b7 (by kernel_rfl)) (by kernel_rfl) rfl (by kernel_rfl) (by kernel_rfl) Tryz.underlying3)
 obtain⟨vs1,z1,s,y⟩:=Abs.AP (g:=1) (t:=75) (z:=.nilIface) f (by kernel_rfl) (by kernel_rfl);obtain⟨P,E,F, -, -⟩:=Abs.Hd a (n:= "strconv.ErrSyntax") (bQ _ (bQ _ (bQ _ (bQ _ (bQ _ bB))))) (by kernel_rfl) (g:=1) (t:=75) (by kernel_rfl) (by kernel_rfl) Tryz.underlying75;obtain rfl:z1=Value.iface P E:=ae (by rw[<-y,<-F];simp[World.cell?,s]);obtain⟨vs2,z2,A,B⟩:=Abs.AP (g:=2) (t:=75) (z:=.nilIface) f (by kernel_rfl) (by kernel_rfl);obtain⟨Q,R,G, -, -⟩:=Abs.Hd a (n:= "strconv.ErrRange") (bQ _ (bQ _ (bQ _ (bQ _ bB)))) (by kernel_rfl) (g:=2) (t:=75) (by kernel_rfl) (by kernel_rfl) Tryz.underlying75;obtain rfl:z2=Value.iface Q R:=ae (by rw[<-B,<-G];simp[World.cell?,A]);have J:=Abs.a0l a (n:= "internal/strconv.uint64pow10") (k:=.u64) (zs:=Lib.pow10Tab) (bQ _ (bQ _ bB)) (by kernel_rfl) f (g:=5) (by kernel_rfl) (by kernel_rfl) Tryz.underlying169 (by kernel_rfl) (by kernel_rfl) (by kernel_rfl) (by kernel_rfl) (t:=169) (z:=⟨List.replicate 20 (Value.int .u64 0)⟩) (by kernel_rfl);refine(Abs.QK WA zH 1000000 (N:=Abs.hW [d1]) (L:=[kS]) (ts:=[kS]) (by kernel_rfl) (λu hu=>hu) a0j (λid=>if id=0 then some (.int .i64 m)else if id=1 then some (.iface P E)else if id=2 then some (.iface Q R)else none)
  (a0h _) (x2 (a3H _)) W D (λj t v I Y=>i j t v (by rw[<-w5];exact I) Y) (bD _)
  (λgg v b=>by
    split at b
    .obtain rfl:=ae b;rfl
    .split at b
     .obtain rfl:=ae b;rfl
     .split at b
      .obtain rfl:=ae b;rfl
      .cases b)
  (λLd x Z=>by
    simp only[a0j,cC,fJ,fm]at Z;rcases Z with rfl|rfl|rfl|rfl
    .exact Abs.Sk (by kernel_rfl) (by kernel_rfl) hw hv (Abs.PV (bZ (by kernel_rfl)) rfl) rfl
    .exact Abs.Sk (by kernel_rfl) (by kernel_rfl) s y (Abs.Eb (bZ (by kernel_rfl)) rfl) rfl
    .exact Abs.Sk (by kernel_rfl) (by kernel_rfl) A B (Abs.Eb (bZ (by kernel_rfl)) rfl) rfl
    .exact Abs.a7K (by kernel_rfl) J)).mono λe W'⟨he,S⟩=>?_
 subst he;exact⟨_,rfl,Abs.Zr (pa:=p) (pv:=[]) l (λ_ _ _=>(trodAll_cons_mk (shut_bool Tryz.underlying4 _) trodAll_mk0)) (λsp K=>by rw[Tryz.params4];exact Abs.Kr (by kernel_rfl) S (by kernel_rfl) D (λx Z=>l.lt x Z) K) (λ_ _=>rfl) (List.append_nil p).symm
  (Abs.WD S)⟩
end Go.Proofs.YtokipodjggomfaaGreatDoor
