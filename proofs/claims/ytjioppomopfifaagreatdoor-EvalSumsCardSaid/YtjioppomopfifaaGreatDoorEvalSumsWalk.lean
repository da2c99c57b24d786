/- The walk of the statement 'EvalSumsCard' of 'YtjioppomopfifaaGreatDoor': the law's call returns true, by runs of the abstract machine in the kernel. No condition. -/
import Derived.Test.YtjioppomopfifaaGreatDoorTie
import Derived.Test.YtjioppomopfifaaGreatDoorCards
import Derived.Test.YtjioppomopfifaaGreatDoorEvalSumsCon
import Derived.Test.YtjioppomopfifaaGreatDoorAbs8
import Derived.WalkKit
import Derived.ProofKit
import Derived.OpenShut
import Derived.SevenTiedAt
import Derived.ChangeCalls
import Derived.Shelf.Strings.Search3
import Derived.Shelf.Vars
import Derived.Test.YtjioppomopfifaaGreatDoorEvalSumsRun4
import Derived.Test.YtjioppomopfifaaGreatDoorEvalSumsObl
import Derived.Test.YtjioppomopfifaaGreatDoorEvalSumsAll
namespace Go.Proofs.YtjioppomopfifaaGreatDoor
open Go.ChangeShapes Go.WideShapes Go.ChangeAt Go.RowKit
theorem WC:ownKnob Tryz.prog.godebug=none:=by kernel_rfl
noncomputable def QN:List (FuncId×Abs.iL):=[(14,qo),(33,tN),(94,tV),(35,tX)]
noncomputable def rP (N:Nat):Abs.Ctx:=Abs.mkCtx Tryz.prog (fun _=>false) dM QN [Abs.rV Tryz.prog kU (Abs.aj kK kT kB) Abs.ah,Abs.nR Tryz.prog kU kA "terms" (Abs.aj kK kT (N+1)) Abs.oI (Abs.zT kT),Abs.aV Tryz.prog kU kA "term" (Abs.aj kK kT kB) (Abs.bU kK kT),eC Tryz.prog (Abs.aj kK kT kB) Abs.ah 1]
theorem Td (N:Nat):Abs.Good (rP N):=Abs.aX (fun c h=>by cases h with|head=>exact a9Z|tail _ h=>cases h with|head=>exact a9U (N+1)|tail _ h=>cases h with|head=>exact dK kB (of_decide_eq_true (by kernel_rfl))|tail _ h=>cases h with|head=>exact adE|tail _ h=>cases h) (Abs.iK (M:=QN) ⟨SV,WL,WM,WO,trivial⟩) aB aK (Abs.bG dG)
noncomputable def yI:List Abs.GV:=[⟨1,3,[.opq (.int .i64) (.var 1)]⟩,⟨2,113,[.opq .any (.var 2)]⟩,⟨3,113,[.opq .any (.var 3)]⟩]
set_option maxRecDepth 100000 in
theorem NK (N:Nat):Abs.R.res (fun _=>true) ((Abs.jv (rP N) (Abs.dS (rP N) 1000000) 3 (Abs.a7I (rP N) kTs (rP N).nG) .normal none (Abs.SDv (rP N) kTs N yI)).bind Abs.ada)=some (Iw.map fun r=>r.map (Dl N)):=by kernel_rfl
set_option maxRecDepth 100000 in
theorem Tf (os:Os) (args:Array Value):laidMetH Tryz.prog Rows.evalSumsRow.laid ((World.doorLaid Tryz.prog 400 os).forCall (fun _ _=>0) ⟨#[],args,[]⟩).memory:=
 laidMetH_of_parts3 (fuel:=8) (laidMet_of_run' 8 (by kernel_rfl) (by kernel_rfl)) (by kernel_rfl) (by kernel_rfl)
set_option maxRecDepth 100000 in
theorem MR (os:Os) (started:os.Started) (H:Type) (enc:TypeId×Value→H):
  ReturnsInHanded {} Tryz.checked os 3 .any (fun w args=>(Rows.evalSumsSpec.pre enc Tryz.prog Tryz.f3 Rows.evalSumsRow.domain false w args∧laidMetH Tryz.prog Rows.evalSumsRow.laid w)∧sizedMet enc Tryz.prog Tryz.f3 (OpenSpec.ofChange Rows.evalSumsSpec) false w args)
   (Rows.evalSumsSpec.post enc Tryz.prog Tryz.f3 false true false false):=by
 refine Abs.Il (C:=Tryz.checked) (X:=fun w _=>laidMetH Tryz.prog Rows.evalSumsRow.laid w) (fun _ _ _ hh h=>h.of_heap hh) WC started (by kernel_rfl) Tryz.func3
  (ChangeSpec.witness_shaped (enc:=enc) (C:=Tryz.checked) (os:=os) (X:=fun w _=>laidMetH Tryz.prog Rows.evalSumsRow.laid w) false (World.doorLaid Tryz.prog 400 os) #[.int .i64 0,.agg #[.int .i64 0,.int .i64 0,.string ⟨#[]⟩,.slice none 0 0]] 8 rfl (World.shaped_of_RefB (by kernel_rfl) (by kernel_rfl)) (by kernel_rfl) (by kernel_rfl) (by kernel_rfl) (Tf os _)) ?_
 intro W base args ds gs before hval0 hW hcnd hsh hlaid
 have hval:∀(j:Nat) t v,Tryz.f3.params[j]? =some t→args[j]? =some v→Value.okWide Tryz.prog W .any base t v:=hval0
 have hW':=hW
 obtain ⟨p,q,hA0,hV,rfl,hfz,hnd⟩:=hW
 have hA:DataW.TrodAll enc Tryz.prog W 0 (fun _=>true) true Tryz.f3.params.toList args.toList ds p:=hA0
 rw [Tryz.params3] at hA hval
 obtain ⟨rfl,rfl⟩:=trodVars_none hV
 have hA2:=hA
 obtain ⟨v1,r1,d1,e1,p1,q1, -,rfl, -, -,hA2⟩:=trodAll_cons hA2
 obtain ⟨v2,r2,d2,e2,p2,q2, -,rfl, -, -,hA2⟩:=trodAll_cons hA2
 obtain ⟨-,rfl, -⟩:=trodAll_nil hA2
 clear hA0 hval0
 simp only [List.append_nil] at hW'
 obtain ⟨vs,m,hw,hv⟩:=Abs.Ws (g:=1) (t:=3) hsh (by kernel_rfl) (by kernel_rfl)
  (Go.Proofs.cell_of_shapedOpen_int (zero:=#[.int .i64 0]) (t:=3) hsh (of_decide_eq_true (by kernel_rfl)) (by kernel_rfl) rfl (by kernel_rfl) (by kernel_rfl) Tryz.underlying3)
 obtain ⟨vs2,z2,hw2,hv2⟩:=Abs.U7 (g:=2) (t:=113) (z:=.nilIface) hsh (by kernel_rfl) (by kernel_rfl)
 obtain ⟨u2,q2,hc2, -, -⟩:=Abs.a07 hlaid (n:= "strconv.ErrSyntax") (List.mem_cons_of_mem _ (List.mem_cons_of_mem _ (List.mem_cons_of_mem _ (List.mem_cons_of_mem _ (List.mem_cons_of_mem _ List.mem_cons_self))))) (by kernel_rfl) (g:=2) (t:=113) (by kernel_rfl) (by kernel_rfl) Tryz.underlying113
 have ho2:Abs.a0P z2=true:=by
  have e:some z2=some (Value.iface u2 q2):=by rw [←hv2,←hc2];simp [World.cell?,hw2]
  rw [Option.some.inj e];rfl
 obtain ⟨vs3,z3,hw3,hv3⟩:=Abs.U7 (g:=3) (t:=113) (z:=.nilIface) hsh (by kernel_rfl) (by kernel_rfl)
 obtain ⟨u3,q3,hc3, -, -⟩:=Abs.a07 hlaid (n:= "strconv.ErrRange") (List.mem_cons_of_mem _ (List.mem_cons_of_mem _ (List.mem_cons_of_mem _ (List.mem_cons_of_mem _ List.mem_cons_self)))) (by kernel_rfl) (g:=3) (t:=113) (by kernel_rfl) (by kernel_rfl) Tryz.underlying113
 have ho3:Abs.a0P z3=true:=by
  have e:some z3=some (Value.iface u3 q3):=by rw [←hv3,←hc3];simp [World.cell?,hw3]
  rw [Option.some.inj e];rfl
 refine (Abs.aa6 (Td (Abs.Eh [d1,d2])) aC 1000000 (N:=Abs.Eh [d1,d2]) (L:=[3,24,9,22]) (ts:=kTs) (by kernel_rfl) (fun u hu=>by
   simp only [kTs,List.mem_cons,List.not_mem_nil,or_false] at hu
   rcases hu with rfl|rfl<;>simp) yI (fun id=>if id=1 then some (.int .i64 m) else if id=2 then some z2 else if id=3 then some z3 else none)
  (NK _) (WB _) W hA (fun j t v h1 h2=>hval j t v (by rw [←Array.getElem?_toList];exact h1) h2) (Nat.le_refl _)
  (fun gg v hgg=>by
    by_cases h0:gg=1
    ·rw [if_pos h0] at hgg;obtain rfl:=Option.some.inj hgg;rfl
    rw [if_neg h0] at hgg
    by_cases h1:gg=2
    ·rw [if_pos h1] at hgg;obtain rfl:=Option.some.inj hgg;exact ho2
    rw [if_neg h1] at hgg
    by_cases h2:gg=3
    ·rw [if_pos h2] at hgg;obtain rfl:=Option.some.inj hgg;exact ho3
    rw [if_neg h2] at hgg
    cases hgg)
  (fun Ld x hx=>by
    simp only [yI,List.mem_cons,List.not_mem_nil,or_false] at hx
    rcases hx with rfl|rfl|rfl
    ·exact Abs.a6j (by kernel_rfl) (by kernel_rfl) hw hv (Abs.aaU (Nat.le_of_ble_eq_true (by kernel_rfl)) (by simp))
    ·exact Abs.a6j (by kernel_rfl) (by kernel_rfl) hw2 hv2 (Abs.ZK (Nat.le_of_ble_eq_true (by kernel_rfl)) (by simp) ho2)
    ·exact Abs.a6j (by kernel_rfl) (by kernel_rfl) hw3 hv3 (Abs.ZK (Nat.le_of_ble_eq_true (by kernel_rfl)) (by simp) ho3))).mono fun e W' ⟨he,hg⟩=> ?_
 subst he
 exact ⟨_,rfl,Abs.a5i (pa:=p) (pv:=[]) hW' (fun _ _ _=>(trodAll_cons_mk (shut_bool Tryz.underlying4 _) trodAll_mk0)) (fun sp hsp=>by rw [Tryz.params3];exact Abs.U1 (by kernel_rfl) hg (by kernel_rfl) hA (fun x hx=>hW'.lt x hx) hsp) (fun _ _=>rfl) (List.append_nil p).symm
  (Abs.a3Q hg)⟩
end Go.Proofs.YtjioppomopfifaaGreatDoor
