/- A part of the proof of ScriptParses: Lib. Conditions: those of each theorem. -/
import Derived.Test.YtokipodjggomfaaGreatDoorScrBase
set_option linter.unusedVariables false
set_option linter.unusedSimpArgs false
namespace Go.Proofs.YtokipodjggomfaaGreatDoor
open Go Go.Proofs.YtokipodjggomfaaGreatDoor.Abs
theorem a1r:ju Tryz.prog (km kU.L):=G9 (u:=kU.L) ⟨_,Tryz.func125⟩ (bq (by kernel_rfl)) λs sub m w a b=>Tryz.strings_Contains s sub m w a b
theorem a1q:ju Tryz.prog (C2 kU.L):=Zl (u:=kU.L) ⟨_,Tryz.func21⟩ (bq (by kernel_rfl)) λs sep m w a b=>Tryz.strings_Cut s sep m w a b
theorem VK:ju Tryz.prog (AO kU.L):=Zk (u:=kU.L) ⟨_,Tryz.func151⟩ λs c w=>Tryz.strings_IndexByte s c w
theorem Hf:ju Tryz.prog (xr kU.L):=VC (u:=kU.L) ⟨_,Tryz.func43⟩ (bq (by kernel_rfl)) λn w a A b=>
 (Tryz.strconv_Itoa n a A w (by unfold Lib.TabIs World.var?;rw[show Tryz.prog.globalNamed "internal/strconv.uint64pow10"=some kU.L.HB from by kernel_rfl,aW,b])).mono λe M h=>⟨h.1,by obtain⟨-,k,os,rfl⟩:=h;exact Sc w k os⟩
theorem Hg:ju Tryz.prog (sI kU.L):=VD (u:=kU.L) ⟨_,Tryz.func54⟩ (bq (by kernel_rfl)) (bq (by kernel_rfl)) (by decide)
 (λs v w b h=>(Tryz.strconv_Atoi_ok s (by omega) v h w).mono λe M h=>⟨h.1,by
   rcases h.2 with rfl|⟨t,rfl⟩
   .exact⟨aX _,rfl,rfl,rfl,λ_ _ h=>h⟩
   .exact nx (Lib.bytesWorld_below _ _ _)⟩)
 λs ev c w b h g d f a=>by
  cases e:Lib.atoiAll s.data.toList with
  |ok v=>exact(h v e).elim
  |range=>
   exact(Tryz.strconv_Atoi_range s b e c w f a).mono λ_ M h=>by
    obtain⟨N,A,_,_,D⟩:=h;exact⟨⟨_,N,A⟩,nx D⟩
  |_=>
   exact(Tryz.strconv_Atoi_syntax s b e ev w g d).mono λ_ M h=>by
    obtain⟨N,A,_,_,D⟩:=h;exact⟨⟨_,N,A⟩,nx D⟩
end Go.Proofs.YtokipodjggomfaaGreatDoor
