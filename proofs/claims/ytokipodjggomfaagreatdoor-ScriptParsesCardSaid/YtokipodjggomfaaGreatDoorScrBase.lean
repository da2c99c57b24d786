/- A part of the proof of ScriptParses: Base. Conditions: those of each theorem. -/
import Derived.Test.YtokipodjggomfaaGreatDoorScrShelf
import Derived.Test.YtokipodjggomfaaGreatDoorTxt3
import Derived.KernelRfl
noncomputable section
set_option linter.unusedVariables false
set_option linter.unusedSimpArgs false
namespace Go.Proofs.YtokipodjggomfaaGreatDoor
open Go Go.Proofs.YtokipodjggomfaaGreatDoor.Txt
def kU:Abs.bP:=⟨⟨125,21,151,43,54,0,3,5,169,1,2,75,139,8⟩,⟨106,25⟩,⟨112,9⟩,⟨128,29⟩,⟨114,101⟩,⟨91,26⟩,⟨127,6⟩,⟨144,19⟩,⟨113,54⟩,⟨92,51⟩,⟨109,52⟩,⟨62,16⟩,⟨129,19⟩,⟨110,16⟩,⟨107,28⟩,⟨108,40⟩,⟨111,25⟩,⟨68,67⟩,⟨24,22⟩,⟨51,29⟩,⟨23,58⟩,⟨8,90⟩,⟨80,45⟩,⟨82,56⟩,⟨75,15⟩,⟨76,132⟩,⟨98,22⟩,⟨78,62⟩,⟨99,57⟩,⟨134,18⟩,⟨77,153⟩,⟨100,54⟩,⟨121,14⟩,⟨122,23⟩,⟨79,21⟩,⟨83,31⟩,⟨84,50⟩,⟨81,27⟩,⟨56,69⟩,⟨123,125⟩,⟨85,21⟩,⟨86,42⟩,⟨30,36⟩,⟨55,23⟩,⟨26,24⟩,⟨29,50⟩,⟨28,60⟩,⟨9,94⟩,22,5,73,24,26,108,104,90⟩
abbrev ah:TypeId:=24
def kC:Abs.zI:=⟨53,115,129,22,24,3,27,8,17,38,19⟩
def kQ:Abs.PQ:={ all:=(Jt ah (gA true (PT true) (PR true) [125])),allN:=(yJ (gA true (PT true) (PR true) [125])),allo:=(wi ah (λl=>bU true l [125])),alloN:=(lM ah (λl=>bU true l [125])),amg:=(DB ah),amgN:=qJ,amgo:=(wh ah),amgoN:=(nj ah),cpl:=oW,cplN:=pY,WB:=kF,cutR:=qI,cutRN:=lL,dec:=xX,funN:=(hE (gT true (PR true))),V2:=(ir ah (gT true (PR true))),funo:=(wg ah),funoN:=(lK ah),hex:=zy,idf:=Gr,idfN:=wc,«is»:=gm,isN:=cj,itm:=(zx ah),itmN:=(nV ah),itmo:=(nU ah),itmoN:=(jd ah),lst:=(ir ah (e7 (PT true) (PR true))),lstN:=(hE (e7 (PT true) (PR true))),lsto:=(sN ah (bo true)),lstoN:=(mJ ah (bo true)),ltr:=zw,ltrN:=s6,mk2:=(hU ah),mkl:=(L3 ah),mklo:=(s5 ah),ngd:=BJ,ngdN:=nT,nmb:=Gq,nmbN:=s3,nmd:=(eZ ah),nmdN:=df,noR:=mx,noRN:=eY,num:=dE,numN:=bu,own:=(ur ah),ownN:=(dy ah),pln:=jM,plnN:=dL,prsB:=aR,prsL:=nS,prsM:=lJ,prsN:=gj,prsS:=(mK ah),prsT:=(kN ah),prt:=(Js ah),prtN:=(wb ah),prto:=(wa ah),prtoN:=(oV ah),qq:=kE,qqN:=gl,a2A:=cW,quo:=hO,rd:=(Gp ah),rdN:=mw,rfn:=(ir ah va),rfnN:=(b8 ah va),rls:=(ir ah uj),rlsN:=(b8 ah uj),rlso:=(sN ah iL),rlsoN:=(ga ah iL),rtm:=(ir ah (PT false)),rtmN:=(b8 ah (PT false)),sml:=Gn,smlN:=sZ,trm:=(ir ah (PT true)),trmN:=(hE (PT true)),wds:=(BI ah),wdso:=(qH ah),win:=uq,winN:=kM,wrd:=lI,wrdN:=BH }
def kK:TypeId->List Abs.Kd:=Abs.aq (Abs.gk Tryz.prog (λ_=>false) [])
def kB:Nat:=40000
theorem iN:kK ah=kT ah:=by kernel_rfl
def kX:List (FuncId×Abs.Ext):=[(89,.index 0),(90,.wP),(135,.indexByte)]
set_option maxRecDepth 100000 in
theorem a7N:Abs.Xs Tryz.prog kX:=⟨⟨⟨_,Tryz.func89⟩,λs sub m w a b=>Tryz.strings_Index s sub m w a b⟩,⟨_,(by kernel_rfl:Tryz.prog.funcs[90]? =some (Tryz.prog.funcs[90]?.getD default)),by kernel_rfl,by kernel_rfl,by kernel_rfl,by kernel_rfl⟩,⟨_,(by kernel_rfl:Tryz.prog.funcs[135]? =some (Tryz.prog.funcs[135]?.getD default)),by kernel_rfl,by kernel_rfl,by kernel_rfl,by kernel_rfl⟩,dB⟩
set_option maxRecDepth 100000 in
theorem a29:Abs.FD Tryz.prog=true:=by kernel_rfl
set_option maxRecDepth 100000 in
theorem a7L:Abs.Cb Tryz.prog.funcs.toList=true:=by kernel_rfl
theorem uD:Tryz.prog.follows .mixedOrders=true:=by kernel_rfl
def wY(K L:List Abs.bp):Abs.Ctx:=Abs.gk Tryz.prog (λ_=>false) kX K L
theorem Cp{K L:List Abs.bp}(a:∀c∈L,Abs.ju Tryz.prog c)(b:∀c∈K,Abs.eb Tryz.prog c):Abs.Good (wY K L):=Abs.VX a b a29 a7L (Abs.P7 a7N)
theorem kBe:kB=40000:=rfl
end Go.Proofs.YtokipodjggomfaaGreatDoor
