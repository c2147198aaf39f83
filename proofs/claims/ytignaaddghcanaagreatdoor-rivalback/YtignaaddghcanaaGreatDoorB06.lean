/- Lemmas. No conditions. -/
import Derived.Test.YtignaaddghcanaaGreatDoorRows
import Derived.JoinedOf
set_option linter.all false
set_option maxRecDepth 100000
open List
open Go.Proofs.Tryz (prog)
namespace Go.TM
open Go.Proofs
variable{P:Program}{c:List Char}{rest:List (List Char)}{f:FuncId}{fn:Func}{s:ChangeSpec}{a:OpenClaim}
section
open Go
def N8(h:behindMainWord (wordsSigns P.initOrder.toList)=c::rest)(b:(stripLifts liftWords (c::rest)).2.head?==some "cut".toList)(f:(stripLifts liftWords (c::rest)).1=[])(w:P.laysLater=false)(z:P.bearsReflect=false)(B:P.doorFits []=true):P.mayEnter=true:=by
 unfold Program.mayEnter;rw[h];simp only[f,w,z,B];simp only[b];simp
def qB(h:behindMainWord (wordsSigns P.initOrder.toList)=c::rest)(b:(c== "carried".toList)=false)(f:(stripLifts liftWords (c::rest)).1=[]):P.liftsFinal=false:=by
 unfold Program.liftsFinal Program.headLifts;rw[h];simp only[f,head?_cons];have:(some c==some "carried".toList)=false:=b;rw[this];split <;> rfl
def kb(h:behindMainWord (wordsSigns P.initOrder.toList)=c::rest)(b:(c== "gc".toList|| c== "spec".toList)=false)(f:(c== "cut".toList)=true):P.make=some .cut:=by
 unfold Program.make;rw[h];simp only[b,f];simp
def Znd(B:a.wf (OpenSpec.ofChange s)=true)(E:laidOutB P=true)(F:mapsRowed P=true)(G:(a.inPlace==P.inPlace f)=true)(H:(a.unfollowed==P.unfollowed f)=true)(I:(a.recurses==P.recurses f)=true)
  (K:(a.named==P.varsNamed f)=true) (L:(a.plainKeys==P.plainKeys)=true) (N:P.stopsHeard=true) (b:P.mayEnter=true) (h:(a.lifted==P.liftsFinal)=true) (w:(P.make==some a.make)=true)
  (z:(fn.params.all (P.readableRec ·)&&namedTie P a.named s.vars&&(a.stops==[])&&(P.stops==[])&&(a.knobs==[])&&(P.stopKnobs==[]))=true)
  (b2:((a.maps==(fn.params.toList++s.plain.varTypes P).any (P.mapsRec ·))&&(a.ifaces==(fn.params.toList++s.plain.varTypes P).any (P.ifacesRec ·))&&(a.mapsOut==P.mapsAmong fn.resultTypes.toList) &&
   (a.loops==(fn.params.toList++s.plain.varTypes P).any (P.loopsFrom ·))&&(a.wideKeys==(fn.params.toList++s.plain.varTypes P++fn.resultTypes.toList).any (P.wideKeysFrom ·)) &&
   s.vars.all (P.varReadable ·)&&fn.resultTypes.all (λ t=>P.readableRec t&&decide (t<P.types.size))&&(a.ifacesOut==fn.resultTypes.toList.any (P.ifacesRec ·))&&(a.loopsOut==fn.resultTypes.toList.any (P.loopsFrom ·)))=true)
  (b3:(a.shortTexts.isNone&&(a.kinds==(if a.domain.isEmpty then[]else fn.params.toList.map λ t=>match P.underlying t with|some (.int k)=>some k|_=>none))&&(a.pinned==a.pinnedBy) &&
   (a.veiled==(fn.params.toList++s.plain.varTypes P++fn.resultTypes.toList).any (P.veiledRec ·))&&a.veiledFits P fn.params.toList (fn.params.toList++s.plain.varTypes P++fn.resultTypes.toList))=true):joinedFacts P f fn s a=true:=by
 simp only[Bool.and_eq_true]at z b2 b3;obtain⟨⟨⟨⟨⟨Q,S⟩,T⟩,U⟩,V⟩,W⟩:=z;obtain⟨⟨⟨⟨⟨⟨⟨⟨X,Y⟩,Z⟩,y4⟩,y5⟩,y6⟩,y7⟩,y8⟩,y9⟩:=b2;obtain⟨⟨⟨⟨z1,z2⟩,z3⟩,z4⟩,z5⟩:=b3;unfold joinedFacts;simp only[Bool.and_eq_true];exact⟨⟨⟨⟨⟨⟨⟨⟨⟨⟨⟨⟨⟨⟨⟨⟨⟨⟨⟨⟨⟨⟨⟨⟨⟨⟨⟨⟨⟨⟨⟨B,E⟩,F⟩,Q⟩,S⟩,T⟩,U⟩,V⟩,W⟩,G⟩,H⟩,I⟩,K⟩,X⟩,Y⟩,Z⟩,y4⟩,y5⟩,y6⟩,y7⟩,y8⟩,y9⟩,L⟩,z1⟩,N⟩,b⟩,h⟩,w⟩,z2⟩,z3⟩,z4⟩,z5⟩
end
end Go.TM
namespace Go.Proofs.YtignaaddghcanaaGreatDoor
open Go.TM
def FW:List Nat:=[116,111,117,99,104,109,97,114,107,47,116,111,117,99,104,109,97,114,107,108,97,119,48,52,46,82,105,118,97,108]
def GW:List (List Char):=[[104,97,114,110,101,115,115],[99,51,100,52,57,57,97,57,98,50,56,102,51,49,56,52,56,102,101,97,97,100,53,101,48,52,52,54,97,54,57,101,52,98,55,57,55,102,54,54,56,102,54,98,53,51,99,48,49,57,51,53,49,100,50,56,102,49,102,98,48,57,57,55],[99,117,116],[97,116],FW++[84,101,120,116,115],FW++[66,97,99,107]].map λ(l:List Nat)=>l.map Char.ofNat
def EG:List Char:=((GW.map (Char.ofNat 32::·)).flatten).drop 1
def zb:prog.initOrder=String.ofList EG:=by kernel_rfl
def qy:wordsSigns EG=GW:=by kernel_rfl
def EW:wordsSigns prog.initOrder.toList=GW:=by rw[zb,String.toList_ofList,qy]
def EM:List (List Char):=GW.drop 3
def Mg:behindMainWord GW=[99,117,116].map Char.ofNat::EM:=by kernel_rfl
def qf:prog.laysLater=false:=by kernel_rfl
def BQ:prog.bearsReflect=false:=by kernel_rfl
def qL:prog.doorFits []=true:=by kernel_rfl
def Yw:behindMainWord (wordsSigns prog.initOrder.toList)=[99,117,116].map Char.ofNat::EM:=by rw[EW,Mg]
def Zj0:prog.mayEnter=true:=N8 Yw (by kernel_rfl) (by kernel_rfl) qf BQ qL
def Zfv:(false==prog.liftsFinal)=true:=by
 rw[qB Yw (by kernel_rfl) (by kernel_rfl)];rfl
def Znb:(prog.make==some .cut)=true:=by
 rw[kb Yw (by kernel_rfl) (by kernel_rfl)];rfl
def Zno:ownKnob prog.godebug=Option.none:=by kernel_rfl
def Zj6:laidOutB prog=true:=by kernel_rfl
def Zhe:mapsRowed prog=true:=by kernel_rfl
def Zhh:(false==prog.plainKeys)=true:=by kernel_rfl
def Zfx:prog.stopsHeard=true:=by kernel_rfl
