/- Lemmas. No conditions. -/
import Derived.Test.YtnjljnhoaafkiaaGreatDoorRows
import Derived.JoinedOf
set_option linter.all false
open List
open Go.Proofs.Tryz (prog)
set_option maxRecDepth 100000
namespace Go.TM
open Go
def Np{P:Program}{c:List Char}{rest:List (List Char)}(h:behindMainWord (wordsSigns P.initOrder.toList)=c::rest)(h1:(stripLifts liftWords (c::rest)).2.head?==some "cut".toList)(h2:(stripLifts liftWords (c::rest)).1=[])(b:P.laysLater=false)(f:P.bearsReflect=false)(h5:P.doorFits []=true):P.mayEnter=true:=by
 unfold Program.mayEnter;rw[h];simp only[h2,b,f,h5];simp only[h1];simp
def zp{P:Program}{c:List Char}{rest:List (List Char)}(h:behindMainWord (wordsSigns P.initOrder.toList)=c::rest)(b:(c== "carried".toList)=false)(h2:(stripLifts liftWords (c::rest)).1=[]):P.liftsFinal=false:=by
 unfold Program.liftsFinal Program.headLifts;rw[h];simp only[h2,head?_cons];have:(some c==some "carried".toList)=false:=b;rw[this];split <;> rfl
def kS{P:Program}{c:List Char}{rest:List (List Char)}(h:behindMainWord (wordsSigns P.initOrder.toList)=c::rest)(h1:(c== "gc".toList|| c== "spec".toList)=false)(h2:(c== "cut".toList)=true):P.make=some .cut:=by
 unfold Program.make;rw[h];simp only[h1,h2];simp
def Znx{P:Program}{f:FuncId}{fn:Func}{s:ChangeSpec}{c:OpenClaim}(F:c.wf (OpenSpec.ofChange s)=true)(G:laidOutB P=true)(H:mapsRowed P=true)(I:(c.inPlace==P.inPlace f)=true)(K:(c.unfollowed==P.unfollowed f)=true)(L:(c.recurses==P.recurses f)=true)
  (M:(c.named==P.varsNamed f)=true) (N:(c.plainKeys==P.plainKeys)=true) (Q:P.stopsHeard=true) (b:P.mayEnter=true) (h:(c.lifted==P.liftsFinal)=true) (w:(P.make==some c.make)=true)
  (z:(fn.params.all (P.readableRec ·)&&namedTie P c.named s.vars&&(c.stops==[])&&(P.stops==[])&&(c.knobs==[])&&(P.stopKnobs==[]))=true)
  (B:((c.maps==(fn.params.toList++s.plain.varTypes P).any (P.mapsRec ·))&&(c.ifaces==(fn.params.toList++s.plain.varTypes P).any (P.ifacesRec ·))&&(c.mapsOut==P.mapsAmong fn.resultTypes.toList) &&
   (c.loops==(fn.params.toList++s.plain.varTypes P).any (P.loopsFrom ·))&&(c.wideKeys==(fn.params.toList++s.plain.varTypes P++fn.resultTypes.toList).any (P.wideKeysFrom ·)) &&
   s.vars.all (P.varReadable ·)&&fn.resultTypes.all (λ t=>P.readableRec t&&decide (t<P.types.size))&&(c.ifacesOut==fn.resultTypes.toList.any (P.ifacesRec ·))&&(c.loopsOut==fn.resultTypes.toList.any (P.loopsFrom ·)))=true)
  (E:(c.shortTexts.isNone&&(c.kinds==(if c.domain.isEmpty then[]else fn.params.toList.map λ t=>match P.underlying t with|some (.int k)=>some k|_=>none))&&(c.pinned==c.pinnedBy) &&
   (c.veiled==(fn.params.toList++s.plain.varTypes P++fn.resultTypes.toList).any (P.veiledRec ·))&&c.veiledFits P fn.params.toList (fn.params.toList++s.plain.varTypes P++fn.resultTypes.toList))=true):joinedFacts P f fn s c=true:=by
 simp only[Bool.and_eq_true]at z B E;obtain⟨⟨⟨⟨⟨S,T⟩,U⟩,V⟩,W⟩,X⟩:=z;obtain⟨⟨⟨⟨⟨⟨⟨⟨Y,Z⟩,y3⟩,y4⟩,y5⟩,y6⟩,y7⟩,y8⟩,y9⟩:=B;obtain⟨⟨⟨⟨z1,z2⟩,z3⟩,z4⟩,z5⟩:=E;unfold joinedFacts;simp only[Bool.and_eq_true];exact⟨⟨⟨⟨⟨⟨⟨⟨⟨⟨⟨⟨⟨⟨⟨⟨⟨⟨⟨⟨⟨⟨⟨⟨⟨⟨⟨⟨⟨⟨⟨F,G⟩,H⟩,S⟩,T⟩,U⟩,V⟩,W⟩,X⟩,I⟩,K⟩,L⟩,M⟩,Y⟩,Z⟩,y3⟩,y4⟩,y5⟩,y6⟩,y7⟩,y8⟩,y9⟩,N⟩,z1⟩,Q⟩,b⟩,h⟩,w⟩,z2⟩,z3⟩,z4⟩,z5⟩
end Go.TM
namespace Go.Proofs.YtnjljnhoaafkiaaGreatDoor
open Go.TM
def Ib:List Nat:=[116,111,117,99,104,109,97,114,107,47,116,111,117,99,104,109,97,114,107,108,97,119,48,52,46,82,105,118,97,108]
def P4:List (List Char):=[[104,97,114,110,101,115,115],[100,54,101,102,98,51,55,98,51,57,102,48,53,98,101,52,56,97,55,53,49,99,101,55,98,101,98,49,101,53,54,99,54,53,56,98,50,52,53,53,50,50,101,48,102,98,49,100,98,57,56,53,54,50,98,98,98,55,50,99,49,55,57,51],[99,117,116],[97,116],Ib++[73,116,101,109,115],Ib++[65,103,114,101,101,100]].map λ(l:List Nat)=>l.map Char.ofNat
def EV:List Char:=((P4.map (Char.ofNat 32::·)).flatten).drop 1
def zB:prog.initOrder=String.ofList EV:=by kernel_rfl
def zm:wordsSigns EV=P4:=by kernel_rfl
def Fg:wordsSigns prog.initOrder.toList=P4:=by rw[zB,String.toList_ofList,zm]
def E_:List (List Char):=P4.drop 3
def MF:behindMainWord P4=[99,117,116].map Char.ofNat::E_:=by kernel_rfl
def qD:prog.laysLater=false:=by kernel_rfl
def C1:prog.bearsReflect=false:=by kernel_rfl
def qL:prog.doorFits []=true:=by kernel_rfl
def YG:behindMainWord (wordsSigns prog.initOrder.toList)=[99,117,116].map Char.ofNat::E_:=by rw[Fg,MF]
def Zkc:prog.mayEnter=true:=Np YG (by kernel_rfl) (by kernel_rfl) qD C1 qL
def Zf7:(false==prog.liftsFinal)=true:=by
 rw[zp YG (by kernel_rfl) (by kernel_rfl)];rfl
def Znv:(prog.make==some .cut)=true:=by
 rw[kS YG (by kernel_rfl) (by kernel_rfl)];rfl
def Zoc:ownKnob prog.godebug=Option.none:=by kernel_rfl
def Zkk:laidOutB prog=true:=by kernel_rfl
def Zhw:mapsRowed prog=true:=by kernel_rfl
def Zhz:(false==prog.plainKeys)=true:=by kernel_rfl
def Zf9:prog.stopsHeard=true:=by kernel_rfl
end Go.Proofs.YtnjljnhoaafkiaaGreatDoor

