/- Lemmas. No conditions. -/
import Derived.Test.YtnjljnhoaafkiaaGreatDoorRows
import Derived.JoinedOf
set_option linter.all false
set_option maxRecDepth 100000
open List
open Go.Proofs.Tryz (prog)
namespace Go.TM
open Go.Proofs
variable{P:Program}{c:List Char}{rest:List (List Char)}{f:FuncId}{fn:Func}{s:ChangeSpec}{a:OpenClaim}
section
open Go
def Nb(h:behindMainWord (wordsSigns P.initOrder.toList)=c::rest)(h1:(stripLifts liftWords (c::rest)).2.head?==some "cut".toList)(h2:(stripLifts liftWords (c::rest)).1=[])(b:P.laysLater=false)(f:P.bearsReflect=false)(h5:P.doorFits []=true):P.mayEnter=true:=by
 unfold Program.mayEnter;rw[h];simp only[h2,b,f,h5];simp only[h1];simp
def zv(h:behindMainWord (wordsSigns P.initOrder.toList)=c::rest)(b:(c== "carried".toList)=false)(h2:(stripLifts liftWords (c::rest)).1=[]):P.liftsFinal=false:=by
 unfold Program.liftsFinal Program.headLifts;rw[h];simp only[h2,head?_cons];have:(some c==some "carried".toList)=false:=b;rw[this];split <;> rfl
def ve(h:behindMainWord (wordsSigns P.initOrder.toList)=c::rest)(h1:(c== "gc".toList|| c== "spec".toList)=false)(h2:(c== "cut".toList)=true):P.make=some .cut:=by
 unfold Program.make;rw[h];simp only[h1,h2];simp
def Zli(G:a.wf (OpenSpec.ofChange s)=true)(H:laidOutB P=true)(I:mapsRowed P=true)(K:(a.inPlace==P.inPlace f)=true)(L:(a.unfollowed==P.unfollowed f)=true)(M:(a.recurses==P.recurses f)=true)
  (N:(a.named==P.varsNamed f)=true) (Q:(a.plainKeys==P.plainKeys)=true) (S:P.stopsHeard=true) (b:P.mayEnter=true) (h:(a.lifted==P.liftsFinal)=true) (w:(P.make==some a.make)=true)
  (B:(fn.params.all (P.readableRec ·)&&namedTie P a.named s.vars&&(a.stops==[])&&(P.stops==[])&&(a.knobs==[])&&(P.stopKnobs==[]))=true)
  (E:((a.maps==(fn.params.toList++s.plain.varTypes P).any (P.mapsRec ·))&&(a.ifaces==(fn.params.toList++s.plain.varTypes P).any (P.ifacesRec ·))&&(a.mapsOut==P.mapsAmong fn.resultTypes.toList) &&
   (a.loops==(fn.params.toList++s.plain.varTypes P).any (P.loopsFrom ·))&&(a.wideKeys==(fn.params.toList++s.plain.varTypes P++fn.resultTypes.toList).any (P.wideKeysFrom ·)) &&
   s.vars.all (P.varReadable ·)&&fn.resultTypes.all (λ t=>P.readableRec t&&decide (t<P.types.size))&&(a.ifacesOut==fn.resultTypes.toList.any (P.ifacesRec ·))&&(a.loopsOut==fn.resultTypes.toList.any (P.loopsFrom ·)))=true)
  (F:(a.shortTexts.isNone&&(a.kinds==(if a.domain.isEmpty then[]else fn.params.toList.map λ t=>match P.underlying t with|some (.int k)=>some k|_=>none))&&(a.pinned==a.pinnedBy) &&
   (a.veiled==(fn.params.toList++s.plain.varTypes P++fn.resultTypes.toList).any (P.veiledRec ·))&&a.veiledFits P fn.params.toList (fn.params.toList++s.plain.varTypes P++fn.resultTypes.toList))=true):joinedFacts P f fn s a=true:=by
 simp only[Bool.and_eq_true]at B E F;obtain⟨⟨⟨⟨⟨T,U⟩,V⟩,W⟩,X⟩,Y⟩:=B;obtain⟨⟨⟨⟨⟨⟨⟨⟨Z,y2⟩,y3⟩,y4⟩,y5⟩,y6⟩,y7⟩,y8⟩,y9⟩:=E;obtain⟨⟨⟨⟨z1,z2⟩,z3⟩,z4⟩,z5⟩:=F;unfold joinedFacts;simp only[Bool.and_eq_true];exact⟨⟨⟨⟨⟨⟨⟨⟨⟨⟨⟨⟨⟨⟨⟨⟨⟨⟨⟨⟨⟨⟨⟨⟨⟨⟨⟨⟨⟨⟨⟨G,H⟩,I⟩,T⟩,U⟩,V⟩,W⟩,X⟩,Y⟩,K⟩,L⟩,M⟩,N⟩,Z⟩,y2⟩,y3⟩,y4⟩,y5⟩,y6⟩,y7⟩,y8⟩,y9⟩,Q⟩,z1⟩,S⟩,b⟩,h⟩,w⟩,z2⟩,z3⟩,z4⟩,z5⟩
end
end Go.TM
namespace Go.Proofs.YtnjljnhoaafkiaaGreatDoor
open Go.TM
def Ia:List Nat:=[116,111,117,99,104,109,97,114,107,47,116,111,117,99,104,109,97,114,107,108,97,119,48,52,46,82,105,118,97,108]
def P6:List (List Char):=[[104,97,114,110,101,115,115],[100,54,101,102,98,51,55,98,51,57,102,48,53,98,101,52,56,97,55,53,49,99,101,55,98,101,98,49,101,53,54,99,54,53,56,98,50,52,53,53,50,50,101,48,102,98,49,100,98,57,56,53,54,50,98,98,98,55,50,99,49,55,57,51],[99,117,116],[97,116],Ia++[73,116,101,109,115],Ia++[65,103,114,101,101,100]].map λ(l:List Nat)=>l.map Char.ofNat
def EV:List Char:=((P6.map (Char.ofNat 32::·)).flatten).drop 1
def zD:prog.initOrder=String.ofList EV:=by kernel_rfl
def zs:wordsSigns EV=P6:=by kernel_rfl
def Ff:wordsSigns prog.initOrder.toList=P6:=by rw[zD,String.toList_ofList,zs]
def EZ:List (List Char):=P6.drop 3
def MC:behindMainWord P6=[99,117,116].map Char.ofNat::EZ:=by kernel_rfl
def qN:prog.laysLater=false:=by kernel_rfl
def Cc:prog.bearsReflect=false:=by kernel_rfl
def zl:prog.doorFits []=true:=by kernel_rfl
def YM:behindMainWord (wordsSigns prog.initOrder.toList)=[99,117,116].map Char.ofNat::EZ:=by rw[Ff,MC]
def Zhz:prog.mayEnter=true:=Nb YM (by kernel_rfl) (by kernel_rfl) qN Cc zl
def Ze4:(false==prog.liftsFinal)=true:=by
 rw[zv YM (by kernel_rfl) (by kernel_rfl)];rfl
def Zlg:(prog.make==some .cut)=true:=by
 rw[ve YM (by kernel_rfl) (by kernel_rfl)];rfl
def Zlw:ownKnob prog.godebug=Option.none:=by kernel_rfl
def Zh4:laidOutB prog=true:=by kernel_rfl
def Zfh:mapsRowed prog=true:=by kernel_rfl
def Zfk:(false==prog.plainKeys)=true:=by kernel_rfl
def Ze6:prog.stopsHeard=true:=by kernel_rfl
