/- Lemmas. No conditions. -/
import Derived.Test.YtcakpkianonbkaaGreatDoorRows
import Derived.JoinedOf
set_option linter.all false
open List
open Go.Proofs.Tryz (prog)
set_option maxRecDepth 100000
namespace Go.TM
open Go
def AX{P:Program}{c:List Char}{rest:List (List Char)}(h:behindMainWord (wordsSigns P.initOrder.toList)=c::rest)(b:(stripLifts liftWords (c::rest)).2.head?==some "cut".toList)(e:(stripLifts liftWords (c::rest)).1=[])(w:P.laysLater=false)(z:P.bearsReflect=false)(B:P.doorFits []=true):P.mayEnter=true:=by
 unfold Program.mayEnter;rw[h];simp only[e,w,z,B];simp only[b];simp
def z_{P:Program}{c:List Char}{rest:List (List Char)}(h:behindMainWord (wordsSigns P.initOrder.toList)=c::rest)(b:(c== "carried".toList)=false)(e:(stripLifts liftWords (c::rest)).1=[]):P.liftsFinal=false:=by
 unfold Program.liftsFinal Program.headLifts;rw[h];simp only[e,head?_cons];have:(some c==some "carried".toList)=false:=b;rw[this];split <;> rfl
def di{P:Program}{c:List Char}{rest:List (List Char)}(h:behindMainWord (wordsSigns P.initOrder.toList)=c::rest)(b:(c== "gc".toList|| c== "spec".toList)=false)(e:(c== "cut".toList)=true):P.make=some .cut:=by
 unfold Program.make;rw[h];simp only[b,e];simp
def Zud{P:Program}{f:FuncId}{fn:Func}{s:ChangeSpec}{c:OpenClaim}(E:c.wf (OpenSpec.ofChange s)=true)(F:laidOutB P=true)(G:mapsRowed P=true)(H:(c.inPlace==P.inPlace f)=true)(I:(c.unfollowed==P.unfollowed f)=true)(K:(c.recurses==P.recurses f)=true)
  (L:(c.named==P.varsNamed f)=true) (M:(c.plainKeys==P.plainKeys)=true) (N:P.stopsHeard=true) (b:P.mayEnter=true) (e:(c.lifted==P.liftsFinal)=true) (h:(P.make==some c.make)=true)
  (w:(fn.params.all (P.readableRec ·)&&namedTie P c.named s.vars&&(c.stops==[])&&(P.stops==[])&&(c.knobs==[])&&(P.stopKnobs==[]))=true)
  (z:((c.maps==(fn.params.toList++s.plain.varTypes P).any (P.mapsRec ·))&&(c.ifaces==(fn.params.toList++s.plain.varTypes P).any (P.ifacesRec ·))&&(c.mapsOut==P.mapsAmong fn.resultTypes.toList) &&
   (c.loops==(fn.params.toList++s.plain.varTypes P).any (P.loopsFrom ·))&&(c.wideKeys==(fn.params.toList++s.plain.varTypes P++fn.resultTypes.toList).any (P.wideKeysFrom ·)) &&
   s.vars.all (P.varReadable ·)&&fn.resultTypes.all (λ t=>P.readableRec t&&decide (t<P.types.size))&&(c.ifacesOut==fn.resultTypes.toList.any (P.ifacesRec ·))&&(c.loopsOut==fn.resultTypes.toList.any (P.loopsFrom ·)))=true)
  (B:(c.shortTexts.isNone&&(c.kinds==(if c.domain.isEmpty then[]else fn.params.toList.map λ t=>match P.underlying t with|some (.int k)=>some k|_=>none))&&(c.pinned==c.pinnedBy) &&
   (c.veiled==(fn.params.toList++s.plain.varTypes P++fn.resultTypes.toList).any (P.veiledRec ·))&&c.veiledFits P fn.params.toList (fn.params.toList++s.plain.varTypes P++fn.resultTypes.toList))=true):joinedFacts P f fn s c=true:=by
 simp only[Bool.and_eq_true]at w z B;obtain⟨⟨⟨⟨⟨Q,S⟩,T⟩,U⟩,V⟩,W⟩:=w;obtain⟨⟨⟨⟨⟨⟨⟨⟨X,Y⟩,Z⟩,y4⟩,y5⟩,y6⟩,y7⟩,y8⟩,y9⟩:=z;obtain⟨⟨⟨⟨z1,z2⟩,z3⟩,z4⟩,z5⟩:=B;unfold joinedFacts;simp only[Bool.and_eq_true];exact⟨⟨⟨⟨⟨⟨⟨⟨⟨⟨⟨⟨⟨⟨⟨⟨⟨⟨⟨⟨⟨⟨⟨⟨⟨⟨⟨⟨⟨⟨⟨E,F⟩,G⟩,Q⟩,S⟩,T⟩,U⟩,V⟩,W⟩,H⟩,I⟩,K⟩,L⟩,X⟩,Y⟩,Z⟩,y4⟩,y5⟩,y6⟩,y7⟩,y8⟩,y9⟩,M⟩,z1⟩,N⟩,b⟩,e⟩,h⟩,z2⟩,z3⟩,z4⟩,z5⟩
end Go.TM
namespace Go.Proofs.YtcakpkianonbkaaGreatDoor
open Go.TM
def LB:List Nat:=[116,111,117,99,104,109,97,114,107,47,116,111,117,99,104,109,97,114,107,108,97,119,48,52,46,82,105,118,97,108]
def PE:List (List Char):=[[104,97,114,110,101,115,115],[51,52,51,54,50,51,102,56,100,99,99,49,55,57,98,52,49,99,51,51,99,56,52,53,97,100,98,102,101,48,51,53,100,100,100,55,97,53,53,57,51,50,97,57,50,57,56,56,52,99,102,51,52,99,57,54,50,51,98,102,101,48,101,99],[99,117,116],[97,116],LB++[76,97,116,101],LB++[68,97,121,115]].map λ(l:List Nat)=>l.map Char.ofNat
def IU:List Char:=((PE.map (Char.ofNat 32::·)).flatten).drop 1
def Rn:prog.initOrder=String.ofList IU:=by kernel_rfl
def zX:wordsSigns IU=PE:=by kernel_rfl
def Lc:wordsSigns prog.initOrder.toList=PE:=by rw[Rn,String.toList_ofList,zX]
def IY:List (List Char):=PE.drop 3
def Ac:behindMainWord PE=[99,117,116].map Char.ofNat::IY:=by kernel_rfl
def zc:prog.laysLater=false:=by kernel_rfl
def Cu:prog.bearsReflect=false:=by kernel_rfl
def zy:prog.doorFits []=true:=by kernel_rfl
def T5:behindMainWord (wordsSigns prog.initOrder.toList)=[99,117,116].map Char.ofNat::IY:=by rw[Lc,Ac]
def Zqj:prog.mayEnter=true:=AX T5 (by kernel_rfl) (by kernel_rfl) zc Cu zy
def Zk1:(false==prog.liftsFinal)=true:=by
 rw[z_ T5 (by kernel_rfl) (by kernel_rfl)];rfl
def Zub:(prog.make==some .cut)=true:=by
 rw[di T5 (by kernel_rfl) (by kernel_rfl)];rfl
def Zus:ownKnob prog.godebug=Option.none:=by kernel_rfl
def Zqv:laidOutB prog=true:=by kernel_rfl
def Znr:mapsRowed prog=true:=by kernel_rfl
def Znu:(false==prog.plainKeys)=true:=by kernel_rfl
def Zk3:prog.stopsHeard=true:=by kernel_rfl
end Go.Proofs.YtcakpkianonbkaaGreatDoor

