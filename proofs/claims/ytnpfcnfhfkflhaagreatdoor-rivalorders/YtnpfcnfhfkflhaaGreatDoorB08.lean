/- Lemmas. No conditions. -/
import Derived.Test.YtnpfcnfhfkflhaaGreatDoorRows
import Derived.JoinedOf
set_option linter.all false
open List
open Go.Proofs.Tryz (prog)
set_option maxRecDepth 100000
namespace Go.TM
open Go
def zk{P:Program}{c:List Char}{rest:List (List Char)}(h:behindMainWord (wordsSigns P.initOrder.toList)=c::rest)(b:(stripLifts liftWords (c::rest)).2.head?==some "cut".toList)(e:(stripLifts liftWords (c::rest)).1=[])(f:P.laysLater=false)(w:P.bearsReflect=false)(z:P.doorFits []=true):P.mayEnter=true:=by
 unfold Program.mayEnter;rw[h];simp only[e,f,w,z];simp only[b];simp
def qH{P:Program}{c:List Char}{rest:List (List Char)}(h:behindMainWord (wordsSigns P.initOrder.toList)=c::rest)(b:(c== "carried".toList)=false)(e:(stripLifts liftWords (c::rest)).1=[]):P.liftsFinal=false:=by
 unfold Program.liftsFinal Program.headLifts;rw[h];simp only[e,head?_cons];have:(some c==some "carried".toList)=false:=b;rw[this];split <;> rfl
def RQ{P:Program}{c:List Char}{rest:List (List Char)}(h:behindMainWord (wordsSigns P.initOrder.toList)=c::rest)(b:(c== "gc".toList|| c== "spec".toList)=false)(e:(c== "cut".toList)=true):P.make=some .cut:=by
 unfold Program.make;rw[h];simp only[b,e];simp
def Zoi{P:Program}{f:FuncId}{fn:Func}{s:ChangeSpec}{c:OpenClaim}(E:c.wf (OpenSpec.ofChange s)=true)(F:laidOutB P=true)(G:mapsRowed P=true)(H:(c.inPlace==P.inPlace f)=true)(I:(c.unfollowed==P.unfollowed f)=true)(K:(c.recurses==P.recurses f)=true)
  (L:(c.named==P.varsNamed f)=true) (M:(c.plainKeys==P.plainKeys)=true) (N:P.stopsHeard=true) (b:P.mayEnter=true) (e:(c.lifted==P.liftsFinal)=true) (h:(P.make==some c.make)=true)
  (w:(fn.params.all (P.readableRec ·)&&namedTie P c.named s.vars&&(c.stops==[])&&(P.stops==[])&&(c.knobs==[])&&(P.stopKnobs==[]))=true)
  (z:((c.maps==(fn.params.toList++s.plain.varTypes P).any (P.mapsRec ·))&&(c.ifaces==(fn.params.toList++s.plain.varTypes P).any (P.ifacesRec ·))&&(c.mapsOut==P.mapsAmong fn.resultTypes.toList) &&
   (c.loops==(fn.params.toList++s.plain.varTypes P).any (P.loopsFrom ·))&&(c.wideKeys==(fn.params.toList++s.plain.varTypes P++fn.resultTypes.toList).any (P.wideKeysFrom ·)) &&
   s.vars.all (P.varReadable ·)&&fn.resultTypes.all (λ t=>P.readableRec t&&decide (t<P.types.size))&&(c.ifacesOut==fn.resultTypes.toList.any (P.ifacesRec ·))&&(c.loopsOut==fn.resultTypes.toList.any (P.loopsFrom ·)))=true)
  (B:(c.shortTexts.isNone&&(c.kinds==(if c.domain.isEmpty then[]else fn.params.toList.map λ t=>match P.underlying t with|some (.int k)=>some k|_=>none))&&(c.pinned==c.pinnedBy) &&
   (c.veiled==(fn.params.toList++s.plain.varTypes P++fn.resultTypes.toList).any (P.veiledRec ·))&&c.veiledFits P fn.params.toList (fn.params.toList++s.plain.varTypes P++fn.resultTypes.toList))=true):joinedFacts P f fn s c=true:=by
 simp only[Bool.and_eq_true]at w z B;obtain⟨⟨⟨⟨⟨Q,S⟩,T⟩,U⟩,V⟩,W⟩:=w;obtain⟨⟨⟨⟨⟨⟨⟨⟨X,Y⟩,Z⟩,y4⟩,y5⟩,y6⟩,y7⟩,y8⟩,y9⟩:=z;obtain⟨⟨⟨⟨z1,z2⟩,z3⟩,z4⟩,z5⟩:=B;unfold joinedFacts;simp only[Bool.and_eq_true];exact⟨⟨⟨⟨⟨⟨⟨⟨⟨⟨⟨⟨⟨⟨⟨⟨⟨⟨⟨⟨⟨⟨⟨⟨⟨⟨⟨⟨⟨⟨⟨E,F⟩,G⟩,Q⟩,S⟩,T⟩,U⟩,V⟩,W⟩,H⟩,I⟩,K⟩,L⟩,X⟩,Y⟩,Z⟩,y4⟩,y5⟩,y6⟩,y7⟩,y8⟩,y9⟩,M⟩,z1⟩,N⟩,b⟩,e⟩,h⟩,z2⟩,z3⟩,z4⟩,z5⟩
end Go.TM
namespace Go.Proofs.YtnpfcnfhfkflhaaGreatDoor
open Go.TM
def Jb:List Nat:=[116,111,117,99,104,109,97,114,107,47,116,111,117,99,104,109,97,114,107,108,97,119,48,52,46,82,105,118,97,108]
def Pq:List (List Char):=[[104,97,114,110,101,115,115],[51,55,53,54,53,49,100,49,50,50,99,48,52,52,50,49,99,101,52,57,56,101,51,51,48,54,57,100,100,98,57,102,98,99,51,54,52,50,98,56,101,57,49,100,54,48,97,55,56,98,56,99,57,54,97,56,100,101,56,100,53,51,98,48],[99,117,116],[97,116],Jb++[79,114,100,101,114,115],Jb++[70,97,116,101,115],Jb++[82,101,97,108],Jb++[68,105,102,102,101,114,115],Jb++[83,119,97,112,115],Jb++[78,97,109,101,115],Jb++[70,97,108,108,115],Jb++[76,101,115,115],Jb++[87,105,116,104,100,114,97,119,115],Jb++[68,101,99,105,100,101,115],Jb++[76,101,97,118,101,115],Jb++[83,116,97,121,115],Jb++[72,111,108,100,115],Jb++[78,97,114,114,111,119],Jb++[84,101,120,116,115],Jb++[66,97,99,107]].map λ(l:List Nat)=>l.map Char.ofNat
def Dx:List Char:=((Pq.map (Char.ofNat 32::·)).flatten).drop 1
def ge:prog.initOrder=String.ofList Dx:=by kernel_rfl
def qY:wordsSigns Dx=Pq:=by kernel_rfl
def UN:wordsSigns prog.initOrder.toList=Pq:=by rw[ge,String.toList_ofList,qY]
def Ly:List (List Char):=Pq.drop 3
def AS:behindMainWord Pq=[99,117,116].map Char.ofNat::Ly:=by kernel_rfl
def MZ:prog.laysLater=false:=by kernel_rfl
def Ns:prog.bearsReflect=false:=by kernel_rfl
def jZ:prog.doorFits []=true:=by kernel_rfl
def Tg:behindMainWord (wordsSigns prog.initOrder.toList)=[99,117,116].map Char.ofNat::Ly:=by rw[UN,AS]
def Zk7:prog.mayEnter=true:=zk Tg (by kernel_rfl) (by kernel_rfl) MZ Ns jZ
def Zg5:(false==prog.liftsFinal)=true:=by
 rw[qH Tg (by kernel_rfl) (by kernel_rfl)];rfl
def Zog:(prog.make==some .cut)=true:=by
 rw[RQ Tg (by kernel_rfl) (by kernel_rfl)];rfl
def Zou:ownKnob prog.godebug=Option.none:=by kernel_rfl
def Zla:laidOutB prog=true:=by kernel_rfl
def Zik:mapsRowed prog=true:=by kernel_rfl
def Zin:(false==prog.plainKeys)=true:=by kernel_rfl
def Zg7:prog.stopsHeard=true:=by kernel_rfl
end Go.Proofs.YtnpfcnfhfkflhaaGreatDoor

