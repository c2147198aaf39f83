/- Lemmas. No conditions. -/
import Derived.Test.YtajkaognaiglhaaGreatDoorRows
import Derived.JoinedOf
set_option linter.all false
open List
open Go.Proofs.Tryz (prog)
set_option maxRecDepth 100000
namespace Go.TM
open Go
def BA{P:Program}{c:List Char}{rest:List (List Char)}(h:behindMainWord (wordsSigns P.initOrder.toList)=c::rest)(e:(stripLifts liftWords (c::rest)).2.head?==some "cut".toList)(f:(stripLifts liftWords (c::rest)).1=[])(w:P.laysLater=false)(z:P.bearsReflect=false)(B:P.doorFits []=true):P.mayEnter=true:=by
 unfold Program.mayEnter;rw[h];simp only[f,w,z,B];simp only[e];simp
def Rz{P:Program}{c:List Char}{rest:List (List Char)}(h:behindMainWord (wordsSigns P.initOrder.toList)=c::rest)(e:(c== "carried".toList)=false)(f:(stripLifts liftWords (c::rest)).1=[]):P.liftsFinal=false:=by
 unfold Program.liftsFinal Program.headLifts;rw[h];simp only[f,head?_cons];have:(some c==some "carried".toList)=false:=e;rw[this];split <;> rfl
def Np{P:Program}{c:List Char}{rest:List (List Char)}(h:behindMainWord (wordsSigns P.initOrder.toList)=c::rest)(e:(c== "gc".toList|| c== "spec".toList)=false)(f:(c== "cut".toList)=true):P.make=some .cut:=by
 unfold Program.make;rw[h];simp only[e,f];simp
def Zci{P:Program}{f:FuncId}{fn:Func}{s:ChangeSpec}{c:OpenClaim}(a1:c.wf (OpenSpec.ofChange s)=true)(a2:laidOutB P=true)(a3:mapsRowed P=true)(a4:(c.inPlace==P.inPlace f)=true)(a5:(c.unfollowed==P.unfollowed f)=true)(G:(c.recurses==P.recurses f)=true)
  (a7:(c.named==P.varsNamed f)=true) (H:(c.plainKeys==P.plainKeys)=true) (I:P.stopsHeard=true) (e:P.mayEnter=true) (w:(c.lifted==P.liftsFinal)=true) (z:(P.make==some c.make)=true)
  (B:(fn.params.all (P.readableRec ·)&&namedTie P c.named s.vars&&(c.stops==[])&&(P.stops==[])&&(c.knobs==[])&&(P.stopKnobs==[]))=true)
  (E:((c.maps==(fn.params.toList++s.plain.varTypes P).any (P.mapsRec ·))&&(c.ifaces==(fn.params.toList++s.plain.varTypes P).any (P.ifacesRec ·))&&(c.mapsOut==P.mapsAmong fn.resultTypes.toList) &&
   (c.loops==(fn.params.toList++s.plain.varTypes P).any (P.loopsFrom ·))&&(c.wideKeys==(fn.params.toList++s.plain.varTypes P++fn.resultTypes.toList).any (P.wideKeysFrom ·)) &&
   s.vars.all (P.varReadable ·)&&fn.resultTypes.all (λ t=>P.readableRec t&&decide (t<P.types.size))&&(c.ifacesOut==fn.resultTypes.toList.any (P.ifacesRec ·))&&(c.loopsOut==fn.resultTypes.toList.any (P.loopsFrom ·)))=true)
  (F:(c.shortTexts.isNone&&(c.kinds==(if c.domain.isEmpty then[]else fn.params.toList.map λ t=>match P.underlying t with|some (.int k)=>some k|_=>none))&&(c.pinned==c.pinnedBy) &&
   (c.veiled==(fn.params.toList++s.plain.varTypes P++fn.resultTypes.toList).any (P.veiledRec ·))&&c.veiledFits P fn.params.toList (fn.params.toList++s.plain.varTypes P++fn.resultTypes.toList))=true):joinedFacts P f fn s c=true:=by
 simp only[Bool.and_eq_true]at B E F;obtain⟨⟨⟨⟨⟨K,L⟩,M⟩,N⟩,Q⟩,S⟩:=B;obtain⟨⟨⟨⟨⟨⟨⟨⟨T,U⟩,V⟩,W⟩,X⟩,Y⟩,Z⟩,y8⟩,y9⟩:=E;obtain⟨⟨⟨⟨z1,z2⟩,z3⟩,z4⟩,z5⟩:=F;unfold joinedFacts;simp only[Bool.and_eq_true];exact⟨⟨⟨⟨⟨⟨⟨⟨⟨⟨⟨⟨⟨⟨⟨⟨⟨⟨⟨⟨⟨⟨⟨⟨⟨⟨⟨⟨⟨⟨⟨a1,a2⟩,a3⟩,K⟩,L⟩,M⟩,N⟩,Q⟩,S⟩,a4⟩,a5⟩,G⟩,a7⟩,T⟩,U⟩,V⟩,W⟩,X⟩,Y⟩,Z⟩,y8⟩,y9⟩,H⟩,z1⟩,I⟩,e⟩,w⟩,z⟩,z2⟩,z3⟩,z4⟩,z5⟩
end Go.TM
namespace Go.Proofs.YtajkaognaiglhaaGreatDoor
open Go.TM
def UC:List Nat:=[116,111,117,99,104,109,97,114,107,47,116,111,117,99,104,109,97,114,107,108,97,119,48,52,46,82,105,118,97,108]
def P5:List (List Char):=[[104,97,114,110,101,115,115],[55,54,52,51,51,52,52,49,102,56,50,57,98,101,54,100,56,54,51,98,51,48,97,54,50,53,50,101,101,56,52,101,49,54,100,54,101,54,102,53,51,52,53,48,99,57,99,57,50,99,97,56,102,51,99,53,53,52,57,101,101,101,53,51],[99,117,116],[97,116],UC++[83,116,97,121,115],UC++[72,111,108,100,115]].map λ(l:List Nat)=>l.map Char.ofNat
def SX:List Char:=((P5.map (Char.ofNat 32::·)).flatten).drop 1
def A1:prog.initOrder=String.ofList SX:=by kernel_rfl
def Rw:wordsSigns SX=P5:=by kernel_rfl
def Ui:wordsSigns prog.initOrder.toList=P5:=by rw[A1,String.toList_ofList,Rw]
def Uh:List (List Char):=P5.drop 3
def AE:behindMainWord P5=[99,117,116].map Char.ofNat::Uh:=by kernel_rfl
def NZ:prog.laysLater=false:=by kernel_rfl
def Ny:prog.bearsReflect=false:=by kernel_rfl
def Rj:prog.doorFits []=true:=by kernel_rfl
def KG:behindMainWord (wordsSigns prog.initOrder.toList)=[99,117,116].map Char.ofNat::Uh:=by rw[Ui,AE]
def Q8l:prog.mayEnter=true:=BA KG (by kernel_rfl) (by kernel_rfl) NZ Ny Rj
def Q38:(false==prog.liftsFinal)=true:=by
 rw[Rz KG (by kernel_rfl) (by kernel_rfl)];rfl
def Zcg:(prog.make==some .cut)=true:=by
 rw[Np KG (by kernel_rfl) (by kernel_rfl)];rfl
def Zct:ownKnob prog.godebug=Option.none:=by kernel_rfl
def Q8v:laidOutB prog=true:=by kernel_rfl
def Q59:mapsRowed prog=true:=by kernel_rfl
def Q6a:(false==prog.plainKeys)=true:=by kernel_rfl
def Q4a:prog.stopsHeard=true:=by kernel_rfl
end Go.Proofs.YtajkaognaiglhaaGreatDoor

