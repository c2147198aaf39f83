/- Lemmas. No conditions. -/
import Derived.Test.YtajkaognaiglhaaGreatDoorRows
import Derived.JoinedOf
set_option linter.all false
set_option maxRecDepth 100000
open List
open Go.Proofs.Tryz (prog)
namespace Go.TM
open Go.Proofs
variable{P:Program}{c:List Char}{rest:List (List Char)}{f:FuncId}{fn:Func}{s:ChangeSpec}{a:OpenClaim}
section
open Go
def By(h:behindMainWord (wordsSigns P.initOrder.toList)=c::rest)(e:(stripLifts liftWords (c::rest)).2.head?==some "cut".toList)(f:(stripLifts liftWords (c::rest)).1=[])(w:P.laysLater=false)(z:P.bearsReflect=false)(B:P.doorFits []=true):P.mayEnter=true:=by
 unfold Program.mayEnter;rw[h];simp only[f,w,z,B];simp only[e];simp
def Ro(h:behindMainWord (wordsSigns P.initOrder.toList)=c::rest)(e:(c== "carried".toList)=false)(f:(stripLifts liftWords (c::rest)).1=[]):P.liftsFinal=false:=by
 unfold Program.liftsFinal Program.headLifts;rw[h];simp only[f,head?_cons];have:(some c==some "carried".toList)=false:=e;rw[this];split <;> rfl
def Mm(h:behindMainWord (wordsSigns P.initOrder.toList)=c::rest)(e:(c== "gc".toList|| c== "spec".toList)=false)(f:(c== "cut".toList)=true):P.make=some .cut:=by
 unfold Program.make;rw[h];simp only[e,f];simp
def Zb3(a1:a.wf (OpenSpec.ofChange s)=true)(a2:laidOutB P=true)(a3:mapsRowed P=true)(a4:(a.inPlace==P.inPlace f)=true)(a5:(a.unfollowed==P.unfollowed f)=true)(G:(a.recurses==P.recurses f)=true)
  (a7:(a.named==P.varsNamed f)=true) (H:(a.plainKeys==P.plainKeys)=true) (I:P.stopsHeard=true) (e:P.mayEnter=true) (w:(a.lifted==P.liftsFinal)=true) (z:(P.make==some a.make)=true)
  (B:(fn.params.all (P.readableRec ·)&&namedTie P a.named s.vars&&(a.stops==[])&&(P.stops==[])&&(a.knobs==[])&&(P.stopKnobs==[]))=true)
  (E:((a.maps==(fn.params.toList++s.plain.varTypes P).any (P.mapsRec ·))&&(a.ifaces==(fn.params.toList++s.plain.varTypes P).any (P.ifacesRec ·))&&(a.mapsOut==P.mapsAmong fn.resultTypes.toList) &&
   (a.loops==(fn.params.toList++s.plain.varTypes P).any (P.loopsFrom ·))&&(a.wideKeys==(fn.params.toList++s.plain.varTypes P++fn.resultTypes.toList).any (P.wideKeysFrom ·)) &&
   s.vars.all (P.varReadable ·)&&fn.resultTypes.all (λ t=>P.readableRec t&&decide (t<P.types.size))&&(a.ifacesOut==fn.resultTypes.toList.any (P.ifacesRec ·))&&(a.loopsOut==fn.resultTypes.toList.any (P.loopsFrom ·)))=true)
  (F:(a.shortTexts.isNone&&(a.kinds==(if a.domain.isEmpty then[]else fn.params.toList.map λ t=>match P.underlying t with|some (.int k)=>some k|_=>none))&&(a.pinned==a.pinnedBy) &&
   (a.veiled==(fn.params.toList++s.plain.varTypes P++fn.resultTypes.toList).any (P.veiledRec ·))&&a.veiledFits P fn.params.toList (fn.params.toList++s.plain.varTypes P++fn.resultTypes.toList))=true):joinedFacts P f fn s a=true:=by
 simp only[Bool.and_eq_true]at B E F;obtain⟨⟨⟨⟨⟨K,L⟩,M⟩,N⟩,Q⟩,S⟩:=B;obtain⟨⟨⟨⟨⟨⟨⟨⟨T,U⟩,V⟩,W⟩,X⟩,Y⟩,Z⟩,y8⟩,y9⟩:=E;obtain⟨⟨⟨⟨z1,z2⟩,z3⟩,z4⟩,z5⟩:=F;unfold joinedFacts;simp only[Bool.and_eq_true];exact⟨⟨⟨⟨⟨⟨⟨⟨⟨⟨⟨⟨⟨⟨⟨⟨⟨⟨⟨⟨⟨⟨⟨⟨⟨⟨⟨⟨⟨⟨⟨a1,a2⟩,a3⟩,K⟩,L⟩,M⟩,N⟩,Q⟩,S⟩,a4⟩,a5⟩,G⟩,a7⟩,T⟩,U⟩,V⟩,W⟩,X⟩,Y⟩,Z⟩,y8⟩,y9⟩,H⟩,z1⟩,I⟩,e⟩,w⟩,z⟩,z2⟩,z3⟩,z4⟩,z5⟩
end
end Go.TM
namespace Go.Proofs.YtajkaognaiglhaaGreatDoor
open Go.TM
def UV:List Nat:=[116,111,117,99,104,109,97,114,107,47,116,111,117,99,104,109,97,114,107,108,97,119,48,52,46,82,105,118,97,108]
def P4:List (List Char):=[[104,97,114,110,101,115,115],[55,54,52,51,51,52,52,49,102,56,50,57,98,101,54,100,56,54,51,98,51,48,97,54,50,53,50,101,101,56,52,101,49,54,100,54,101,54,102,53,51,52,53,48,99,57,99,57,50,99,97,56,102,51,99,53,53,52,57,101,101,101,53,51],[99,117,116],[97,116],UV++[83,116,97,121,115],UV++[72,111,108,100,115]].map λ(l:List Nat)=>l.map Char.ofNat
def SI:List Char:=((P4.map (Char.ofNat 32::·)).flatten).drop 1
def RP:prog.initOrder=String.ofList SI:=by kernel_rfl
def Rl:wordsSigns SI=P4:=by kernel_rfl
def SP:wordsSigns prog.initOrder.toList=P4:=by rw[RP,String.toList_ofList,Rl]
def SO:List (List Char):=P4.drop 3
def Au:behindMainWord P4=[99,117,116].map Char.ofNat::SO:=by kernel_rfl
def NT:prog.laysLater=false:=by kernel_rfl
def Nt:prog.bearsReflect=false:=by kernel_rfl
def R4:prog.doorFits []=true:=by kernel_rfl
def KD:behindMainWord (wordsSigns prog.initOrder.toList)=[99,117,116].map Char.ofNat::SO:=by rw[SP,Au]
def Q7u:prog.mayEnter=true:=By KD (by kernel_rfl) (by kernel_rfl) NT Nt R4
def Q3n:(false==prog.liftsFinal)=true:=by
 rw[Ro KD (by kernel_rfl) (by kernel_rfl)];rfl
def Zb0:(prog.make==some .cut)=true:=by
 rw[Mm KD (by kernel_rfl) (by kernel_rfl)];rfl
def Zce:ownKnob prog.godebug=Option.none:=by kernel_rfl
def Q8a:laidOutB prog=true:=by kernel_rfl
def Q5p:mapsRowed prog=true:=by kernel_rfl
def Q5q:(false==prog.plainKeys)=true:=by kernel_rfl
def Q3p:prog.stopsHeard=true:=by kernel_rfl
