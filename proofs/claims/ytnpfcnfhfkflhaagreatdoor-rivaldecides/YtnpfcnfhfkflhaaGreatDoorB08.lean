/- Lemmas. No conditions. -/
import Derived.Test.YtnpfcnfhfkflhaaGreatDoorRows
import Derived.JoinedOf
set_option linter.all false
open List
open Go.Proofs.Tryz (prog)
set_option maxRecDepth 100000
namespace Go.TM
open Go
def zk{P:Program}{c:List Char}{rest:List (List Char)}(h:behindMainWord (wordsSigns P.initOrder.toList)=c::rest)(f:(stripLifts liftWords (c::rest)).2.head?==some "cut".toList)(w:(stripLifts liftWords (c::rest)).1=[])(e:P.laysLater=false)(z:P.bearsReflect=false)(b:P.doorFits []=true):P.mayEnter=true:=by
 unfold Program.mayEnter;rw[h];simp only[w,e,z,b];simp only[f];simp
def qH{P:Program}{c:List Char}{rest:List (List Char)}(h:behindMainWord (wordsSigns P.initOrder.toList)=c::rest)(e:(c=="carried".toList)=false)(b:(stripLifts liftWords (c::rest)).1=[]):P.liftsFinal=false:=by
 unfold Program.liftsFinal Program.headLifts;rw[h];simp only[b,head?_cons];have:(some c==some "carried".toList)=false:=e;rw[this];split <;> rfl
def RQ{P:Program}{c:List Char}{rest:List (List Char)}(h:behindMainWord (wordsSigns P.initOrder.toList)=c::rest)(e:(c=="gc".toList|| c=="spec".toList)=false)(b:(c=="cut".toList)=true):P.make=some .cut:=by
 unfold Program.make;rw[h];simp only[e,b];simp
def Zoi{P:Program}{f:FuncId}{fn:Func}{s:ChangeSpec}{c:OpenClaim}(S:c.wf (OpenSpec.ofChange s)=true)(a2:laidOutB P=true)(a3:mapsRowed P=true)(W:(c.inPlace==P.inPlace f)=true)(a5:(c.unfollowed==P.unfollowed f)=true)(F:(c.recurses==P.recurses f)=true)
  (a7:(c.named==P.varsNamed f)=true) (a8:(c.plainKeys==P.plainKeys)=true) (a9:P.stopsHeard=true) (h:P.mayEnter=true) (e:(c.lifted==P.liftsFinal)=true) (b:(P.make==some c.make)=true)
  (w:(fn.params.all (P.readableRec ·)&&namedTie P c.named s.vars&&(c.stops==[])&&(P.stops==[])&&(c.knobs==[])&&(P.stopKnobs==[]))=true)
  (B:((c.maps==(fn.params.toList++s.plain.varTypes P).any (P.mapsRec ·))&&(c.ifaces==(fn.params.toList++s.plain.varTypes P).any (P.ifacesRec ·))&&(c.mapsOut==P.mapsAmong fn.resultTypes.toList) &&
   (c.loops==(fn.params.toList++s.plain.varTypes P).any (P.loopsFrom ·))&&(c.wideKeys==(fn.params.toList++s.plain.varTypes P++fn.resultTypes.toList).any (P.wideKeysFrom ·)) &&
   s.vars.all (P.varReadable ·)&&fn.resultTypes.all (λ t=>P.readableRec t&&decide (t<P.types.size))&&(c.ifacesOut==fn.resultTypes.toList.any (P.ifacesRec ·))&&(c.loopsOut==fn.resultTypes.toList.any (P.loopsFrom ·)))=true)
  (z:(c.shortTexts.isNone&&(c.kinds==(if c.domain.isEmpty then[]else fn.params.toList.map λ t=>match P.underlying t with|some (.int k)=>some k|_=>none))&&(c.pinned==c.pinnedBy) &&
   (c.veiled==(fn.params.toList++s.plain.varTypes P++fn.resultTypes.toList).any (P.veiledRec ·))&&c.veiledFits P fn.params.toList (fn.params.toList++s.plain.varTypes P++fn.resultTypes.toList))=true):joinedFacts P f fn s c=true:=by
 simp only[Bool.and_eq_true]at w B z;obtain⟨⟨⟨⟨⟨H,G⟩,x3⟩,V⟩,x5⟩,U⟩:=w;obtain⟨⟨⟨⟨⟨⟨⟨⟨K,E⟩,y3⟩,L⟩,T⟩,X⟩,N⟩,Q⟩,I⟩:=B;obtain⟨⟨⟨⟨z1,M⟩,z3⟩,Z⟩,Y⟩:=z;unfold joinedFacts;simp only[Bool.and_eq_true];exact⟨⟨⟨⟨⟨⟨⟨⟨⟨⟨⟨⟨⟨⟨⟨⟨⟨⟨⟨⟨⟨⟨⟨⟨⟨⟨⟨⟨⟨⟨⟨S,a2⟩,a3⟩,H⟩,G⟩,x3⟩,V⟩,x5⟩,U⟩,W⟩,a5⟩,F⟩,a7⟩,K⟩,E⟩,y3⟩,L⟩,T⟩,X⟩,N⟩,Q⟩,I⟩,a8⟩,z1⟩,a9⟩,h⟩,e⟩,b⟩,M⟩,z3⟩,Z⟩,Y⟩
end Go.TM
namespace Go.Proofs.YtnpfcnfhfkflhaaGreatDoor
open Go.TM
def Jb:List Nat:=[116,111,117,99,104,109,97,114,107,47,116,111,117,99,104,109,97,114,107,108,97,119,48,52,46,82,105,118,97,108]
def Pq:List (List Char):=[[104,97,114,110,101,115,115],[51,55,53,54,53,49,100,49,50,50,99,48,52,52,50,49,99,101,52,57,56,101,51,51,48,54,57,100,100,98,57,102,98,99,51,54,52,50,98,56,101,57,49,100,54,48,97,55,56,98,56,99,57,54,97,56,100,101,56,100,53,51,98,48],[99,117,116],[97,116],Jb++[79,114,100,101,114,115],Jb++[70,97,116,101,115],Jb++[82,101,97,108],Jb++[68,105,102,102,101,114,115],Jb++[83,119,97,112,115],Jb++[78,97,109,101,115],Jb++[70,97,108,108,115],Jb++[76,101,115,115],Jb++[87,105,116,104,100,114,97,119,115],Jb++[68,101,99,105,100,101,115],Jb++[76,101,97,118,101,115],Jb++[83,116,97,121,115],Jb++[72,111,108,100,115],Jb++[78,97,114,114,111,119],Jb++[84,101,120,116,115],Jb++[66,97,99,107]].map λ(l:List Nat)=>l.map Char.ofNat
def Dx:List Char:=((Pq.map (Char.ofNat 32::·)).flatten).drop 1
def ge:prog.initOrder=String.ofList Dx:=by kernel_rfl
def qY:wordsSigns Dx=Pq:=by kernel_rfl
def UN:wordsSigns prog.initOrder.toList=Pq:=by rw[ge,String.toList_ofList,qY]
def Ly:List (List Char):=Pq.drop 3
def AS:behindMainWord Pq=[99,117,116].map Char.ofNat::Ly:=by kernel_rfl
def MZ:prog.laysLater=false:=by kernel_rfl
def Ns:prog.bearsReflect=false:=by kernel_rfl
def jZ:prog.doorFits []=true:=by kernel_rfl
def Tg:behindMainWord (wordsSigns prog.initOrder.toList)=[99,117,116].map Char.ofNat::Ly:=by rw[UN,AS]
def Zk7:prog.mayEnter=true:=zk Tg (by kernel_rfl) (by kernel_rfl) MZ Ns jZ
def Zg5:(false==prog.liftsFinal)=true:=by
 rw[qH Tg (by kernel_rfl) (by kernel_rfl)];rfl
def Zog:(prog.make==some .cut)=true:=by
 rw[RQ Tg (by kernel_rfl) (by kernel_rfl)];rfl
def Zou:ownKnob prog.godebug=Option.none:=by kernel_rfl
def Zla:laidOutB prog=true:=by kernel_rfl
def Zik:mapsRowed prog=true:=by kernel_rfl
def Zin:(false==prog.plainKeys)=true:=by kernel_rfl
def Zg7:prog.stopsHeard=true:=by kernel_rfl
end Go.Proofs.YtnpfcnfhfkflhaaGreatDoor

