/- Lemmas. No conditions. -/
import Derived.Test.YtcakpkianonbkaaGreatDoorRows
import Derived.JoinedOf
set_option linter.all false
open List
open Go.Proofs.Tryz (prog)
set_option maxRecDepth 100000
namespace Go.TM
open Go
def Q57{P:Program}{c:List Char}{rest:List (List Char)}(h:behindMainWord (wordsSigns P.initOrder.toList)=c::rest)(h1:(stripLifts liftWords (c::rest)).2.head?==some "cut".toList)(h2:(stripLifts liftWords (c::rest)).1=[])(h3:P.laysLater=false)(h4:P.bearsReflect=false)(h5:P.doorFits []=true):P.mayEnter=true:=by
 unfold Program.mayEnter;rw[h];simp only[h2,h3,h4,h5];simp only[h1];simp
def Qxc{P:Program}{c:List Char}{rest:List (List Char)}(h:behindMainWord (wordsSigns P.initOrder.toList)=c::rest)(h0:(c== "carried".toList)=false)(h2:(stripLifts liftWords (c::rest)).1=[]):P.liftsFinal=false:=by
 unfold Program.liftsFinal Program.headLifts;rw[h];simp only[h2,head?_cons];have:(some c==some "carried".toList)=false:=h0;rw[this];split <;> rfl
def Zqg{P:Program}{c:List Char}{rest:List (List Char)}(h:behindMainWord (wordsSigns P.initOrder.toList)=c::rest)(h1:(c== "gc".toList|| c== "spec".toList)=false)(h2:(c== "cut".toList)=true):P.make=some .cut:=by
 unfold Program.make;rw[h];simp only[h1,h2];simp
def Zs4{P:Program}{f:FuncId}{fn:Func}{s:ChangeSpec}{c:OpenClaim}(a1:c.wf (OpenSpec.ofChange s)=true)(a2:laidOutB P=true)(a3:mapsRowed P=true)(a4:(c.inPlace==P.inPlace f)=true)(a5:(c.unfollowed==P.unfollowed f)=true)(a6:(c.recurses==P.recurses f)=true)
  (a7:(c.named==P.varsNamed f)=true) (a8:(c.plainKeys==P.plainKeys)=true) (a9:P.stopsHeard=true) (a10:P.mayEnter=true) (a11:(c.lifted==P.liftsFinal)=true) (a12:(P.make==some c.make)=true)
  (b1:(fn.params.all (P.readableRec ·)&&namedTie P c.named s.vars&&(c.stops==[])&&(P.stops==[])&&(c.knobs==[])&&(P.stopKnobs==[]))=true)
  (b2:((c.maps==(fn.params.toList++s.plain.varTypes P).any (P.mapsRec ·))&&(c.ifaces==(fn.params.toList++s.plain.varTypes P).any (P.ifacesRec ·))&&(c.mapsOut==P.mapsAmong fn.resultTypes.toList) &&
   (c.loops==(fn.params.toList++s.plain.varTypes P).any (P.loopsFrom ·))&&(c.wideKeys==(fn.params.toList++s.plain.varTypes P++fn.resultTypes.toList).any (P.wideKeysFrom ·)) &&
   s.vars.all (P.varReadable ·)&&fn.resultTypes.all (λ t=>P.readableRec t&&decide (t<P.types.size))&&(c.ifacesOut==fn.resultTypes.toList.any (P.ifacesRec ·))&&(c.loopsOut==fn.resultTypes.toList.any (P.loopsFrom ·)))=true)
  (b3:(c.shortTexts.isNone&&(c.kinds==(if c.domain.isEmpty then[]else fn.params.toList.map λ t=>match P.underlying t with|some (.int k)=>some k|_=>none))&&(c.pinned==c.pinnedBy) &&
   (c.veiled==(fn.params.toList++s.plain.varTypes P++fn.resultTypes.toList).any (P.veiledRec ·))&&c.veiledFits P fn.params.toList (fn.params.toList++s.plain.varTypes P++fn.resultTypes.toList))=true):joinedFacts P f fn s c=true:=by
 simp only[Bool.and_eq_true]at b1 b2 b3;obtain⟨⟨⟨⟨⟨x1,x2⟩,x3⟩,x4⟩,x5⟩,x6⟩:=b1;obtain⟨⟨⟨⟨⟨⟨⟨⟨y1,y2⟩,y3⟩,y4⟩,y5⟩,y6⟩,y7⟩,y8⟩,y9⟩:=b2;obtain⟨⟨⟨⟨z1,z2⟩,z3⟩,z4⟩,z5⟩:=b3;unfold joinedFacts;simp only[Bool.and_eq_true];exact⟨⟨⟨⟨⟨⟨⟨⟨⟨⟨⟨⟨⟨⟨⟨⟨⟨⟨⟨⟨⟨⟨⟨⟨⟨⟨⟨⟨⟨⟨⟨a1,a2⟩,a3⟩,x1⟩,x2⟩,x3⟩,x4⟩,x5⟩,x6⟩,a4⟩,a5⟩,a6⟩,a7⟩,y1⟩,y2⟩,y3⟩,y4⟩,y5⟩,y6⟩,y7⟩,y8⟩,y9⟩,a8⟩,z1⟩,a9⟩,a10⟩,a11⟩,a12⟩,z2⟩,z3⟩,z4⟩,z5⟩
end Go.TM
namespace Go.Proofs.YtcakpkianonbkaaGreatDoor
open Go.TM
def Qym:List Nat:=[116,111,117,99,104,109,97,114,107,47,116,111,117,99,104,109,97,114,107,108,97,119,48,52,46,82,105,118,97,108]
def Qcd:List (List Char):=[[104,97,114,110,101,115,115],[51,52,51,54,50,51,102,56,100,99,99,49,55,57,98,52,49,99,51,51,99,56,52,53,97,100,98,102,101,48,51,53,100,100,100,55,97,53,53,57,51,50,97,57,50,57,56,56,52,99,102,51,52,99,57,54,50,51,98,102,101,48,101,99],[99,117,116],[97,116],Qym++[76,97,116,101],Qym++[68,97,121,115]].map λ(l:List Nat)=>l.map Char.ofNat
def Qr9:List Char:=((Qcd.map (Char.ofNat 32::·)).flatten).drop 1
def Qz6:prog.initOrder=String.ofList Qr9:=by kernel_rfl
def Qw6:wordsSigns Qr9=Qcd:=by kernel_rfl
def Qu1:wordsSigns prog.initOrder.toList=Qcd:=by rw[Qz6,String.toList_ofList,Qw6]
def Qs9:List (List Char):=Qcd.drop 3
def Q2w:behindMainWord Qcd=[99,117,116].map Char.ofNat::Qs9:=by kernel_rfl
def Qsy:prog.laysLater=false:=by kernel_rfl
def Qkl:prog.bearsReflect=false:=by kernel_rfl
def Qwp:prog.doorFits []=true:=by kernel_rfl
def Qga:behindMainWord (wordsSigns prog.initOrder.toList)=[99,117,116].map Char.ofNat::Qs9:=by rw[Qu1,Q2w]
def Zo7:prog.mayEnter=true:=Q57 Qga (by kernel_rfl) (by kernel_rfl) Qsy Qkl Qwp
def Zj2:(false==prog.liftsFinal)=true:=by
 rw[Qxc Qga (by kernel_rfl) (by kernel_rfl)];rfl
def Zs2:(prog.make==some .cut)=true:=by
 rw[Zqg Qga (by kernel_rfl) (by kernel_rfl)];rfl
def Zth:ownKnob prog.godebug=Option.none:=by kernel_rfl
def Zpl:laidOutB prog=true:=by kernel_rfl
def Zmh:mapsRowed prog=true:=by kernel_rfl
def Zmk:(false==prog.plainKeys)=true:=by kernel_rfl
def Zj4:prog.stopsHeard=true:=by kernel_rfl
end Go.Proofs.YtcakpkianonbkaaGreatDoor
