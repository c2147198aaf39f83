/- Lemmas of the proof. No conditions of their own. -/
import Derived.Test.YtnpfcnfhfkflhaaGreatDoorRows
import Derived.JoinedOf
import Derived.KernelRfl
set_option linter.all false
open List
open Go.Proofs.Tryz (prog)
set_option maxRecDepth 100000
namespace Go.TM
open Go
theorem Q33 {P:Program} {c:List Char} {rest:List (List Char)} (h:behindMainWord (wordsSigns P.initOrder.toList)=c::rest) (h1:(stripLifts liftWords (c::rest)).2.head? == some "cut".toList) (h2:(stripLifts liftWords (c::rest)).1=[]) (h3:P.laysLater=false) (h4:P.bearsReflect=false) (h5:P.doorFits []=true):P.mayEnter=true:=by
 unfold Program.mayEnter;rw [h];simp only [h2,h3,h4,h5];simp only [h1];simp
theorem Qvp {P:Program} {c:List Char} {rest:List (List Char)} (h:behindMainWord (wordsSigns P.initOrder.toList)=c::rest) (h0:(c == "carried".toList)=false) (h2:(stripLifts liftWords (c::rest)).1=[]):P.liftsFinal=false:=by
 unfold Program.liftsFinal Program.headLifts;rw [h];simp only [h2,head?_cons];have:(some c == some "carried".toList)=false:=h0;rw [this];split <;> rfl
theorem Zl1 {P:Program} {c:List Char} {rest:List (List Char)} (h:behindMainWord (wordsSigns P.initOrder.toList)=c::rest) (h1:(c == "gc".toList || c == "spec".toList)=false) (h2:(c == "cut".toList)=true):P.make=some .cut:=by
 unfold Program.make;rw [h];simp only [h1,h2];simp
theorem Zoi {P:Program} {f:FuncId} {fn:Func} {s:ChangeSpec} {c:OpenClaim} (a1:c.wf (OpenSpec.ofChange s)=true) (a2:laidOutB P=true) (a3:mapsRowed P=true) (a4:(c.inPlace == P.inPlace f)=true) (a5:(c.unfollowed == P.unfollowed f)=true) (a6:(c.recurses == P.recurses f)=true)
  (a7:(c.named == P.varsNamed f)=true) (a8:(c.plainKeys == P.plainKeys)=true) (a9:P.stopsHeard=true) (a10:P.mayEnter=true) (a11:(c.lifted == P.liftsFinal)=true) (a12:(P.make == some c.make)=true)
  (b1:(fn.params.all (P.readableRec ·) && namedTie P c.named s.vars && (c.stops == []) && (P.stops == []) && (c.knobs == []) && (P.stopKnobs == []))=true)
  (b2:((c.maps == (fn.params.toList++s.plain.varTypes P).any (P.mapsRec ·)) && (c.ifaces == (fn.params.toList++s.plain.varTypes P).any (P.ifacesRec ·)) && (c.mapsOut == P.mapsAmong fn.resultTypes.toList) &&
   (c.loops == (fn.params.toList++s.plain.varTypes P).any (P.loopsFrom ·)) && (c.wideKeys == (fn.params.toList++s.plain.varTypes P++fn.resultTypes.toList).any (P.wideKeysFrom ·)) &&
   s.vars.all (P.varReadable ·) && fn.resultTypes.all (λ t=>P.readableRec t && decide (t<P.types.size)) && (c.ifacesOut == fn.resultTypes.toList.any (P.ifacesRec ·)) && (c.loopsOut == fn.resultTypes.toList.any (P.loopsFrom ·)))=true)
  (b3:(c.shortTexts.isNone && (c.kinds == (if c.domain.isEmpty then [] else fn.params.toList.map λ t=>match P.underlying t with | some (.int k)=>some k | _=>none)) && (c.pinned == c.pinnedBy) &&
   (c.veiled == (fn.params.toList++s.plain.varTypes P++fn.resultTypes.toList).any (P.veiledRec ·)) && c.veiledFits P fn.params.toList (fn.params.toList++s.plain.varTypes P++fn.resultTypes.toList))=true):joinedFacts P f fn s c=true:=by
 simp only [Bool.and_eq_true] at b1 b2 b3;obtain⟨⟨⟨⟨⟨x1,x2⟩,x3⟩,x4⟩,x5⟩,x6⟩:=b1;obtain⟨⟨⟨⟨⟨⟨⟨⟨y1,y2⟩,y3⟩,y4⟩,y5⟩,y6⟩,y7⟩,y8⟩,y9⟩:=b2;obtain⟨⟨⟨⟨z1,z2⟩,z3⟩,z4⟩,z5⟩:=b3;unfold joinedFacts;simp only [Bool.and_eq_true];exact⟨⟨⟨⟨⟨⟨⟨⟨⟨⟨⟨⟨⟨⟨⟨⟨⟨⟨⟨⟨⟨⟨⟨⟨⟨⟨⟨⟨⟨⟨⟨a1,a2⟩,a3⟩,x1⟩,x2⟩,x3⟩,x4⟩,x5⟩,x6⟩,a4⟩,a5⟩,a6⟩,a7⟩,y1⟩,y2⟩,y3⟩,y4⟩,y5⟩,y6⟩,y7⟩,y8⟩,y9⟩,a8⟩,z1⟩,a9⟩,a10⟩,a11⟩,a12⟩,z2⟩,z3⟩,z4⟩,z5⟩
end Go.TM
namespace Go.Proofs.YtnpfcnfhfkflhaaGreatDoor
open Go.TM
def Jb:List Nat:=[116,111,117,99,104,109,97,114,107,47,116,111,117,99,104,109,97,114,107,108,97,119,48,52,46,82,105,118,97,108]
def Qbz:List (List Char):=[[104,97,114,110,101,115,115],[51,55,53,54,53,49,100,49,50,50,99,48,52,52,50,49,99,101,52,57,56,101,51,51,48,54,57,100,100,98,57,102,98,99,51,54,52,50,98,56,101,57,49,100,54,48,97,55,56,98,56,99,57,54,97,56,100,101,56,100,53,51,98,48],[99,117,116],[97,116],Jb++[79,114,100,101,114,115],Jb++[70,97,116,101,115],Jb++[82,101,97,108],Jb++[68,105,102,102,101,114,115],Jb++[83,119,97,112,115],Jb++[78,97,109,101,115],Jb++[70,97,108,108,115],Jb++[76,101,115,115],Jb++[87,105,116,104,100,114,97,119,115],Jb++[68,101,99,105,100,101,115],Jb++[76,101,97,118,101,115],Jb++[83,116,97,121,115],Jb++[72,111,108,100,115],Jb++[78,97,114,114,111,119],Jb++[84,101,120,116,115],Jb++[66,97,99,107]].map λ (l:List Nat)=>l.map Char.ofNat
def Qq0:List Char:=((Qbz.map (Char.ofNat 32::·)).flatten).drop 1
theorem Qyw:prog.initOrder=String.ofList Qq0:=by kernel_rfl
theorem Qvi:wordsSigns Qq0=Qbz:=by kernel_rfl
theorem Qto:wordsSigns prog.initOrder.toList=Qbz:=by rw [Qyw,String.toList_ofList,Qvi]
def Qrv:List (List Char):=Qbz.drop 3
theorem Q1l:behindMainWord Qbz=[99,117,116].map Char.ofNat::Qrv:=by kernel_rfl
theorem Qrk:prog.laysLater=false:=by kernel_rfl
theorem Qjl:prog.bearsReflect=false:=by kernel_rfl
theorem Qu8:prog.doorFits []=true:=by kernel_rfl
theorem Qfi:behindMainWord (wordsSigns prog.initOrder.toList)=[99,117,116].map Char.ofNat::Qrv:=by rw [Qto,Q1l]
theorem Zk7:prog.mayEnter=true:=Q33 Qfi (by kernel_rfl) (by kernel_rfl) Qrk Qjl Qu8
theorem Zg5:(false == prog.liftsFinal)=true:=by
 rw [Qvp Qfi (by kernel_rfl) (by kernel_rfl)];rfl
theorem Zog:(prog.make == some .cut)=true:=by
 rw [Zl1 Qfi (by kernel_rfl) (by kernel_rfl)];rfl
theorem Zou:ownKnob prog.godebug=Option.none:=by kernel_rfl
theorem Zla:laidOutB prog=true:=by kernel_rfl
theorem Zik:mapsRowed prog=true:=by kernel_rfl
theorem Zin:(false == prog.plainKeys)=true:=by kernel_rfl
theorem Zg7:prog.stopsHeard=true:=by kernel_rfl
end Go.Proofs.YtnpfcnfhfkflhaaGreatDoor
