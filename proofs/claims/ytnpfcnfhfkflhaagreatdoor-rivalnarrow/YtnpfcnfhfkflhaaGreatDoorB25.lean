/- Lemmas of the proof. No conditions of their own. -/
import Derived.Test.YtnpfcnfhfkflhaaGreatDoorProg
import Derived.KernelRfl
import Derived.Test.YtnpfcnfhfkflhaaGreatDoorB13
set_option linter.all false
open Go.Proofs.Tryz (prog)
set_option maxRecDepth 100000
noncomputable section
namespace Go.Proofs
open Go.TM
open Go.Conc (QuitsD)
section
variable (b:Nat) (m:Bool) (c:Frame) (cs:List Frame)
def Qqs (b:Nat) (_:Bool) (c:Frame) (cs:List Frame):Gr:=Rf (Frame.enter prog 149 #[.pointer (some ⟨b,0,none⟩),.int .i64 1] .normal) (c::cs)
theorem Q42:Qm prog 209 m 12 (Qqs b m c cs)=some []:=by kernel_rfl
def Qjk:Gr:=Qi prog 209 m 12 (Qqs b m c cs)
theorem Q43:(Qc prog 209 m (Qjk b m c cs) undef undef).info=some (undef,undef,#[Z2 .disable],[]):=by kernel_rfl
def Qqt:Gr:=(Qc prog 209 m (Qjk b m c cs) undef undef).get (Qjk b m c cs)
theorem Q44:Qm prog 209 m 34 (Qqt b m c cs)=some []:=by kernel_rfl
def Z9:Gr:=Qi prog 209 m 34 (Qqt b m c cs)
theorem Q45:(Qc prog 209 m (Z9 b m c cs) (Q1 0 0) (Qq 0)).info=some (Q1 1 0,Qq 0,#[Jg b 0,evW b 0],[(b,true),(b,true)]):=by kernel_rfl
def Qi0:Gr:=(Qc prog 209 m (Z9 b m c cs) (Q1 0 0) (Qq 0)).get (Z9 b m c cs)
theorem Q0s:Qm prog 209 m 53 (Qi0 b m c cs)=some [(b,false),(b,false)]:=by kernel_rfl
def Qdi:Gr:=Qi prog 209 m 53 (Qi0 b m c cs)
theorem Q0x:(Qc prog 209 m (Qdi b m c cs) undef undef).info=some (undef,undef,#[Z2 (bif false then .write ⟨b,1,none⟩ else .read ⟨b,1,none⟩)],[]):=by kernel_rfl
def Qgj:Gr:=(Qc prog 209 m (Qdi b m c cs) undef undef).get (Qdi b m c cs)
theorem Q0t:Qm prog 209 m 39 (Qgj b m c cs)=some []:=by kernel_rfl
def Qdj:Gr:=Qi prog 209 m 39 (Qgj b m c cs)
theorem Q0u:(Qc prog 209 m (Qdj b m c cs) undef undef).info=some (undef,undef,#[Z2 .enable],[]):=by kernel_rfl
def Qgi:Gr:=(Qc prog 209 m (Qdj b m c cs) undef undef).get (Qdj b m c cs)
theorem Q0v:Qm prog 209 m 1 (Qgi b m c cs)=some []:=by kernel_rfl
theorem Q0w:Qi prog 209 m 1 (Qgi b m c cs)=Rf (c.finish (.tuple #[])) cs:=by kernel_rfl
theorem Q46:(Qc prog 209 m (Z9 b m c cs) (Q1 1 0) (Qq 0)).info=some (Q1 2 0,Qq 0,#[Jg b 0,evW b 0],[(b,true),(b,true)]):=by kernel_rfl
def Qi1:Gr:=(Qc prog 209 m (Z9 b m c cs) (Q1 1 0) (Qq 0)).get (Z9 b m c cs)
theorem Q0y:Qm prog 209 m 87 (Qi1 b m c cs)=some []:=by kernel_rfl
def Qdk:Gr:=Qi prog 209 m 87 (Qi1 b m c cs)
theorem Q0z:(Qc prog 209 m (Qdk b m c cs) undef undef).info=some (undef,undef,#[Z2 .enable],[]):=by kernel_rfl
def Qgk:Gr:=(Qc prog 209 m (Qdk b m c cs) undef undef).get (Qdk b m c cs)
theorem Q00:Qm prog 209 m 1 (Qgk b m c cs)=some []:=by kernel_rfl
theorem Q01:Qi prog 209 m 1 (Qgk b m c cs)=Rf (c.finish (.tuple #[])) cs:=by kernel_rfl
theorem Q47:(Qc prog 209 m (Z9 b m c cs) (Q1 2 0) (Qq 0)).info=some (Q1 3 0,Qq 0,#[Jg b 0,evW b 0],[(b,true),(b,true)]):=by kernel_rfl
def Qi2:Gr:=(Qc prog 209 m (Z9 b m c cs) (Q1 2 0) (Qq 0)).get (Z9 b m c cs)
theorem Q02:Qm prog 209 m 87 (Qi2 b m c cs)=some []:=by kernel_rfl
def Qdl:Gr:=Qi prog 209 m 87 (Qi2 b m c cs)
theorem Q03:(Qc prog 209 m (Qdl b m c cs) undef undef).info=some (undef,undef,#[Z2 .enable],[]):=by kernel_rfl
def Qgl:Gr:=(Qc prog 209 m (Qdl b m c cs) undef undef).get (Qdl b m c cs)
theorem Q04:Qm prog 209 m 1 (Qgl b m c cs)=some []:=by kernel_rfl
theorem Q05:Qi prog 209 m 1 (Qgl b m c cs)=Rf (c.finish (.tuple #[])) cs:=by kernel_rfl
theorem Q48:(Qc prog 209 m (Z9 b m c cs) (Q1 3 0) (Qq 0)).info=some (Q1 4 0,Qq 0,#[Jg b 0,evW b 0],[(b,true),(b,true)]):=by kernel_rfl
def Qi3:Gr:=(Qc prog 209 m (Z9 b m c cs) (Q1 3 0) (Qq 0)).get (Z9 b m c cs)
theorem Q06:Qm prog 209 m 87 (Qi3 b m c cs)=some []:=by kernel_rfl
def Qdm:Gr:=Qi prog 209 m 87 (Qi3 b m c cs)
theorem Q07:(Qc prog 209 m (Qdm b m c cs) undef undef).info=some (undef,undef,#[Z2 .enable],[]):=by kernel_rfl
def Qgm:Gr:=(Qc prog 209 m (Qdm b m c cs) undef undef).get (Qdm b m c cs)
theorem Q08:Qm prog 209 m 1 (Qgm b m c cs)=some []:=by kernel_rfl
theorem Q09:Qi prog 209 m 1 (Qgm b m c cs)=Rf (c.finish (.tuple #[])) cs:=by kernel_rfl
theorem Q49:(Qc prog 209 m (Z9 b m c cs) (Q1 4 0) (Qq 0)).info=some (Q1 5 0,Qq 0,#[Jg b 0,evW b 0],[(b,true),(b,true)]):=by kernel_rfl
def Qi4:Gr:=(Qc prog 209 m (Z9 b m c cs) (Q1 4 0) (Qq 0)).get (Z9 b m c cs)
theorem Q1a:Qm prog 209 m 87 (Qi4 b m c cs)=some []:=by kernel_rfl
def Qdn:Gr:=Qi prog 209 m 87 (Qi4 b m c cs)
theorem Q1b:(Qc prog 209 m (Qdn b m c cs) undef undef).info=some (undef,undef,#[Z2 .enable],[]):=by kernel_rfl
def Qgn:Gr:=(Qc prog 209 m (Qdn b m c cs) undef undef).get (Qdn b m c cs)
theorem Q1c:Qm prog 209 m 1 (Qgn b m c cs)=some []:=by kernel_rfl
theorem Q1d:Qi prog 209 m 1 (Qgn b m c cs)=Rf (c.finish (.tuple #[])) cs:=by kernel_rfl
theorem Q5a:(Qc prog 209 m (Z9 b m c cs) (Q1 5 0) (Qq 0)).info=some (Q1 6 0,Qq 0,#[Jg b 0,evW b 0],[(b,true),(b,true)]):=by kernel_rfl
def Qi5:Gr:=(Qc prog 209 m (Z9 b m c cs) (Q1 5 0) (Qq 0)).get (Z9 b m c cs)
theorem Q1e:Qm prog 209 m 87 (Qi5 b m c cs)=some []:=by kernel_rfl
def Qdo:Gr:=Qi prog 209 m 87 (Qi5 b m c cs)
theorem Q1f:(Qc prog 209 m (Qdo b m c cs) undef undef).info=some (undef,undef,#[Z2 .enable],[]):=by kernel_rfl
def Qgo:Gr:=(Qc prog 209 m (Qdo b m c cs) undef undef).get (Qdo b m c cs)
theorem Q1g:Qm prog 209 m 1 (Qgo b m c cs)=some []:=by kernel_rfl
theorem Q1h:Qi prog 209 m 1 (Qgo b m c cs)=Rf (c.finish (.tuple #[])) cs:=by kernel_rfl
end
end Go.Proofs
end
