/- Lemmas of the proof. No conditions of their own. -/
import Derived.Test.YtnpfcnfhfkflhaaGreatDoorProg
import Derived.KernelRfl
import Derived.Test.YtnpfcnfhfkflhaaGreatDoorB13
set_option linter.all false
open Go.Proofs.Tryz (prog)
set_option maxRecDepth 100000
noncomputable section
namespace Go.Proofs
open Go.TM
section
variable (b:Nat) (m:Bool) (c:Frame) (cs:List Frame)
def Zc2 (g:Gr) (t:Array Value):Gr:={ g with frame:={ g.frame with tmps:=t } }
def tmF (g:Gr) (i:Nat):Value:=g.frame.tmps.getD i undef
def Zjc:Value->Bool
 | .bool b=>b
 | _=>false
def intOf:Value->Int
 | .int _ n=>n
 | _=>0
def Qrl (b:Nat) (_:Bool) (c:Frame) (cs:List Frame):Gr:=Rf (Frame.enter prog 145 #[.pointer (some ⟨b,0,none⟩)] .normal) (c::cs)
theorem Q5g:Qm prog 202 m 7 (Qrl b m c cs)=some []:=by kernel_rfl
def Qjy:Gr:=Qi prog 202 m 7 (Qrl b m c cs)
theorem Q5h:(Qc prog 202 m (Qjy b m c cs) undef undef).info=some (undef,undef,#[Z2 .disable],[]):=by kernel_rfl
def Qrm:Gr:=(Qc prog 202 m (Qjy b m c cs) undef undef).get (Qjy b m c cs)
theorem Q5i:Qm prog 202 m 7 (Qrm b m c cs)=some []:=by kernel_rfl
def Qbv:Gr:=Qi prog 202 m 7 (Qrm b m c cs)
theorem Qi6:(Qc prog 202 m (Qbv b m c cs) (Zc 0) (Qq 0)).info=some (Zc 1,Qq 0,#[Jg b 0,evW b 0],[(b,true),(b,true),(b,false),(b,false)]):=by kernel_rfl
def Qrn:Gr:=(Qc prog 202 m (Qbv b m c cs) (Zc 0) (Qq 0)).get (Qbv b m c cs)
theorem Q5j:(Qc prog 202 m (Qbv b m c cs) (Zc 1) (Qq 0)).info=some (Zc 1,Qq 0,#[Jg b 0],[(b,true),(b,false),(b,false)]):=by kernel_rfl
def Qg2:Gr:=(Qc prog 202 m (Qbv b m c cs) (Zc 1) (Qq 0)).get (Qbv b m c cs)
theorem Q5k:Qm prog 202 m 6 (Qrn b m c cs)=some []:=by kernel_rfl
def Qjz:Gr:=Qi prog 202 m 6 (Qrn b m c cs)
theorem Q5l:(Qc prog 202 m (Qjz b m c cs) undef undef).info=some (undef,undef,#[Z2 .enable],[]):=by kernel_rfl
def Qro:Gr:=(Qc prog 202 m (Qjz b m c cs) undef undef).get (Qjz b m c cs)
theorem Q5m:Qm prog 202 m 4 (Qro b m c cs)=some [(b,false),(b,false)]:=by kernel_rfl
def Qj0:Gr:=Qi prog 202 m 4 (Qro b m c cs)
theorem Q5n:(Qc prog 202 m (Qj0 b m c cs) undef undef).info=some (undef,undef,#[Z2 (.acquire ⟨b,0,none⟩)],[]):=by kernel_rfl
def Qrp:Gr:=(Qc prog 202 m (Qj0 b m c cs) undef undef).get (Qj0 b m c cs)
theorem Q5o:Qm prog 202 m 6 (Qrp b m c cs)=some []:=by kernel_rfl
theorem Q5p:Qi prog 202 m 6 (Qrp b m c cs)=Rf (c.finish (.tuple #[])) cs:=by kernel_rfl
theorem Q59:Qm prog 202 m 6 (Qg2 b m c cs)=some []:=by kernel_rfl
def Qry (b:Nat) (m:Bool) (c:Frame) (cs:List Frame):Frame:=(Qi prog 202 m 6 (Qg2 b m c cs)).callers.headD default
def Qrz (b:Nat) (m:Bool) (c:Frame) (cs:List Frame):List Frame:=(Qi prog 202 m 6 (Qg2 b m c cs)).callers.tail
theorem Q6a:Qi prog 202 m 6 (Qg2 b m c cs)=Rf (Frame.enter prog 203 #[.pointer (some ⟨b,0,none⟩)] .normal) (Qry b m c cs::Qrz b m c cs):=by kernel_rfl
theorem Q6b:Qm prog 202 m 6 (Rf ((Qry b m c cs).finish (.tuple #[])) (Qrz b m c cs))=some []:=by kernel_rfl
theorem Q6c:Qi prog 202 m 6 (Rf ((Qry b m c cs).finish (.tuple #[])) (Qrz b m c cs))=Rf (c.finish (.tuple #[])) cs:=by kernel_rfl
end
section
variable (b:Nat) (m:Bool) (c:Frame) (cs:List Frame)
def Qy9 (b:Nat) (_:Bool) (c:Frame) (cs:List Frame):Gr:=Rf (Frame.enter prog 203 #[.pointer (some ⟨b,0,none⟩)] .normal) (c::cs)
theorem Zez:Qm prog 202 m 21 (Qy9 b m c cs)=some []:=by kernel_rfl
def Qds:Gr:=Qi prog 202 m 21 (Qy9 b m c cs)
theorem Qw7:(Qc prog 202 m (Qds b m c cs) (Zc 1) (Qq 0)).info=some (Zc 1,Qq 0,#[],[(b,true)]):=by kernel_rfl
def Qeu:Gr:=(Qc prog 202 m (Qds b m c cs) (Zc 1) (Qq 0)).get (Qds b m c cs)
theorem Q57:Qm prog 202 m 5 (Qeu b m c cs)=some []:=by kernel_rfl
theorem Ze0:(Qc prog 202 m (Qds b m c cs) (Zc 0) (Qq 0)).info=some (Zc 0,Qq 0,#[],[(b,true)]):=by kernel_rfl
def Qhw:Gr:=(Qc prog 202 m (Qds b m c cs) (Zc 0) (Qq 0)).get (Qds b m c cs)
theorem Q55:Qm prog 202 m 5 (Qhw b m c cs)=some []:=by kernel_rfl
def tmH (b:Nat) (ws st aw it ol:Value) (x:Nat->Value):Array Value:=#[.pointer (some ⟨b,0,none⟩),x 1,ws,st,aw,it,ol,x 7,x 8,x 9,x 10,x 11,x 12,x 13,x 14,x 15,x 16,x 17,x 18,x 19,x 20,x 21,x 22,x 23,x 24,x 25,x 26,x 27,x 28,x 29,x 30,x 31,x 32,x 33,x 34,x 35,x 36,x 37,x 38,x 39,x 40,x 41,x 42,x 43,x 44,x 45,x 46,x 47,x 48,x 49,x 50,x 51,x 52,x 53,x 54,x 55,x 56,x 57,x 58,x 59,x 60,x 61,x 62,x 63,x 64,x 65,x 66,x 67,x 68,x 69,x 70,x 71,x 72,x 73,x 74,x 75,x 76,x 77,x 78,x 79,x 80,x 81,x 82,x 83,x 84,x 85,x 86,x 87,x 88,x 89,x 90,x 91,x 92,x 93,x 94,x 95,x 96,x 97,x 98,x 99,x 100,x 101,x 102,x 103,x 104,x 105,x 106,x 107,x 108,x 109,x 110,x 111,x 112,x 113,x 114,x 115,x 116,x 117,x 118,x 119,x 120,x 121,x 122,x 123,x 124,x 125,x 126,x 127,x 128,x 129,x 130,x 131,x 132,x 133,x 134,x 135,x 136,x 137,x 138]
def Jf (b:Nat) (m:Bool) (c:Frame) (cs:List Frame) (ws st aw it ol:Value) (x:Nat->Value):Gr:=Zc2 (Qi prog 202 m 5 (Qeu b m c cs)) (tmH b ws st aw it ol x)
theorem Q58:Qi prog 202 m 5 (Qeu b m c cs)=Jf b m c cs (.int .i64 0) (.bool false) (.bool false) (.int .i64 0) (Zc 1) (tmF (Qi prog 202 m 5 (Qeu b m c cs))):=by kernel_rfl
theorem Q56:Qi prog 202 m 5 (Qhw b m c cs)=Jf b m c cs (.int .i64 0) (.bool false) (.bool false) (.int .i64 0) (Zc 0) (tmF (Qi prog 202 m 5 (Qhw b m c cs))):=by kernel_rfl
end
section
variable (b:Nat) (m:Bool) (c:Frame) (cs:List Frame) (x:Nat->Value)
end
section
variable (b:Nat) (m:Bool) (c:Frame) (cs:List Frame) (x:Nat->Value) (ws it:Value)
theorem Zi7:Qm prog 202 m 67 (Jf b m c cs ws (.bool false) (.bool false) it (Zc 0) x)=some []:=by kernel_rfl
def Qk4:Gr:=Qi prog 202 m 67 (Jf b m c cs ws (.bool false) (.bool false) it (Zc 0) x)
theorem Qxi:(Qc prog 202 m (Qk4 b m c cs x ws it) (Zc 0) (Qq 0)).info=some (Zc 1,Qq 0,#[Jg b 0,evW b 0],[(b,true),(b,true),(b,false),(b,false)]):=by kernel_rfl
def Qk5:Gr:=(Qc prog 202 m (Qk4 b m c cs x ws it) (Zc 0) (Qq 0)).get (Qk4 b m c cs x ws it)
theorem Zfw:Qm prog 202 m 14 (Qk5 b m c cs x ws it)=some []:=by kernel_rfl
end
section
variable (b:Nat) (m:Bool) (c:Frame) (cs:List Frame) (x:Nat->Value)
def tmE (b:Nat) (x:Nat->Value):Array Value:=#[.pointer (some ⟨b,0,none⟩),x 1,x 2,x 3,x 4,x 5,x 6,x 7,x 8,x 9,x 10,x 11,x 12,x 13,x 14,x 15,x 16,x 17,x 18,x 19,x 20,x 21,x 22,x 23,x 24,x 25,x 26,x 27,x 28,x 29,x 30,x 31,x 32,x 33,x 34,x 35,x 36,x 37,x 38,x 39,x 40,x 41,x 42,x 43,x 44,x 45,x 46,x 47,x 48,x 49,x 50,x 51,x 52,x 53,x 54,x 55,x 56,x 57,x 58,x 59,x 60,x 61,x 62,x 63,x 64,x 65,x 66,x 67,x 68,x 69,x 70,x 71,x 72,x 73,x 74,x 75,x 76,x 77,x 78,x 79,x 80,x 81,x 82,x 83,x 84,x 85,x 86,x 87,x 88,x 89,x 90,x 91,x 92,x 93,x 94,x 95,x 96,x 97,x 98,x 99,x 100,x 101,x 102,x 103,x 104,x 105,x 106,x 107,x 108,x 109,x 110,x 111,x 112,x 113,x 114,x 115,x 116,x 117,x 118,x 119,x 120,x 121,x 122,x 123,x 124,x 125,x 126,x 127,x 128,x 129,x 130,x 131,x 132,x 133,x 134,x 135,x 136,x 137,x 138]
def Qfj (b:Nat) (m:Bool) (c:Frame) (cs:List Frame) (x:Nat->Value):Gr:=Zc2 (Qi prog 202 m 14 (Qk5 b m c cs (λ _=>undef) (.int .i64 0) (.int .i64 0))) (tmE b x)
theorem Zfx (ws it:Value):Qi prog 202 m 14 (Qk5 b m c cs x ws it)=Qfj b m c cs (tmF (Qi prog 202 m 14 (Qk5 b m c cs x ws it))):=by kernel_rfl
theorem Zei:(Qc prog 202 m (Qfj b m c cs x) undef undef).info=some (undef,undef,#[Z2 .enable],[]):=by kernel_rfl
def Qqx:Gr:=(Qc prog 202 m (Qfj b m c cs x) undef undef).get (Qfj b m c cs x)
theorem Q5c:Qm prog 202 m 4 (Qqx b m c cs x)=some [(b,false),(b,false)]:=by kernel_rfl
def Qjt:Gr:=Qi prog 202 m 4 (Qqx b m c cs x)
theorem Q5d:(Qc prog 202 m (Qjt b m c cs x) undef undef).info=some (undef,undef,#[Z2 (.acquire ⟨b,0,none⟩)],[]):=by kernel_rfl
def Qqy:Gr:=(Qc prog 202 m (Qjt b m c cs x) undef undef).get (Qjt b m c cs x)
theorem Q5e:Qm prog 202 m 3 (Qqy b m c cs x)=some []:=by kernel_rfl
theorem Q5f:Qi prog 202 m 3 (Qqy b m c cs x)=Rf (c.finish (.tuple #[])) cs:=by kernel_rfl
end
section
variable (b:Nat) (m:Bool) (fn:FuncId) (T:Array Value) (todo:List Item) (ds:List Deferred) (kd:CallKind) (ro:Option Nat) (cs:List Frame)
def Qzd (b:Nat) (_:Bool) (fn:FuncId) (T:Array Value) (todo:List Item) (ds:List Deferred) (kd:CallKind) (ro:Option Nat) (cs:List Frame):Gr:=Rf (Frame.enter prog 146 #[.pointer (some ⟨b,0,none⟩)] .deferred) ({ fn:=fn,tmps:=T,todo:=todo,defers:=ds,mode:=.returning,kind:=kd,roundOf:=ro }::cs)
theorem Ze6:Qm prog 202 m 12 (Qzd b m fn T todo ds kd ro cs)=some []:=by kernel_rfl
def Qd9:Gr:=Qi prog 202 m 12 (Qzd b m fn T todo ds kd ro cs)
theorem Qxd:(Qc prog 202 m (Qd9 b m fn T todo ds kd ro cs) (Zc 1) (Qq 0)).info=some (Zc 1,Qq 0,#[],[(b,true)]):=by kernel_rfl
def Qh0:Gr:=(Qc prog 202 m (Qd9 b m fn T todo ds kd ro cs) (Zc 1) (Qq 0)).get (Qd9 b m fn T todo ds kd ro cs)
theorem Ze8:(Qc prog 202 m (Qd9 b m fn T todo ds kd ro cs) (Zc 9) (Qq 0)).info=some (Zc 9,Qq 0,#[],[(b,true)]):=by kernel_rfl
def Qxe:Gr:=(Qc prog 202 m (Qd9 b m fn T todo ds kd ro cs) (Zc 9) (Qq 0)).get (Qd9 b m fn T todo ds kd ro cs)
def Qj6 (b:Nat) (m:Bool) (fn:FuncId) (T:Array Value) (todo:List Item) (ds:List Deferred) (kd:CallKind) (ro:Option Nat) (cs:List Frame) (v:Value):Gr:=Zc2 (Qh0 b m fn T todo ds kd ro cs) ((Qh0 b m fn T todo ds kd ro cs).frame.tmps.setIfInBounds 6 v)
theorem Q6s:Qh0 b m fn T todo ds kd ro cs=Qj6 b m fn T todo ds kd ro cs (Zc 1):=by kernel_rfl
theorem Q6t:Qxe b m fn T todo ds kd ro cs=Qj6 b m fn T todo ds kd ro cs (Zc 9):=by kernel_rfl
end
section
variable (b:Nat) (m:Bool) (fn:FuncId) (T:Array Value) (todo:List Item) (ds:List Deferred) (kd:CallKind) (ro:Option Nat) (cs:List Frame) (v:Value)
theorem Zfg:Qm prog 202 m 5 (Qj6 b m fn T todo ds kd ro cs v)=some [(b,false),(b,false)]:=by kernel_rfl
def Qp7:Gr:=Qi prog 202 m 5 (Qj6 b m fn T todo ds kd ro cs v)
theorem Ze9:(Qc prog 202 m (Qp7 b m fn T todo ds kd ro cs v) undef undef).info=some (undef,undef,#[Z2 (.releaseMerge ⟨b,0,none⟩)],[]):=by kernel_rfl
def Qze:Gr:=(Qc prog 202 m (Qp7 b m fn T todo ds kd ro cs v) undef undef).get (Qp7 b m fn T todo ds kd ro cs v)
theorem Zfa:Qm prog 202 m 2 (Qze b m fn T todo ds kd ro cs v)=some []:=by kernel_rfl
def Qp8:Gr:=Qi prog 202 m 2 (Qze b m fn T todo ds kd ro cs v)
theorem Zfb:(Qc prog 202 m (Qp8 b m fn T todo ds kd ro cs v) undef undef).info=some (undef,undef,#[Z2 .disable],[]):=by kernel_rfl
def Qzf:Gr:=(Qc prog 202 m (Qp8 b m fn T todo ds kd ro cs v) undef undef).get (Qp8 b m fn T todo ds kd ro cs v)
theorem Zfc:Qm prog 202 m 6 (Qzf b m fn T todo ds kd ro cs v)=some []:=by kernel_rfl
def Qea:Gr:=Qi prog 202 m 6 (Qzf b m fn T todo ds kd ro cs v)
theorem Qxf:(Qc prog 202 m (Qea b m fn T todo ds kd ro cs v) (Zc 1) (Qq 0)).info=some (Zc 0,Qq 0,#[Jg b 0,evW b 0],[(b,true),(b,true)]):=by kernel_rfl
def Qzg:Gr:=(Qc prog 202 m (Qea b m fn T todo ds kd ro cs v) (Zc 1) (Qq 0)).get (Qea b m fn T todo ds kd ro cs v)
theorem Zfe:Qm prog 202 m 11 (Qzg b m fn T todo ds kd ro cs v)=some []:=by kernel_rfl
def Qj4:Gr:=Qi prog 202 m 11 (Qzg b m fn T todo ds kd ro cs v)
theorem Q6u:(Qc prog 202 m (Qj4 b m fn T todo ds kd ro cs v) undef undef).info=some (undef,undef,#[Z2 .enable],[]):=by kernel_rfl
def Qr2:Gr:=(Qc prog 202 m (Qj4 b m fn T todo ds kd ro cs v) undef undef).get (Qj4 b m fn T todo ds kd ro cs v)
theorem Q6v:Qm prog 202 m 6 (Qr2 b m fn T todo ds kd ro cs v)=some []:=by kernel_rfl
theorem Q6w:Qi prog 202 m 6 (Qr2 b m fn T todo ds kd ro cs v)=Rf { fn:=fn,tmps:=T,todo:=todo,defers:=ds,mode:=.returning,kind:=kd,roundOf:=ro } cs:=by kernel_rfl
theorem Zfd:(Qc prog 202 m (Qea b m fn T todo ds kd ro cs v) (Zc 9) (Qq 0)).info=some (Zc 8,Qq 0,#[Jg b 0,evW b 0],[(b,true),(b,true)]):=by kernel_rfl
def Qzh:Gr:=(Qc prog 202 m (Qea b m fn T todo ds kd ro cs v) (Zc 9) (Qq 0)).get (Qea b m fn T todo ds kd ro cs v)
theorem Zff:Qm prog 202 m 67 (Qzh b m fn T todo ds kd ro cs v)=some []:=by kernel_rfl
def Qg6:Gr:=Qi prog 202 m 67 (Qzh b m fn T todo ds kd ro cs v)
theorem Qr3:(Qc prog 202 m (Qg6 b m fn T todo ds kd ro cs v) (Zc 8) (Qq 0)).info=some (Zc 2,Qq 0,#[Jg b 0,evW b 0],[(b,true),(b,true),(b,false),(b,false)]):=by kernel_rfl
def Qr4:Gr:=(Qc prog 202 m (Qg6 b m fn T todo ds kd ro cs v) (Zc 8) (Qq 0)).get (Qg6 b m fn T todo ds kd ro cs v)
theorem Q6x:Qm prog 202 m 7 (Qr4 b m fn T todo ds kd ro cs v)=some []:=by kernel_rfl
def Qe2:Gr:=Qi prog 202 m 7 (Qr4 b m fn T todo ds kd ro cs v)
theorem Q6y:mayWake prog (Qe2 b m fn T todo ds kd ro cs v)=true:=by kernel_rfl
theorem Qr5:(Qc prog 202 m (Qe2 b m fn T todo ds kd ro cs v) (Zc 2) (Qq 0)).info=some (Zc 2,Qq 1,#[Z2 .disable,Jg b 1,evW b 1,Z2 .enable],[(b,true),(b,true)]):=by kernel_rfl
def Qr6:Gr:=(Qc prog 202 m (Qe2 b m fn T todo ds kd ro cs v) (Zc 2) (Qq 0)).get (Qe2 b m fn T todo ds kd ro cs v)
theorem Q6z:Qm prog 202 m 5 (Qr6 b m fn T todo ds kd ro cs v)=some []:=by kernel_rfl
def Qj5:Gr:=Qi prog 202 m 5 (Qr6 b m fn T todo ds kd ro cs v)
theorem Q60:(Qc prog 202 m (Qj5 b m fn T todo ds kd ro cs v) undef undef).info=some (undef,undef,#[Z2 .enable],[]):=by kernel_rfl
def Qr7:Gr:=(Qc prog 202 m (Qj5 b m fn T todo ds kd ro cs v) undef undef).get (Qj5 b m fn T todo ds kd ro cs v)
theorem Q61:Qm prog 202 m 6 (Qr7 b m fn T todo ds kd ro cs v)=some []:=by kernel_rfl
theorem Q62:Qi prog 202 m 6 (Qr7 b m fn T todo ds kd ro cs v)=Rf { fn:=fn,tmps:=T,todo:=todo,defers:=ds,mode:=.returning,kind:=kd,roundOf:=ro } cs:=by kernel_rfl
end
end Go.Proofs
namespace Go.Proofs
open Go.TM
open Go.Conc (QuitsD)
section
variable (b:Nat) (m:Bool) (c:Frame) (cs:List Frame)
def Qtm (b:Nat) (_:Bool) (c:Frame) (cs:List Frame):Gr:=Rf (Frame.enter prog 150 #[.pointer (some ⟨b,0,none⟩)] .normal) (c::cs)
theorem Zai:Qm prog 209 m 3 (Qtm b m c cs)=some []:=by kernel_rfl
def Qk0:Gr:=Qi prog 209 m 3 (Qtm b m c cs)
theorem Zaj:(Qc prog 209 m (Qk0 b m c cs) undef undef).info=some (undef,undef,#[Z2 .disable],[]):=by kernel_rfl
def Qtn:Gr:=(Qc prog 209 m (Qk0 b m c cs) undef undef).get (Qk0 b m c cs)
theorem Zak:Qm prog 209 m 19 (Qtn b m c cs)=some []:=by kernel_rfl
def Qk1:Gr:=Qi prog 209 m 19 (Qtn b m c cs)
def Zpe (g:Gr) (t:Array Value):Gr:={ g with callers:=match g.callers with | w::r=>{ w with tmps:=t }::r | []=>[] }
def Qjh (g:Gr):Array Value:=match g.callers with | w::_=>w.tmps | []=>#[]
def Zo0 (b:Nat) (x:Nat->Value):Array Value:=#[.pointer (some ⟨b,0,none⟩),x 1,x 2,x 3,x 4,x 5,x 6,x 7,x 8,x 9,x 10,x 11,x 12,x 13,x 14,x 15,x 16,x 17,x 18,x 19,x 20,x 21,x 22,x 23,x 24,x 25,x 26,x 27,x 28,x 29,x 30,x 31,x 32,x 33,x 34,x 35,x 36,x 37,x 38,x 39,x 40,x 41,x 42,x 43,x 44,x 45,x 46,x 47,x 48,x 49,x 50,x 51,x 52,x 53,x 54,x 55,x 56,x 57,x 58,x 59,x 60,x 61,x 62,x 63,x 64,x 65,x 66,x 67,x 68,x 69,x 70,x 71,x 72,x 73,x 74,x 75,x 76,x 77,x 78,x 79,x 80,x 81,x 82,x 83]
end
section
variable (b:Nat) (m:Bool) (c:Frame) (cs:List Frame) (x:Nat->Value)
def Zh (b:Nat) (m:Bool) (c:Frame) (cs:List Frame) (x:Nat->Value):Gr:=Zpe (Qk1 b m c cs) (Zo0 b x)
theorem Q27:Qk1 b m c cs=Zh b m c cs (λ i=>(Qjh (Qk1 b m c cs)).getD i undef):=by kernel_rfl
theorem Zft:(Qc prog 209 m (Zh b m c cs x) (Q1 0 0) (Qq 0)).info=some (Q1 0 0,Qq 0,#[Jg b 0],[(b,true)]):=by kernel_rfl
def Qtp:Gr:=(Qc prog 209 m (Zh b m c cs x) (Q1 0 0) (Qq 0)).get (Zh b m c cs x)
theorem Zao:Qm prog 209 m 31 (Qtp b m c cs x)=some []:=by kernel_rfl
def Qk2:Gr:=Qi prog 209 m 31 (Qtp b m c cs x)
theorem Zap:(Qc prog 209 m (Qk2 b m c cs x) undef undef).info=some (undef,undef,#[Z2 .enable],[]):=by kernel_rfl
def Qtq:Gr:=(Qc prog 209 m (Qk2 b m c cs x) undef undef).get (Qk2 b m c cs x)
theorem Zaq:Qm prog 209 m 4 (Qtq b m c cs x)=some [(b,false),(b,false)]:=by kernel_rfl
def Qk3:Gr:=Qi prog 209 m 4 (Qtq b m c cs x)
theorem Zar:(Qc prog 209 m (Qk3 b m c cs x) undef undef).info=some (undef,undef,#[Z2 (.acquire ⟨b,0,none⟩)],[]):=by kernel_rfl
def Qtr:Gr:=(Qc prog 209 m (Qk3 b m c cs x) undef undef).get (Qk3 b m c cs x)
theorem Zas:Qm prog 209 m 20 (Qtr b m c cs x)=some []:=by kernel_rfl
theorem Zat:Qi prog 209 m 20 (Qtr b m c cs x)=Rf (c.finish (.tuple #[])) cs:=by kernel_rfl
end
end Go.Proofs
end
