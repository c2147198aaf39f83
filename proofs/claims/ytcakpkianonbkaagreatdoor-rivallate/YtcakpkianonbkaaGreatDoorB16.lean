/- Lemmas. No conditions. -/
import Derived.Test.YtcakpkianonbkaaGreatDoorProg
import Derived.Test.YtcakpkianonbkaaGreatDoorB14
set_option linter.all false
open Go.Proofs.Tryz (prog)
set_option maxRecDepth 100000
noncomputable section
namespace Go.Proofs
open Go.TM
section
variable(b:Nat)(m:Bool)(c:Frame)(cs:List Frame)
def Zf0(g:Goroutine)(t:Array Value):Goroutine:={ g with frame:={ g.frame with tmps:=t } }
def tmF(g:Goroutine)(i:Nat):Value:=g.frame.tmps.getD i undef
def Zm9:Value->Bool
 |.bool b=>b
 |_=>false
def intOf:Value->Int
 |.int _ n=>n
 |_=>0
noncomputable def Qsz(b:Nat)(_:Bool)(c:Frame)(cs:List Frame):Goroutine:=Rf (Frame.enter prog 92 #[.pointer (some ⟨b,0,none⟩)] .normal) (c::cs)
def Q74:Qm prog 168 m 7 (Qsz b m c cs)=some []:=by kernel_rfl
def Qky:Goroutine:=Qj prog 168 m 7 (Qsz b m c cs)
def Q75:(Qc prog 168 m (Qky b m c cs) undef undef).info=some (undef,undef,#[Z5 .disable],[]):=by kernel_rfl
def Qs0:Goroutine:=(Qc prog 168 m (Qky b m c cs) undef undef).get (Qky b m c cs)
def Q76:Qm prog 168 m 7 (Qs0 b m c cs)=some []:=by kernel_rfl
def Qb9:Goroutine:=Qj prog 168 m 7 (Qs0 b m c cs)
def Qj6:(Qc prog 168 m (Qb9 b m c cs) (Ze 0) (Qp 0)).info=some (Ze 1,Qp 0,#[Jg b 0,evW b 0],[(b,true),(b,true),(b,false),(b,false)]):=by kernel_rfl
def Qs1:Goroutine:=(Qc prog 168 m (Qb9 b m c cs) (Ze 0) (Qp 0)).get (Qb9 b m c cs)
def Q77:(Qc prog 168 m (Qb9 b m c cs) (Ze 1) (Qp 0)).info=some (Ze 1,Qp 0,#[Jg b 0],[(b,true),(b,false),(b,false)]):=by kernel_rfl
def Qhx:Goroutine:=(Qc prog 168 m (Qb9 b m c cs) (Ze 1) (Qp 0)).get (Qb9 b m c cs)
def Q78:Qm prog 168 m 6 (Qs1 b m c cs)=some []:=by kernel_rfl
def Qkz:Goroutine:=Qj prog 168 m 6 (Qs1 b m c cs)
def Q79:(Qc prog 168 m (Qkz b m c cs) undef undef).info=some (undef,undef,#[Z5 .enable],[]):=by kernel_rfl
def Qs2:Goroutine:=(Qc prog 168 m (Qkz b m c cs) undef undef).get (Qkz b m c cs)
def Q8a:Qm prog 168 m 4 (Qs2 b m c cs)=some [(b,false),(b,false)]:=by kernel_rfl
def Qk0:Goroutine:=Qj prog 168 m 4 (Qs2 b m c cs)
def Q8b:(Qc prog 168 m (Qk0 b m c cs) undef undef).info=some (undef,undef,#[Z5 (.acquire ⟨b,0,none⟩)],[]):=by kernel_rfl
def Qs3:Goroutine:=(Qc prog 168 m (Qk0 b m c cs) undef undef).get (Qk0 b m c cs)
def Q8c:Qm prog 168 m 6 (Qs3 b m c cs)=some []:=by kernel_rfl
def Q8d:Qj prog 168 m 6 (Qs3 b m c cs)=Rf (c.finish (.tuple #[])) cs:=by kernel_rfl
def Q8x:Qm prog 168 m 6 (Qhx b m c cs)=some []:=by kernel_rfl
def Qtb(b:Nat)(m:Bool)(c:Frame)(cs:List Frame):Frame:=(Qj prog 168 m 6 (Qhx b m c cs)).callers.headD default
def Qtc(b:Nat)(m:Bool)(c:Frame)(cs:List Frame):List Frame:=(Qj prog 168 m 6 (Qhx b m c cs)).callers.tail
def Q8y:Qj prog 168 m 6 (Qhx b m c cs)=Rf (Frame.enter prog 140 #[.pointer (some ⟨b,0,none⟩)] .normal) (Qtb b m c cs::Qtc b m c cs):=by kernel_rfl
def Q8z:Qm prog 168 m 6 (Rf ((Qtb b m c cs).finish (.tuple #[])) (Qtc b m c cs))=some []:=by kernel_rfl
def Q80:Qj prog 168 m 6 (Rf ((Qtb b m c cs).finish (.tuple #[])) (Qtc b m c cs))=Rf (c.finish (.tuple #[])) cs:=by kernel_rfl
end
section
variable(b:Nat)(m:Bool)(c:Frame)(cs:List Frame)
noncomputable def Q0l(b:Nat)(_:Bool)(c:Frame)(cs:List Frame):Goroutine:=Rf (Frame.enter prog 140 #[.pointer (some ⟨b,0,none⟩)] .normal) (c::cs)
def Zhp:Qm prog 168 m 21 (Q0l b m c cs)=some []:=by kernel_rfl
def Qeh:Goroutine:=Qj prog 168 m 21 (Q0l b m c cs)
def Qyo:(Qc prog 168 m (Qeh b m c cs) (Ze 1) (Qp 0)).info=some (Ze 1,Qp 0,#[],[(b,true)]):=by kernel_rfl
def Qfi:Goroutine:=(Qc prog 168 m (Qeh b m c cs) (Ze 1) (Qp 0)).get (Qeh b m c cs)
def Q8v:Qm prog 168 m 5 (Qfi b m c cs)=some []:=by kernel_rfl
def Zhq:(Qc prog 168 m (Qeh b m c cs) (Ze 0) (Qp 0)).info=some (Ze 0,Qp 0,#[],[(b,true)]):=by kernel_rfl
def Qit:Goroutine:=(Qc prog 168 m (Qeh b m c cs) (Ze 0) (Qp 0)).get (Qeh b m c cs)
def Q8t:Qm prog 168 m 5 (Qit b m c cs)=some []:=by kernel_rfl
def tmH(b:Nat)(ws st aw it ol:Value)(x:Nat->Value):Array Value:=#[.pointer (some ⟨b,0,none⟩),x 1,ws,st,aw,it,ol,x 7,x 8,x 9,x 10,x 11,x 12,x 13,x 14,x 15,x 16,x 17,x 18,x 19,x 20,x 21,x 22,x 23,x 24,x 25,x 26,x 27,x 28,x 29,x 30,x 31,x 32,x 33,x 34,x 35,x 36,x 37,x 38,x 39,x 40,x 41,x 42,x 43,x 44,x 45,x 46,x 47,x 48,x 49,x 50,x 51,x 52,x 53,x 54,x 55,x 56,x 57,x 58,x 59,x 60,x 61,x 62,x 63,x 64,x 65,x 66,x 67,x 68,x 69,x 70,x 71,x 72,x 73,x 74,x 75,x 76,x 77,x 78,x 79,x 80,x 81,x 82,x 83,x 84,x 85,x 86,x 87,x 88,x 89,x 90,x 91,x 92,x 93,x 94,x 95,x 96,x 97,x 98,x 99,x 100,x 101,x 102,x 103,x 104,x 105,x 106,x 107,x 108,x 109,x 110,x 111,x 112,x 113,x 114,x 115,x 116,x 117,x 118,x 119,x 120,x 121,x 122,x 123,x 124,x 125,x 126,x 127,x 128,x 129,x 130,x 131,x 132,x 133,x 134,x 135,x 136,x 137,x 138]
def Jf(b:Nat)(m:Bool)(c:Frame)(cs:List Frame)(ws st aw it ol:Value)(x:Nat->Value):Goroutine:=Zf0 (Qj prog 168 m 5 (Qfi b m c cs)) (tmH b ws st aw it ol x)
def Q8w:Qj prog 168 m 5 (Qfi b m c cs)=Jf b m c cs (.int .i64 0) (.bool false) (.bool false) (.int .i64 0) (Ze 1) (tmF (Qj prog 168 m 5 (Qfi b m c cs))):=by kernel_rfl
def Q8u:Qj prog 168 m 5 (Qit b m c cs)=Jf b m c cs (.int .i64 0) (.bool false) (.bool false) (.int .i64 0) (Ze 0) (tmF (Qj prog 168 m 5 (Qit b m c cs))):=by kernel_rfl
end
section
variable(b:Nat)(m:Bool)(c:Frame)(cs:List Frame)(x:Nat->Value)
end
section
variable(b:Nat)(m:Bool)(c:Frame)(cs:List Frame)(x:Nat->Value)(ws it:Value)
def Zm4:Qm prog 168 m 67 (Jf b m c cs ws (.bool false) (.bool false) it (Ze 0) x)=some []:=by kernel_rfl
def Ql4:Goroutine:=Qj prog 168 m 67 (Jf b m c cs ws (.bool false) (.bool false) it (Ze 0) x)
def Qy0:(Qc prog 168 m (Ql4 b m c cs x ws it) (Ze 0) (Qp 0)).info=some (Ze 1,Qp 0,#[Jg b 0,evW b 0],[(b,true),(b,true),(b,false),(b,false)]):=by kernel_rfl
def Ql5:Goroutine:=(Qc prog 168 m (Ql4 b m c cs x ws it) (Ze 0) (Qp 0)).get (Ql4 b m c cs x ws it)
def Zis:Qm prog 168 m 14 (Ql5 b m c cs x ws it)=some []:=by kernel_rfl
end
section
variable(b:Nat)(m:Bool)(c:Frame)(cs:List Frame)(x:Nat->Value)
def tmE(b:Nat)(x:Nat->Value):Array Value:=#[.pointer (some ⟨b,0,none⟩),x 1,x 2,x 3,x 4,x 5,x 6,x 7,x 8,x 9,x 10,x 11,x 12,x 13,x 14,x 15,x 16,x 17,x 18,x 19,x 20,x 21,x 22,x 23,x 24,x 25,x 26,x 27,x 28,x 29,x 30,x 31,x 32,x 33,x 34,x 35,x 36,x 37,x 38,x 39,x 40,x 41,x 42,x 43,x 44,x 45,x 46,x 47,x 48,x 49,x 50,x 51,x 52,x 53,x 54,x 55,x 56,x 57,x 58,x 59,x 60,x 61,x 62,x 63,x 64,x 65,x 66,x 67,x 68,x 69,x 70,x 71,x 72,x 73,x 74,x 75,x 76,x 77,x 78,x 79,x 80,x 81,x 82,x 83,x 84,x 85,x 86,x 87,x 88,x 89,x 90,x 91,x 92,x 93,x 94,x 95,x 96,x 97,x 98,x 99,x 100,x 101,x 102,x 103,x 104,x 105,x 106,x 107,x 108,x 109,x 110,x 111,x 112,x 113,x 114,x 115,x 116,x 117,x 118,x 119,x 120,x 121,x 122,x 123,x 124,x 125,x 126,x 127,x 128,x 129,x 130,x 131,x 132,x 133,x 134,x 135,x 136,x 137,x 138]
def Qgb(b:Nat)(m:Bool)(c:Frame)(cs:List Frame)(x:Nat->Value):Goroutine:=Zf0 (Qj prog 168 m 14 (Ql5 b m c cs (λ _=>undef) (.int .i64 0) (.int .i64 0))) (tmE b x)
def Zit(ws it:Value):Qj prog 168 m 14 (Ql5 b m c cs x ws it)=Qgb b m c cs (tmF (Qj prog 168 m 14 (Ql5 b m c cs x ws it))):=by kernel_rfl
def Zg9:(Qc prog 168 m (Qgb b m c cs x) undef undef).info=some (undef,undef,#[Z5 .enable],[]):=by kernel_rfl
def Qr6:Goroutine:=(Qc prog 168 m (Qgb b m c cs x) undef undef).get (Qgb b m c cs x)
def Q7t:Qm prog 168 m 4 (Qr6 b m c cs x)=some [(b,false),(b,false)]:=by kernel_rfl
def Qkr:Goroutine:=Qj prog 168 m 4 (Qr6 b m c cs x)
def Q7u:(Qc prog 168 m (Qkr b m c cs x) undef undef).info=some (undef,undef,#[Z5 (.acquire ⟨b,0,none⟩)],[]):=by kernel_rfl
def Qr7:Goroutine:=(Qc prog 168 m (Qkr b m c cs x) undef undef).get (Qkr b m c cs x)
def Q7v:Qm prog 168 m 3 (Qr7 b m c cs x)=some []:=by kernel_rfl
def Q7w:Qj prog 168 m 3 (Qr7 b m c cs x)=Rf (c.finish (.tuple #[])) cs:=by kernel_rfl
end
section
variable(b:Nat)(m:Bool)(fn:FuncId)(T:Array Value)(todo:List Item)(ds:List Deferred)(kd:CallKind)(ro:Option Nat)(cs:List Frame)
noncomputable def Q0p(b:Nat)(_:Bool)(fn:FuncId)(T:Array Value)(todo:List Item)(ds:List Deferred)(kd:CallKind)(ro:Option Nat)(cs:List Frame):Goroutine:=Rf (Frame.enter prog 93 #[.pointer (some ⟨b,0,none⟩)] .deferred) ({ fn:=fn,tmps:=T,todo:=todo,defers:=ds,mode:=.returning,kind:=kd,roundOf:=ro }::cs)
def Zhw:Qm prog 168 m 12 (Q0p b m fn T todo ds kd ro cs)=some []:=by kernel_rfl
def Qey:Goroutine:=Qj prog 168 m 12 (Q0p b m fn T todo ds kd ro cs)
def Qyu:(Qc prog 168 m (Qey b m fn T todo ds kd ro cs) (Ze 1) (Qp 0)).info=some (Ze 1,Qp 0,#[],[(b,true)]):=by kernel_rfl
def Qix:Goroutine:=(Qc prog 168 m (Qey b m fn T todo ds kd ro cs) (Ze 1) (Qp 0)).get (Qey b m fn T todo ds kd ro cs)
def Zh0:(Qc prog 168 m (Qey b m fn T todo ds kd ro cs) (Ze 9) (Qp 0)).info=some (Ze 9,Qp 0,#[],[(b,true)]):=by kernel_rfl
def Qyv:Goroutine:=(Qc prog 168 m (Qey b m fn T todo ds kd ro cs) (Ze 9) (Qp 0)).get (Qey b m fn T todo ds kd ro cs)
def Qk6(b:Nat)(m:Bool)(fn:FuncId)(T:Array Value)(todo:List Item)(ds:List Deferred)(kd:CallKind)(ro:Option Nat)(cs:List Frame)(v:Value):Goroutine:=Zf0 (Qix b m fn T todo ds kd ro cs) ((Qix b m fn T todo ds kd ro cs).frame.tmps.setIfInBounds 6 v)
def Q9g:Qix b m fn T todo ds kd ro cs=Qk6 b m fn T todo ds kd ro cs (Ze 1):=by kernel_rfl
def Q9h:Qyv b m fn T todo ds kd ro cs=Qk6 b m fn T todo ds kd ro cs (Ze 9):=by kernel_rfl
end
section
variable(b:Nat)(m:Bool)(fn:FuncId)(T:Array Value)(todo:List Item)(ds:List Deferred)(kd:CallKind)(ro:Option Nat)(cs:List Frame)(v:Value)
def Zh8:Qm prog 168 m 5 (Qk6 b m fn T todo ds kd ro cs v)=some [(b,false),(b,false)]:=by kernel_rfl
def Qq9:Goroutine:=Qj prog 168 m 5 (Qk6 b m fn T todo ds kd ro cs v)
def Zh1:(Qc prog 168 m (Qq9 b m fn T todo ds kd ro cs v) undef undef).info=some (undef,undef,#[Z5 (.releaseMerge ⟨b,0,none⟩)],[]):=by kernel_rfl
def Q0q:Goroutine:=(Qc prog 168 m (Qq9 b m fn T todo ds kd ro cs v) undef undef).get (Qq9 b m fn T todo ds kd ro cs v)
def Zh2:Qm prog 168 m 2 (Q0q b m fn T todo ds kd ro cs v)=some []:=by kernel_rfl
def Qra:Goroutine:=Qj prog 168 m 2 (Q0q b m fn T todo ds kd ro cs v)
def Zh3:(Qc prog 168 m (Qra b m fn T todo ds kd ro cs v) undef undef).info=some (undef,undef,#[Z5 .disable],[]):=by kernel_rfl
def Q0r:Goroutine:=(Qc prog 168 m (Qra b m fn T todo ds kd ro cs v) undef undef).get (Qra b m fn T todo ds kd ro cs v)
def Zh4:Qm prog 168 m 6 (Q0r b m fn T todo ds kd ro cs v)=some []:=by kernel_rfl
def Qez:Goroutine:=Qj prog 168 m 6 (Q0r b m fn T todo ds kd ro cs v)
def Qyw:(Qc prog 168 m (Qez b m fn T todo ds kd ro cs v) (Ze 1) (Qp 0)).info=some (Ze 0,Qp 0,#[Jg b 0,evW b 0],[(b,true),(b,true)]):=by kernel_rfl
def Q0s:Goroutine:=(Qc prog 168 m (Qez b m fn T todo ds kd ro cs v) (Ze 1) (Qp 0)).get (Qez b m fn T todo ds kd ro cs v)
def Zh6:Qm prog 168 m 11 (Q0s b m fn T todo ds kd ro cs v)=some []:=by kernel_rfl
def Qk4:Goroutine:=Qj prog 168 m 11 (Q0s b m fn T todo ds kd ro cs v)
def Q9i:(Qc prog 168 m (Qk4 b m fn T todo ds kd ro cs v) undef undef).info=some (undef,undef,#[Z5 .enable],[]):=by kernel_rfl
def Qtf:Goroutine:=(Qc prog 168 m (Qk4 b m fn T todo ds kd ro cs v) undef undef).get (Qk4 b m fn T todo ds kd ro cs v)
def Q9j:Qm prog 168 m 6 (Qtf b m fn T todo ds kd ro cs v)=some []:=by kernel_rfl
def Q9k:Qj prog 168 m 6 (Qtf b m fn T todo ds kd ro cs v)=Rf { fn:=fn,tmps:=T,todo:=todo,defers:=ds,mode:=.returning,kind:=kd,roundOf:=ro } cs:=by kernel_rfl
def Zh5:(Qc prog 168 m (Qez b m fn T todo ds kd ro cs v) (Ze 9) (Qp 0)).info=some (Ze 8,Qp 0,#[Jg b 0,evW b 0],[(b,true),(b,true)]):=by kernel_rfl
def Q0t:Goroutine:=(Qc prog 168 m (Qez b m fn T todo ds kd ro cs v) (Ze 9) (Qp 0)).get (Qez b m fn T todo ds kd ro cs v)
def Zh7:Qm prog 168 m 67 (Q0t b m fn T todo ds kd ro cs v)=some []:=by kernel_rfl
def Qh1:Goroutine:=Qj prog 168 m 67 (Q0t b m fn T todo ds kd ro cs v)
def Qtg:(Qc prog 168 m (Qh1 b m fn T todo ds kd ro cs v) (Ze 8) (Qp 0)).info=some (Ze 2,Qp 0,#[Jg b 0,evW b 0],[(b,true),(b,true),(b,false),(b,false)]):=by kernel_rfl
def Qth:Goroutine:=(Qc prog 168 m (Qh1 b m fn T todo ds kd ro cs v) (Ze 8) (Qp 0)).get (Qh1 b m fn T todo ds kd ro cs v)
def Q9l:Qm prog 168 m 7 (Qth b m fn T todo ds kd ro cs v)=some []:=by kernel_rfl
def Qfq:Goroutine:=Qj prog 168 m 7 (Qth b m fn T todo ds kd ro cs v)
def Q9m:mayWake prog (Qfq b m fn T todo ds kd ro cs v)=true:=by kernel_rfl
def Qti:(Qc prog 168 m (Qfq b m fn T todo ds kd ro cs v) (Ze 2) (Qp 0)).info=some (Ze 2,Qp 1,#[Z5 .disable,Jg b 1,evW b 1,Z5 .enable],[(b,true),(b,true)]):=by kernel_rfl
def Qtj:Goroutine:=(Qc prog 168 m (Qfq b m fn T todo ds kd ro cs v) (Ze 2) (Qp 0)).get (Qfq b m fn T todo ds kd ro cs v)
def Q9n:Qm prog 168 m 5 (Qtj b m fn T todo ds kd ro cs v)=some []:=by kernel_rfl
def Qk5:Goroutine:=Qj prog 168 m 5 (Qtj b m fn T todo ds kd ro cs v)
def Q9o:(Qc prog 168 m (Qk5 b m fn T todo ds kd ro cs v) undef undef).info=some (undef,undef,#[Z5 .enable],[]):=by kernel_rfl
def Qtk:Goroutine:=(Qc prog 168 m (Qk5 b m fn T todo ds kd ro cs v) undef undef).get (Qk5 b m fn T todo ds kd ro cs v)
def Q9p:Qm prog 168 m 6 (Qtk b m fn T todo ds kd ro cs v)=some []:=by kernel_rfl
def Q9q:Qj prog 168 m 6 (Qtk b m fn T todo ds kd ro cs v)=Rf { fn:=fn,tmps:=T,todo:=todo,defers:=ds,mode:=.returning,kind:=kd,roundOf:=ro } cs:=by kernel_rfl
end
end Go.Proofs
namespace Go.Proofs
open Go.TM
open Go.Conc (QuitsD)
section
variable(b:Nat)(m:Bool)(c:Frame)(cs:List Frame)
noncomputable def Quz(b:Nat)(_:Bool)(c:Frame)(cs:List Frame):Goroutine:=Rf (Frame.enter prog 97 #[.pointer (some ⟨b,0,none⟩)] .normal) (c::cs)
def Zc6:Qm prog 175 m 3 (Quz b m c cs)=some []:=by kernel_rfl
def Ql0:Goroutine:=Qj prog 175 m 3 (Quz b m c cs)
def Zc7:(Qc prog 175 m (Ql0 b m c cs) undef undef).info=some (undef,undef,#[Z5 .disable],[]):=by kernel_rfl
def Qu0:Goroutine:=(Qc prog 175 m (Ql0 b m c cs) undef undef).get (Ql0 b m c cs)
def Zc8:Qm prog 175 m 19 (Qu0 b m c cs)=some []:=by kernel_rfl
def Ql1:Goroutine:=Qj prog 175 m 19 (Qu0 b m c cs)
def Zt4(g:Goroutine)(t:Array Value):Goroutine:={ g with callers:=match g.callers with|w::r=>{ w with tmps:=t }::r|[]=>[] }
def Qkg(g:Goroutine):Array Value:=match g.callers with|w::_=>w.tmps|[]=>#[]
def Zto(b:Nat)(x:Nat->Value):Array Value:=#[.pointer (some ⟨b,0,none⟩),x 1,x 2,x 3,x 4,x 5,x 6,x 7,x 8,x 9,x 10,x 11,x 12,x 13,x 14,x 15,x 16,x 17,x 18,x 19,x 20,x 21,x 22,x 23,x 24,x 25,x 26,x 27,x 28,x 29,x 30,x 31,x 32,x 33,x 34,x 35,x 36,x 37,x 38,x 39,x 40,x 41,x 42,x 43,x 44,x 45,x 46,x 47,x 48,x 49,x 50,x 51,x 52,x 53,x 54,x 55,x 56,x 57,x 58,x 59,x 60,x 61,x 62,x 63,x 64,x 65,x 66,x 67,x 68,x 69,x 70,x 71,x 72,x 73,x 74,x 75,x 76,x 77,x 78,x 79,x 80,x 81,x 82,x 83]
end
section
variable(b:Nat)(m:Bool)(c:Frame)(cs:List Frame)(x:Nat->Value)
def Zo(b:Nat)(m:Bool)(c:Frame)(cs:List Frame)(x:Nat->Value):Goroutine:=Zt4 (Ql1 b m c cs) (Zto b x)
def Q5c:Ql1 b m c cs=Zo b m c cs (λ i=>(Qkg (Ql1 b m c cs)).getD i undef):=by kernel_rfl
def Zil:(Qc prog 175 m (Zo b m c cs x) (Q1 0 0) (Qp 0)).info=some (Q1 0 0,Qp 0,#[Jg b 0],[(b,true)]):=by kernel_rfl
def Qu3:Goroutine:=(Qc prog 175 m (Zo b m c cs x) (Q1 0 0) (Qp 0)).get (Zo b m c cs x)
def Zdc:Qm prog 175 m 31 (Qu3 b m c cs x)=some []:=by kernel_rfl
def Ql2:Goroutine:=Qj prog 175 m 31 (Qu3 b m c cs x)
def Zdd:(Qc prog 175 m (Ql2 b m c cs x) undef undef).info=some (undef,undef,#[Z5 .enable],[]):=by kernel_rfl
def Qu4:Goroutine:=(Qc prog 175 m (Ql2 b m c cs x) undef undef).get (Ql2 b m c cs x)
def Zde:Qm prog 175 m 4 (Qu4 b m c cs x)=some [(b,false),(b,false)]:=by kernel_rfl
def Ql3:Goroutine:=Qj prog 175 m 4 (Qu4 b m c cs x)
def Zdf:(Qc prog 175 m (Ql3 b m c cs x) undef undef).info=some (undef,undef,#[Z5 (.acquire ⟨b,0,none⟩)],[]):=by kernel_rfl
def Qu5:Goroutine:=(Qc prog 175 m (Ql3 b m c cs x) undef undef).get (Ql3 b m c cs x)
def Zdg:Qm prog 175 m 20 (Qu5 b m c cs x)=some []:=by kernel_rfl
def Zdh:Qj prog 175 m 20 (Qu5 b m c cs x)=Rf (c.finish (.tuple #[])) cs:=by kernel_rfl
end
end Go.Proofs
end
