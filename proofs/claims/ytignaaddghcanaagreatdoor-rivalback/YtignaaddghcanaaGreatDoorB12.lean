/- Lemmas. No conditions. -/
import Derived.Test.YtignaaddghcanaaGreatDoorProg
import Derived.Test.YtignaaddghcanaaGreatDoorB10
set_option linter.all false
set_option maxRecDepth 100000
open Go.Proofs.Tryz (prog)
noncomputable section
namespace Go.TM
open Go.Proofs
section
variable(b:Nat)(m:Bool)(c:Frame)(cs:List Frame)
def Yi(g:Gr)(t:Array Value):Gr:={ g with frame:={ g.frame with tmps:=t } }
def ZL(g:Gr)(i:Nat):Value:=g.frame.tmps.getD i undef
def Lh:Value->Bool
 |.bool b=>b
 |_=>false
def Xf:Value->Int
 |.int _ n=>n
 |_=>0
noncomputable def T8(b:Nat)(_:Bool)(c:Frame)(cs:List Frame):Gr:=Rf (Frame.enter prog 93 #[.pb b] .normal) (c::cs)
def NE:Qm prog 166 m 7 (T8 b m c cs)=some []:=K1
def K8:Gr:=Qi prog 166 m 7 (T8 b m c cs)
def NF:(Qc prog 166 m (K8 b m c cs) undef undef).info=some (undef,undef,#[Z0 .disable],[]):=K1
def T9:Gr:=(Qc prog 166 m (K8 b m c cs) undef undef).get (K8 b m c cs)
def NG:Qm prog 166 m 7 (T9 b m c cs)=some []:=K1
def H3:Gr:=Qi prog 166 m 7 (T9 b m c cs)
def O4:(Qc prog 166 m (H3 b m c cs) (Zb 0) (Qp 0)).info=some (Zb 1,Qp 0,#[Jd b 0,W9 b 0],[(b,true),(b,true),(b,false),(b,false)]):=K1
def Ta:Gr:=(Qc prog 166 m (H3 b m c cs) (Zb 0) (Qp 0)).get (H3 b m c cs)
def NH:(Qc prog 166 m (H3 b m c cs) (Zb 1) (Qp 0)).info=some (Zb 1,Qp 0,#[Jd b 0],[(b,true),(b,false),(b,false)]):=K1
def Pr:Gr:=(Qc prog 166 m (H3 b m c cs) (Zb 1) (Qp 0)).get (H3 b m c cs)
def NI:Qm prog 166 m 6 (Ta b m c cs)=some []:=K1
def K9:Gr:=Qi prog 166 m 6 (Ta b m c cs)
def NJ:(Qc prog 166 m (K9 b m c cs) undef undef).info=some (undef,undef,#[Z0 .enable],[]):=K1
def Tb:Gr:=(Qc prog 166 m (K9 b m c cs) undef undef).get (K9 b m c cs)
def NK:Qm prog 166 m 4 (Tb b m c cs)=some [(b,false),(b,false)]:=K1
def Ka:Gr:=Qi prog 166 m 4 (Tb b m c cs)
def NL:(Qc prog 166 m (Ka b m c cs) undef undef).info=some (undef,undef,#[Z0 (.acquire ⟨b,0,none⟩)],[]):=K1
def Tc:Gr:=(Qc prog 166 m (Ka b m c cs) undef undef).get (Ka b m c cs)
def NM:Qm prog 166 m 6 (Tc b m c cs)=some []:=K1
def NN:Qi prog 166 m 6 (Tc b m c cs)=Rf (c.finish (.tuple #[])) cs:=K1
def R5:Qm prog 166 m 6 (Pr b m c cs)=some []:=K1
def Tf(b:Nat)(m:Bool)(c:Frame)(cs:List Frame):Frame:=(Qi prog 166 m 6 (Pr b m c cs)).callers.headD default
def Tg(b:Nat)(m:Bool)(c:Frame)(cs:List Frame):List Frame:=(Qi prog 166 m 6 (Pr b m c cs)).callers.tail
def R6:Qi prog 166 m 6 (Pr b m c cs)=Rf (Frame.enter prog 151 #[.pb b] .normal) (Tf b m c cs::Tg b m c cs):=K1
def R7:Qm prog 166 m 6 (Rf ((Tf b m c cs).finish (.tuple #[])) (Tg b m c cs))=some []:=K1
def R8:Qi prog 166 m 6 (Rf ((Tf b m c cs).finish (.tuple #[])) (Tg b m c cs))=Rf (c.finish (.tuple #[])) cs:=K1
noncomputable def Sq(b:Nat)(_:Bool)(c:Frame)(cs:List Frame):Gr:=Rf (Frame.enter prog 151 #[.pb b] .normal) (c::cs)
def wz:Qm prog 166 m 21 (Sq b m c cs)=some []:=K1
def Hg:Gr:=Qi prog 166 m 21 (Sq b m c cs)
def FY:(Qc prog 166 m (Hg b m c cs) (Zb 1) (Qp 0)).info=some (Zb 1,Qp 0,#[],[(b,true)]):=K1
def Pc:Gr:=(Qc prog 166 m (Hg b m c cs) (Zb 1) (Qp 0)).get (Hg b m c cs)
def R3:Qm prog 166 m 5 (Pc b m c cs)=some []:=K1
def wA:(Qc prog 166 m (Hg b m c cs) (Zb 0) (Qp 0)).info=some (Zb 0,Qp 0,#[],[(b,true)]):=K1
def VE:Gr:=(Qc prog 166 m (Hg b m c cs) (Zb 0) (Qp 0)).get (Hg b m c cs)
def R1:Qm prog 166 m 5 (VE b m c cs)=some []:=K1
def yL(b:Nat)(ws st f it h:Value)(x:Nat->Value):Array Value:=#[.pb b,x 1,ws,st,f,it,h,x 7,x 8,x 9,x 10,x 11,x 12,x 13,x 14,x 15,x 16,x 17,x 18,x 19,x 20,x 21,x 22,x 23,x 24,x 25,x 26,x 27,x 28,x 29,x 30,x 31,x 32,x 33,x 34,x 35,x 36,x 37,x 38,x 39,x 40,x 41,x 42,x 43,x 44,x 45,x 46,x 47,x 48,x 49,x 50,x 51,x 52,x 53,x 54,x 55,x 56,x 57,x 58,x 59,x 60,x 61,x 62,x 63,x 64,x 65,x 66,x 67,x 68,x 69,x 70,x 71,x 72,x 73,x 74,x 75,x 76,x 77,x 78,x 79,x 80,x 81,x 82,x 83,x 84,x 85,x 86,x 87,x 88,x 89,x 90,x 91,x 92,x 93,x 94,x 95,x 96,x 97,x 98,x 99,x 100,x 101,x 102,x 103,x 104,x 105,x 106,x 107,x 108,x 109,x 110,x 111,x 112,x 113,x 114,x 115,x 116,x 117,x 118,x 119,x 120,x 121,x 122,x 123,x 124,x 125,x 126,x 127,x 128,x 129,x 130,x 131,x 132,x 133,x 134,x 135,x 136,x 137,x 138]
def Jc(b:Nat)(m:Bool)(c:Frame)(cs:List Frame)(ws st f it h:Value)(x:Nat->Value):Gr:=Yi (Qi prog 166 m 5 (Pc b m c cs)) (yL b ws st f it h x)
def R4:Qi prog 166 m 5 (Pc b m c cs)=Jc b m c cs (.int .i64 0) (.bool false) (.bool false) (.int .i64 0) (Zb 1) (ZL (Qi prog 166 m 5 (Pc b m c cs))):=K1
def R2:Qi prog 166 m 5 (VE b m c cs)=Jc b m c cs (.int .i64 0) (.bool false) (.bool false) (.int .i64 0) (Zb 0) (ZL (Qi prog 166 m 5 (VE b m c cs))):=K1
end
section
variable(b:Nat)(m:Bool)(c:Frame)(cs:List Frame)(x:Nat->Value)(ws it:Value)
def gS:Qm prog 166 m 67 (Jc b m c cs ws (.bool false) (.bool false) it (Zb 0) x)=some []:=K1
def PC:Gr:=Qi prog 166 m 67 (Jc b m c cs ws (.bool false) (.bool false) it (Zb 0) x)
def Ib:(Qc prog 166 m (PC b m c cs x ws it) (Zb 0) (Qp 0)).info=some (Zb 1,Qp 0,#[Jd b 0,W9 b 0],[(b,true),(b,true),(b,false),(b,false)]):=K1
def PD:Gr:=(Qc prog 166 m (PC b m c cs x ws it) (Zb 0) (Qp 0)).get (PC b m c cs x ws it)
def xr:Qm prog 166 m 14 (PD b m c cs x ws it)=some []:=K1
end
section
variable(b:Nat)(m:Bool)(c:Frame)(cs:List Frame)(x:Nat->Value)
def yK(b:Nat)(x:Nat->Value):Array Value:=#[.pb b,x 1,x 2,x 3,x 4,x 5,x 6,x 7,x 8,x 9,x 10,x 11,x 12,x 13,x 14,x 15,x 16,x 17,x 18,x 19,x 20,x 21,x 22,x 23,x 24,x 25,x 26,x 27,x 28,x 29,x 30,x 31,x 32,x 33,x 34,x 35,x 36,x 37,x 38,x 39,x 40,x 41,x 42,x 43,x 44,x 45,x 46,x 47,x 48,x 49,x 50,x 51,x 52,x 53,x 54,x 55,x 56,x 57,x 58,x 59,x 60,x 61,x 62,x 63,x 64,x 65,x 66,x 67,x 68,x 69,x 70,x 71,x 72,x 73,x 74,x 75,x 76,x 77,x 78,x 79,x 80,x 81,x 82,x 83,x 84,x 85,x 86,x 87,x 88,x 89,x 90,x 91,x 92,x 93,x 94,x 95,x 96,x 97,x 98,x 99,x 100,x 101,x 102,x 103,x 104,x 105,x 106,x 107,x 108,x 109,x 110,x 111,x 112,x 113,x 114,x 115,x 116,x 117,x 118,x 119,x 120,x 121,x 122,x 123,x 124,x 125,x 126,x 127,x 128,x 129,x 130,x 131,x 132,x 133,x 134,x 135,x 136,x 137,x 138]
def Hz(b:Nat)(m:Bool)(c:Frame)(cs:List Frame)(x:Nat->Value):Gr:=Yi (Qi prog 166 m 14 (PD b m c cs (λ _=>undef) (.int .i64 0) (.int .i64 0))) (yK b x)
def xu(ws it:Value):Qi prog 166 m 14 (PD b m c cs x ws it)=Hz b m c cs (ZL (Qi prog 166 m 14 (PD b m c cs x ws it))):=K1
def jZ:(Qc prog 166 m (Hz b m c cs x) undef undef).info=some (undef,undef,#[Z0 .enable],[]):=K1
def OO:Gr:=(Qc prog 166 m (Hz b m c cs x) undef undef).get (Hz b m c cs x)
def NA:Qm prog 166 m 4 (OO b m c cs x)=some [(b,false),(b,false)]:=K1
def K5:Gr:=Qi prog 166 m 4 (OO b m c cs x)
def NB:(Qc prog 166 m (K5 b m c cs x) undef undef).info=some (undef,undef,#[Z0 (.acquire ⟨b,0,none⟩)],[]):=K1
def OP:Gr:=(Qc prog 166 m (K5 b m c cs x) undef undef).get (K5 b m c cs x)
def NC:Qm prog 166 m 3 (OP b m c cs x)=some []:=K1
def ND:Qi prog 166 m 3 (OP b m c cs x)=Rf (c.finish (.tuple #[])) cs:=K1
end
section
variable(b:Nat)(m:Bool)(fn:FuncId)(T:Array Value)(todo:List Item)(ds:List Deferred)(kd:CallKind)(ro:Option Nat)(cs:List Frame)
noncomputable def Sr(b:Nat)(_:Bool)(fn:FuncId)(T:Array Value)(todo:List Item)(ds:List Deferred)(kd:CallKind)(ro:Option Nat)(cs:List Frame):Gr:=Rf (Frame.enter prog 94 #[.pb b] .deferred) ({ fn:=fn,tmps:=T,todo:=todo,defers:=ds,mode:=.returning,kind:=kd,roundOf:=ro }::cs)
def wG:Qm prog 166 m 12 (Sr b m fn T todo ds kd ro cs)=some []:=K1
def H8:Gr:=Qi prog 166 m 12 (Sr b m fn T todo ds kd ro cs)
def I6:(Qc prog 166 m (H8 b m fn T todo ds kd ro cs) (Zb 1) (Qp 0)).info=some (Zb 1,Qp 0,#[],[(b,true)]):=K1
def VJ:Gr:=(Qc prog 166 m (H8 b m fn T todo ds kd ro cs) (Zb 1) (Qp 0)).get (H8 b m fn T todo ds kd ro cs)
def jO:(Qc prog 166 m (H8 b m fn T todo ds kd ro cs) (Zb 9) (Qp 0)).info=some (Zb 9,Qp 0,#[],[(b,true)]):=K1
def I7:Gr:=(Qc prog 166 m (H8 b m fn T todo ds kd ro cs) (Zb 9) (Qp 0)).get (H8 b m fn T todo ds kd ro cs)
def Py(b:Nat)(m:Bool)(fn:FuncId)(T:Array Value)(todo:List Item)(ds:List Deferred)(kd:CallKind)(ro:Option Nat)(cs:List Frame)(v:Value):Gr:=Yi (VJ b m fn T todo ds kd ro cs) ((VJ b m fn T todo ds kd ro cs).frame.tmps.setIfInBounds 6 v)
def NQ:VJ b m fn T todo ds kd ro cs=Py b m fn T todo ds kd ro cs (Zb 1):=K1
def NR:I7 b m fn T todo ds kd ro cs=Py b m fn T todo ds kd ro cs (Zb 9):=K1
end
section
variable(b:Nat)(m:Bool)(fn:FuncId)(T:Array Value)(todo:List Item)(ds:List Deferred)(kd:CallKind)(ro:Option Nat)(cs:List Frame)(v:Value)
def jW:Qm prog 166 m 5 (Py b m fn T todo ds kd ro cs v)=some [(b,false),(b,false)]:=K1
def KY:Gr:=Qi prog 166 m 5 (Py b m fn T todo ds kd ro cs v)
def jP:(Qc prog 166 m (KY b m fn T todo ds kd ro cs v) undef undef).info=some (undef,undef,#[Z0 (.releaseMerge ⟨b,0,none⟩)],[]):=K1
def Ss:Gr:=(Qc prog 166 m (KY b m fn T todo ds kd ro cs v) undef undef).get (KY b m fn T todo ds kd ro cs v)
def jQ:Qm prog 166 m 2 (Ss b m fn T todo ds kd ro cs v)=some []:=K1
def KZ:Gr:=Qi prog 166 m 2 (Ss b m fn T todo ds kd ro cs v)
def jR:(Qc prog 166 m (KZ b m fn T todo ds kd ro cs v) undef undef).info=some (undef,undef,#[Z0 .disable],[]):=K1
def Su:Gr:=(Qc prog 166 m (KZ b m fn T todo ds kd ro cs v) undef undef).get (KZ b m fn T todo ds kd ro cs v)
def jS:Qm prog 166 m 6 (Su b m fn T todo ds kd ro cs v)=some []:=K1
def H9:Gr:=Qi prog 166 m 6 (Su b m fn T todo ds kd ro cs v)
def I8:(Qc prog 166 m (H9 b m fn T todo ds kd ro cs v) (Zb 1) (Qp 0)).info=some (Zb 0,Qp 0,#[Jd b 0,W9 b 0],[(b,true),(b,true)]):=K1
def Sv:Gr:=(Qc prog 166 m (H9 b m fn T todo ds kd ro cs v) (Zb 1) (Qp 0)).get (H9 b m fn T todo ds kd ro cs v)
def jU:Qm prog 166 m 11 (Sv b m fn T todo ds kd ro cs v)=some []:=K1
def Kc:Gr:=Qi prog 166 m 11 (Sv b m fn T todo ds kd ro cs v)
def NS:(Qc prog 166 m (Kc b m fn T todo ds kd ro cs v) undef undef).info=some (undef,undef,#[Z0 .enable],[]):=K1
def Th:Gr:=(Qc prog 166 m (Kc b m fn T todo ds kd ro cs v) undef undef).get (Kc b m fn T todo ds kd ro cs v)
def NT:Qm prog 166 m 6 (Th b m fn T todo ds kd ro cs v)=some []:=K1
def NU:Qi prog 166 m 6 (Th b m fn T todo ds kd ro cs v)=Rf { fn:=fn,tmps:=T,todo:=todo,defers:=ds,mode:=.returning,kind:=kd,roundOf:=ro } cs:=K1
def jT:(Qc prog 166 m (H9 b m fn T todo ds kd ro cs v) (Zb 9) (Qp 0)).info=some (Zb 8,Qp 0,#[Jd b 0,W9 b 0],[(b,true),(b,true)]):=K1
def Sw:Gr:=(Qc prog 166 m (H9 b m fn T todo ds kd ro cs v) (Zb 9) (Qp 0)).get (H9 b m fn T todo ds kd ro cs v)
def jV:Qm prog 166 m 67 (Sw b m fn T todo ds kd ro cs v)=some []:=K1
def Pu:Gr:=Qi prog 166 m 67 (Sw b m fn T todo ds kd ro cs v)
def EN:(Qc prog 166 m (Pu b m fn T todo ds kd ro cs v) (Zb 8) (Qp 0)).info=some (Zb 2,Qp 0,#[Jd b 0,W9 b 0],[(b,true),(b,true),(b,false),(b,false)]):=K1
def Ti:Gr:=(Qc prog 166 m (Pu b m fn T todo ds kd ro cs v) (Zb 8) (Qp 0)).get (Pu b m fn T todo ds kd ro cs v)
def NV:Qm prog 166 m 7 (Ti b m fn T todo ds kd ro cs v)=some []:=K1
def G6:Gr:=Qi prog 166 m 7 (Ti b m fn T todo ds kd ro cs v)
def NW:mayWake prog (G6 b m fn T todo ds kd ro cs v)=true:=K1
def EO:(Qc prog 166 m (G6 b m fn T todo ds kd ro cs v) (Zb 2) (Qp 0)).info=some (Zb 2,Qp 1,#[Z0 .disable,Jd b 1,W9 b 1,Z0 .enable],[(b,true),(b,true)]):=K1
def Tj:Gr:=(Qc prog 166 m (G6 b m fn T todo ds kd ro cs v) (Zb 2) (Qp 0)).get (G6 b m fn T todo ds kd ro cs v)
def NX:Qm prog 166 m 5 (Tj b m fn T todo ds kd ro cs v)=some []:=K1
def Kd:Gr:=Qi prog 166 m 5 (Tj b m fn T todo ds kd ro cs v)
def NY:(Qc prog 166 m (Kd b m fn T todo ds kd ro cs v) undef undef).info=some (undef,undef,#[Z0 .enable],[]):=K1
def Tm:Gr:=(Qc prog 166 m (Kd b m fn T todo ds kd ro cs v) undef undef).get (Kd b m fn T todo ds kd ro cs v)
def Rz:Qm prog 166 m 6 (Tm b m fn T todo ds kd ro cs v)=some []:=K1
def RA:Qi prog 166 m 6 (Tm b m fn T todo ds kd ro cs v)=Rf { fn:=fn,tmps:=T,todo:=todo,defers:=ds,mode:=.returning,kind:=kd,roundOf:=ro } cs:=K1
end
section
open Go.Conc (QuitsD)
variable(b:Nat)(m:Bool)(c:Frame)(cs:List Frame)
noncomputable def TA(b:Nat)(_:Bool)(c:Frame)(cs:List Frame):Gr:=Rf (Frame.enter prog 98 #[.pb b] .normal) (c::cs)
def BF:Qm prog 173 m 3 (TA b m c cs)=some []:=K1
def KB:Gr:=Qi prog 173 m 3 (TA b m c cs)
def BG:(Qc prog 173 m (KB b m c cs) undef undef).info=some (undef,undef,#[Z0 .disable],[]):=K1
def S8:Gr:=(Qc prog 173 m (KB b m c cs) undef undef).get (KB b m c cs)
def BI:Qm prog 173 m 19 (S8 b m c cs)=some []:=K1
def KC:Gr:=Qi prog 173 m 19 (S8 b m c cs)
def yq(g:Gr)(t:Array Value):Gr:={ g with callers:=match g.callers with|w::r=>{ w with tmps:=t }::r|[]=>[] }
def HD(g:Gr):Array Value:=match g.callers with|w::_=>w.tmps|[]=>#[]
def yx(b:Nat)(x:Nat->Value):Array Value:=#[.pb b,x 1,x 2,x 3,x 4,x 5,x 6,x 7,x 8,x 9,x 10,x 11,x 12,x 13,x 14,x 15,x 16,x 17,x 18,x 19,x 20,x 21,x 22,x 23,x 24,x 25,x 26,x 27,x 28,x 29,x 30,x 31,x 32,x 33,x 34,x 35,x 36,x 37,x 38,x 39,x 40,x 41,x 42,x 43,x 44,x 45,x 46,x 47,x 48,x 49,x 50,x 51,x 52,x 53,x 54,x 55,x 56,x 57,x 58,x 59,x 60,x 61,x 62,x 63,x 64,x 65,x 66,x 67,x 68,x 69,x 70,x 71,x 72,x 73,x 74,x 75,x 76,x 77,x 78,x 79,x 80,x 81,x 82,x 83]
end
section
open Go.Conc (QuitsD)
variable(b:Nat)(m:Bool)(c:Frame)(cs:List Frame)(x:Nat->Value)
def Zf(b:Nat)(m:Bool)(c:Frame)(cs:List Frame)(x:Nat->Value):Gr:=yq (KC b m c cs) (yx b x)
def N3:KC b m c cs=Zf b m c cs (λ i=>(HD (KC b m c cs)).getD i undef):=K1
def xh:(Qc prog 173 m (Zf b m c cs x) (Q0 0 0) (Qp 0)).info=some (Q0 0 0,Qp 0,#[Jd b 0],[(b,true)]):=K1
def S9:Gr:=(Qc prog 173 m (Zf b m c cs x) (Q0 0 0) (Qp 0)).get (Zf b m c cs x)
def BM:Qm prog 173 m 31 (S9 b m c cs x)=some []:=K1
def KD:Gr:=Qi prog 173 m 31 (S9 b m c cs x)
def BN:(Qc prog 173 m (KD b m c cs x) undef undef).info=some (undef,undef,#[Z0 .enable],[]):=K1
def Sa:Gr:=(Qc prog 173 m (KD b m c cs x) undef undef).get (KD b m c cs x)
def BO:Qm prog 173 m 4 (Sa b m c cs x)=some [(b,false),(b,false)]:=K1
def KE:Gr:=Qi prog 173 m 4 (Sa b m c cs x)
def Bf:(Qc prog 173 m (KE b m c cs x) undef undef).info=some (undef,undef,#[Z0 (.acquire ⟨b,0,none⟩)],[]):=K1
def Sb:Gr:=(Qc prog 173 m (KE b m c cs x) undef undef).get (KE b m c cs x)
def Bg:Qm prog 173 m 20 (Sb b m c cs x)=some []:=K1
def Bh:Qi prog 173 m 20 (Sb b m c cs x)=Rf (c.finish (.tuple #[])) cs:=K1
