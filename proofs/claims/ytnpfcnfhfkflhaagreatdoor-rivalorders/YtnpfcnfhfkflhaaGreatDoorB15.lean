/- Lemmas. No conditions. -/
import Derived.Test.YtnpfcnfhfkflhaaGreatDoorProg
import Derived.Test.YtnpfcnfhfkflhaaGreatDoorB13
set_option linter.all false
open Go.Proofs.Tryz (prog)
set_option maxRecDepth 100000
noncomputable section
namespace Go.Proofs
open Go.TM
section
variable(b:Nat)(m:Bool)(c:Frame)(cs:List Frame)
def Vt(g:Gr)(t:Array Value):Gr:={ g with frame:={ g.frame with tmps:=t } }
def ZP(g:Gr)(i:Nat):Value:=g.frame.tmps.getD i undef
def IA:Value->Bool
 |.bool b=>b
 |_=>false
def Xm:Value->Int
 |.int _ n=>n
 |_=>0
noncomputable def UF(b:Nat)(_:Bool)(c:Frame)(cs:List Frame):Gr:=Rf (Frame.enter prog 145 #[.pointer (some ⟨b,0,none⟩)] .normal) (c::cs)
def x_:Qm prog 202 m 7 (UF b m c cs)=some []:=K1
def Vo:Gr:=Qi prog 202 m 7 (UF b m c cs)
def RP:(Qc prog 202 m (Vo b m c cs) undef undef).info=some (undef,undef,#[Z2 .disable],[]):=K1
def OJ:Gr:=(Qc prog 202 m (Vo b m c cs) undef undef).get (Vo b m c cs)
def pz:Qm prog 202 m 7 (OJ b m c cs)=some []:=K1
def Hu:Gr:=Qi prog 202 m 7 (OJ b m c cs)
def UB:(Qc prog 202 m (Hu b m c cs) (Zc 0) (Qq 0)).info=some (Zc 1,Qq 0,#[Jg b 0,QB b 0],[(b,true),(b,true),(b,false),(b,false)]):=K1
def Ot:Gr:=(Qc prog 202 m (Hu b m c cs) (Zc 0) (Qq 0)).get (Hu b m c cs)
def B1:(Qc prog 202 m (Hu b m c cs) (Zc 1) (Qq 0)).info=some (Zc 1,Qq 0,#[Jg b 0],[(b,true),(b,false),(b,false)]):=K1
def PY:Gr:=(Qc prog 202 m (Hu b m c cs) (Zc 1) (Qq 0)).get (Hu b m c cs)
def vq:Qm prog 202 m 6 (Ot b m c cs)=some []:=K1
def YC:Gr:=Qi prog 202 m 6 (Ot b m c cs)
def pB:(Qc prog 202 m (YC b m c cs) undef undef).info=some (undef,undef,#[Z2 .enable],[]):=K1
def Uy:Gr:=(Qc prog 202 m (YC b m c cs) undef undef).get (YC b m c cs)
def zY:Qm prog 202 m 4 (Uy b m c cs)=some [(b,false),(b,false)]:=K1
def Kx:Gr:=Qi prog 202 m 4 (Uy b m c cs)
def gz:(Qc prog 202 m (Kx b m c cs) undef undef).info=some (undef,undef,#[Z2 (.acquire ⟨b,0,none⟩)],[]):=K1
def Ut:Gr:=(Qc prog 202 m (Kx b m c cs) undef undef).get (Kx b m c cs)
def zG:Qm prog 202 m 6 (Ut b m c cs)=some []:=K1
def gp:Qi prog 202 m 6 (Ut b m c cs)=Rf (c.finish (.tuple #[])) cs:=K1
def xH:Qm prog 202 m 6 (PY b m c cs)=some []:=K1
def Ox(b:Nat)(m:Bool)(c:Frame)(cs:List Frame):Frame:=(Qi prog 202 m 6 (PY b m c cs)).callers.headD default
def OS(b:Nat)(m:Bool)(c:Frame)(cs:List Frame):List Frame:=(Qi prog 202 m 6 (PY b m c cs)).callers.tail
def kT:Qi prog 202 m 6 (PY b m c cs)=Rf (Frame.enter prog 203 #[.pointer (some ⟨b,0,none⟩)] .normal) (Ox b m c cs::OS b m c cs):=K1
def xD:Qm prog 202 m 6 (Rf ((Ox b m c cs).finish (.tuple #[])) (OS b m c cs))=some []:=K1
def oX:Qi prog 202 m 6 (Rf ((Ox b m c cs).finish (.tuple #[])) (OS b m c cs))=Rf (c.finish (.tuple #[])) cs:=K1
end
section
variable(b:Nat)(m:Bool)(c:Frame)(cs:List Frame)
noncomputable def S5(b:Nat)(_:Bool)(c:Frame)(cs:List Frame):Gr:=Rf (Frame.enter prog 203 #[.pointer (some ⟨b,0,none⟩)] .normal) (c::cs)
def yW:Qm prog 202 m 21 (S5 b m c cs)=some []:=K1
def Hx:Gr:=Qi prog 202 m 21 (S5 b m c cs)
def Es:(Qc prog 202 m (Hx b m c cs) (Zc 1) (Qq 0)).info=some (Zc 1,Qq 0,#[],[(b,true)]):=K1
def PU:Gr:=(Qc prog 202 m (Hx b m c cs) (Zc 1) (Qq 0)).get (Hx b m c cs)
def kG:Qm prog 202 m 5 (PU b m c cs)=some []:=K1
def Nd:(Qc prog 202 m (Hx b m c cs) (Zc 0) (Qq 0)).info=some (Zc 0,Qq 0,#[],[(b,true)]):=K1
def VK:Gr:=(Qc prog 202 m (Hx b m c cs) (Zc 0) (Qq 0)).get (Hx b m c cs)
def Ni:Qm prog 202 m 5 (VK b m c cs)=some []:=K1
def zD(b:Nat)(ws st e it f:Value)(x:Nat->Value):Array Value:=#[.pointer (some ⟨b,0,none⟩),x 1,ws,st,e,it,f,x 7,x 8,x 9,x 10,x 11,x 12,x 13,x 14,x 15,x 16,x 17,x 18,x 19,x 20,x 21,x 22,x 23,x 24,x 25,x 26,x 27,x 28,x 29,x 30,x 31,x 32,x 33,x 34,x 35,x 36,x 37,x 38,x 39,x 40,x 41,x 42,x 43,x 44,x 45,x 46,x 47,x 48,x 49,x 50,x 51,x 52,x 53,x 54,x 55,x 56,x 57,x 58,x 59,x 60,x 61,x 62,x 63,x 64,x 65,x 66,x 67,x 68,x 69,x 70,x 71,x 72,x 73,x 74,x 75,x 76,x 77,x 78,x 79,x 80,x 81,x 82,x 83,x 84,x 85,x 86,x 87,x 88,x 89,x 90,x 91,x 92,x 93,x 94,x 95,x 96,x 97,x 98,x 99,x 100,x 101,x 102,x 103,x 104,x 105,x 106,x 107,x 108,x 109,x 110,x 111,x 112,x 113,x 114,x 115,x 116,x 117,x 118,x 119,x 120,x 121,x 122,x 123,x 124,x 125,x 126,x 127,x 128,x 129,x 130,x 131,x 132,x 133,x 134,x 135,x 136,x 137,x 138]
def Jf(b:Nat)(m:Bool)(c:Frame)(cs:List Frame)(ws st e it f:Value)(x:Nat->Value):Gr:=Vt (Qi prog 202 m 5 (PU b m c cs)) (zD b ws st e it f x)
def oH:Qi prog 202 m 5 (PU b m c cs)=Jf b m c cs (.int .i64 0) (.bool false) (.bool false) (.int .i64 0) (Zc 1) (ZP (Qi prog 202 m 5 (PU b m c cs))):=K1
def vR:Qi prog 202 m 5 (VK b m c cs)=Jf b m c cs (.int .i64 0) (.bool false) (.bool false) (.int .i64 0) (Zc 0) (ZP (Qi prog 202 m 5 (VK b m c cs))):=K1
end
section
variable(b:Nat)(m:Bool)(c:Frame)(cs:List Frame)(x:Nat->Value)
end
section
variable(b:Nat)(m:Bool)(c:Frame)(cs:List Frame)(x:Nat->Value)(ws it:Value)
def Nk:Qm prog 202 m 67 (Jf b m c cs ws (.bool false) (.bool false) it (Zc 0) x)=some []:=K1
def PQ:Gr:=Qi prog 202 m 67 (Jf b m c cs ws (.bool false) (.bool false) it (Zc 0) x)
def El:(Qc prog 202 m (PQ b m c cs x ws it) (Zc 0) (Qq 0)).info=some (Zc 1,Qq 0,#[Jg b 0,QB b 0],[(b,true),(b,true),(b,false),(b,false)]):=K1
def Pj:Gr:=(Qc prog 202 m (PQ b m c cs x ws it) (Zc 0) (Qq 0)).get (PQ b m c cs x ws it)
def tw:Qm prog 202 m 14 (Pj b m c cs x ws it)=some []:=K1
end
section
variable(b:Nat)(m:Bool)(c:Frame)(cs:List Frame)(x:Nat->Value)
def pr(b:Nat)(x:Nat->Value):Array Value:=#[.pointer (some ⟨b,0,none⟩),x 1,x 2,x 3,x 4,x 5,x 6,x 7,x 8,x 9,x 10,x 11,x 12,x 13,x 14,x 15,x 16,x 17,x 18,x 19,x 20,x 21,x 22,x 23,x 24,x 25,x 26,x 27,x 28,x 29,x 30,x 31,x 32,x 33,x 34,x 35,x 36,x 37,x 38,x 39,x 40,x 41,x 42,x 43,x 44,x 45,x 46,x 47,x 48,x 49,x 50,x 51,x 52,x 53,x 54,x 55,x 56,x 57,x 58,x 59,x 60,x 61,x 62,x 63,x 64,x 65,x 66,x 67,x 68,x 69,x 70,x 71,x 72,x 73,x 74,x 75,x 76,x 77,x 78,x 79,x 80,x 81,x 82,x 83,x 84,x 85,x 86,x 87,x 88,x 89,x 90,x 91,x 92,x 93,x 94,x 95,x 96,x 97,x 98,x 99,x 100,x 101,x 102,x 103,x 104,x 105,x 106,x 107,x 108,x 109,x 110,x 111,x 112,x 113,x 114,x 115,x 116,x 117,x 118,x 119,x 120,x 121,x 122,x 123,x 124,x 125,x 126,x 127,x 128,x 129,x 130,x 131,x 132,x 133,x 134,x 135,x 136,x 137,x 138]
def HJ(b:Nat)(m:Bool)(c:Frame)(cs:List Frame)(x:Nat->Value):Gr:=Vt (Qi prog 202 m 14 (Pj b m c cs (λ _=>undef) (.int .i64 0) (.int .i64 0))) (pr b x)
def Az(ws it:Value):Qi prog 202 m 14 (Pj b m c cs x ws it)=HJ b m c cs (ZP (Qi prog 202 m 14 (Pj b m c cs x ws it))):=K1
def yw:(Qc prog 202 m (HJ b m c cs x) undef undef).info=some (undef,undef,#[Z2 .enable],[]):=K1
def TR:Gr:=(Qc prog 202 m (HJ b m c cs x) undef undef).get (HJ b m c cs x)
def NP:Qm prog 202 m 4 (TR b m c cs x)=some [(b,false),(b,false)]:=K1
def Vp:Gr:=Qi prog 202 m 4 (TR b m c cs x)
def A4:(Qc prog 202 m (Vp b m c cs x) undef undef).info=some (undef,undef,#[Z2 (.acquire ⟨b,0,none⟩)],[]):=K1
def Sn:Gr:=(Qc prog 202 m (Vp b m c cs x) undef undef).get (Vp b m c cs x)
def kz:Qm prog 202 m 3 (Sn b m c cs x)=some []:=K1
def zf:Qi prog 202 m 3 (Sn b m c cs x)=Rf (c.finish (.tuple #[])) cs:=K1
end
section
variable(b:Nat)(m:Bool)(fn:FuncId)(T:Array Value)(todo:List Item)(ds:List Deferred)(kd:CallKind)(ro:Option Nat)(cs:List Frame)
noncomputable def Tn(b:Nat)(_:Bool)(fn:FuncId)(T:Array Value)(todo:List Item)(ds:List Deferred)(kd:CallKind)(ro:Option Nat)(cs:List Frame):Gr:=Rf (Frame.enter prog 146 #[.pointer (some ⟨b,0,none⟩)] .deferred) ({ fn:=fn,tmps:=T,todo:=todo,defers:=ds,mode:=.returning,kind:=kd,roundOf:=ro }::cs)
def CR:Qm prog 202 m 12 (Tn b m fn T todo ds kd ro cs)=some []:=K1
def Hn:Gr:=Qi prog 202 m 12 (Tn b m fn T todo ds kd ro cs)
def DL:(Qc prog 202 m (Hn b m fn T todo ds kd ro cs) (Zc 1) (Qq 0)).info=some (Zc 1,Qq 0,#[],[(b,true)]):=K1
def VN:Gr:=(Qc prog 202 m (Hn b m fn T todo ds kd ro cs) (Zc 1) (Qq 0)).get (Hn b m fn T todo ds kd ro cs)
def zQ:(Qc prog 202 m (Hn b m fn T todo ds kd ro cs) (Zc 9) (Qq 0)).info=some (Zc 9,Qq 0,#[],[(b,true)]):=K1
def Dp:Gr:=(Qc prog 202 m (Hn b m fn T todo ds kd ro cs) (Zc 9) (Qq 0)).get (Hn b m fn T todo ds kd ro cs)
def P5(b:Nat)(m:Bool)(fn:FuncId)(T:Array Value)(todo:List Item)(ds:List Deferred)(kd:CallKind)(ro:Option Nat)(cs:List Frame)(v:Value):Gr:=Vt (VN b m fn T todo ds kd ro cs) ((VN b m fn T todo ds kd ro cs).frame.tmps.setIfInBounds 6 v)
def oD:VN b m fn T todo ds kd ro cs=P5 b m fn T todo ds kd ro cs (Zc 1):=K1
def zg:Dp b m fn T todo ds kd ro cs=P5 b m fn T todo ds kd ro cs (Zc 9):=K1
end
section
variable(b:Nat)(m:Bool)(fn:FuncId)(T:Array Value)(todo:List Item)(ds:List Deferred)(kd:CallKind)(ro:Option Nat)(cs:List Frame)(v:Value)
def AU:Qm prog 202 m 5 (P5 b m fn T todo ds kd ro cs v)=some [(b,false),(b,false)]:=K1
def VB:Gr:=Qi prog 202 m 5 (P5 b m fn T todo ds kd ro cs v)
def wE:(Qc prog 202 m (VB b m fn T todo ds kd ro cs v) undef undef).info=some (undef,undef,#[Z2 (.releaseMerge ⟨b,0,none⟩)],[]):=K1
def Sx:Gr:=(Qc prog 202 m (VB b m fn T todo ds kd ro cs v) undef undef).get (VB b m fn T todo ds kd ro cs v)
def yK:Qm prog 202 m 2 (Sx b m fn T todo ds kd ro cs v)=some []:=K1
def Vz:Gr:=Qi prog 202 m 2 (Sx b m fn T todo ds kd ro cs v)
def oj:(Qc prog 202 m (Vz b m fn T todo ds kd ro cs v) undef undef).info=some (undef,undef,#[Z2 .disable],[]):=K1
def OD:Gr:=(Qc prog 202 m (Vz b m fn T todo ds kd ro cs v) undef undef).get (Vz b m fn T todo ds kd ro cs v)
def Nv:Qm prog 202 m 6 (OD b m fn T todo ds kd ro cs v)=some []:=K1
def Hm:Gr:=Qi prog 202 m 6 (OD b m fn T todo ds kd ro cs v)
def LM:(Qc prog 202 m (Hm b m fn T todo ds kd ro cs v) (Zc 1) (Qq 0)).info=some (Zc 0,Qq 0,#[Jg b 0,QB b 0],[(b,true),(b,true)]):=K1
def SD:Gr:=(Qc prog 202 m (Hm b m fn T todo ds kd ro cs v) (Zc 1) (Qq 0)).get (Hm b m fn T todo ds kd ro cs v)
def g_:Qm prog 202 m 11 (SD b m fn T todo ds kd ro cs v)=some []:=K1
def VQ:Gr:=Qi prog 202 m 11 (SD b m fn T todo ds kd ro cs v)
def vr:(Qc prog 202 m (VQ b m fn T todo ds kd ro cs v) undef undef).info=some (undef,undef,#[Z2 .enable],[]):=K1
def Oj:Gr:=(Qc prog 202 m (VQ b m fn T todo ds kd ro cs v) undef undef).get (VQ b m fn T todo ds kd ro cs v)
def qk:Qm prog 202 m 6 (Oj b m fn T todo ds kd ro cs v)=some []:=K1
def Np:Qi prog 202 m 6 (Oj b m fn T todo ds kd ro cs v)=Rf { fn:=fn,tmps:=T,todo:=todo,defers:=ds,mode:=.returning,kind:=kd,roundOf:=ro } cs:=K1
def MX:(Qc prog 202 m (Hm b m fn T todo ds kd ro cs v) (Zc 9) (Qq 0)).info=some (Zc 8,Qq 0,#[Jg b 0,QB b 0],[(b,true),(b,true)]):=K1
def To:Gr:=(Qc prog 202 m (Hm b m fn T todo ds kd ro cs v) (Zc 9) (Qq 0)).get (Hm b m fn T todo ds kd ro cs v)
def pQ:Qm prog 202 m 67 (To b m fn T todo ds kd ro cs v)=some []:=K1
def Pt:Gr:=Qi prog 202 m 67 (To b m fn T todo ds kd ro cs v)
def Dz:(Qc prog 202 m (Pt b m fn T todo ds kd ro cs v) (Zc 8) (Qq 0)).info=some (Zc 2,Qq 0,#[Jg b 0,QB b 0],[(b,true),(b,true),(b,false),(b,false)]):=K1
def Sc:Gr:=(Qc prog 202 m (Pt b m fn T todo ds kd ro cs v) (Zc 8) (Qq 0)).get (Pt b m fn T todo ds kd ro cs v)
def C2:Qm prog 202 m 7 (Sc b m fn T todo ds kd ro cs v)=some []:=K1
def Gu:Gr:=Qi prog 202 m 7 (Sc b m fn T todo ds kd ro cs v)
def A9:mayWake prog (Gu b m fn T todo ds kd ro cs v)=true:=K1
def Ft:(Qc prog 202 m (Gu b m fn T todo ds kd ro cs v) (Zc 2) (Qq 0)).info=some (Zc 2,Qq 1,#[Z2 .disable,Jg b 1,QB b 1,Z2 .enable],[(b,true),(b,true)]):=K1
def O0:Gr:=(Qc prog 202 m (Gu b m fn T todo ds kd ro cs v) (Zc 2) (Qq 0)).get (Gu b m fn T todo ds kd ro cs v)
def CH:Qm prog 202 m 5 (O0 b m fn T todo ds kd ro cs v)=some []:=K1
def Ku:Gr:=Qi prog 202 m 5 (O0 b m fn T todo ds kd ro cs v)
def Bn:(Qc prog 202 m (Ku b m fn T todo ds kd ro cs v) undef undef).info=some (undef,undef,#[Z2 .enable],[]):=K1
def YF:Gr:=(Qc prog 202 m (Ku b m fn T todo ds kd ro cs v) undef undef).get (Ku b m fn T todo ds kd ro cs v)
def MA:Qm prog 202 m 6 (YF b m fn T todo ds kd ro cs v)=some []:=K1
def CW:Qi prog 202 m 6 (YF b m fn T todo ds kd ro cs v)=Rf { fn:=fn,tmps:=T,todo:=todo,defers:=ds,mode:=.returning,kind:=kd,roundOf:=ro } cs:=K1
end
end Go.Proofs
namespace Go.Proofs
open Go.TM
open Go.Conc (QuitsD)
section
variable(b:Nat)(m:Bool)(c:Frame)(cs:List Frame)
noncomputable def Sv(b:Nat)(_:Bool)(c:Frame)(cs:List Frame):Gr:=Rf (Frame.enter prog 150 #[.pointer (some ⟨b,0,none⟩)] .normal) (c::cs)
def gM:Qm prog 209 m 3 (Sv b m c cs)=some []:=K1
def KE:Gr:=Qi prog 209 m 3 (Sv b m c cs)
def zt:(Qc prog 209 m (KE b m c cs) undef undef).info=some (undef,undef,#[Z2 .disable],[]):=K1
def SJ:Gr:=(Qc prog 209 m (KE b m c cs) undef undef).get (KE b m c cs)
def kH:Qm prog 209 m 19 (SJ b m c cs)=some []:=K1
def Yj:Gr:=Qi prog 209 m 19 (SJ b m c cs)
def Ao(g:Gr)(t:Array Value):Gr:={ g with callers:=match g.callers with|w::r=>{ w with tmps:=t }::r|[]=>[] }
def HF(g:Gr):Array Value:=match g.callers with|w::_=>w.tmps|[]=>#[]
def kZ(b:Nat)(x:Nat->Value):Array Value:=#[.pointer (some ⟨b,0,none⟩),x 1,x 2,x 3,x 4,x 5,x 6,x 7,x 8,x 9,x 10,x 11,x 12,x 13,x 14,x 15,x 16,x 17,x 18,x 19,x 20,x 21,x 22,x 23,x 24,x 25,x 26,x 27,x 28,x 29,x 30,x 31,x 32,x 33,x 34,x 35,x 36,x 37,x 38,x 39,x 40,x 41,x 42,x 43,x 44,x 45,x 46,x 47,x 48,x 49,x 50,x 51,x 52,x 53,x 54,x 55,x 56,x 57,x 58,x 59,x 60,x 61,x 62,x 63,x 64,x 65,x 66,x 67,x 68,x 69,x 70,x 71,x 72,x 73,x 74,x 75,x 76,x 77,x 78,x 79,x 80,x 81,x 82,x 83]
end
section
variable(b:Nat)(m:Bool)(c:Frame)(cs:List Frame)(x:Nat->Value)
def Zh(b:Nat)(m:Bool)(c:Frame)(cs:List Frame)(x:Nat->Value):Gr:=Ao (Yj b m c cs) (kZ b x)
def oO:Yj b m c cs=Zh b m c cs (λ i=>(HF (Yj b m c cs)).getD i undef):=K1
def yg:(Qc prog 209 m (Zh b m c cs x) (Q1 0 0) (Qq 0)).info=some (Q1 0 0,Qq 0,#[Jg b 0],[(b,true)]):=K1
def SR:Gr:=(Qc prog 209 m (Zh b m c cs x) (Q1 0 0) (Qq 0)).get (Zh b m c cs x)
def kO:Qm prog 209 m 31 (SR b m c cs x)=some []:=K1
def KD:Gr:=Qi prog 209 m 31 (SR b m c cs x)
def vF:(Qc prog 209 m (KD b m c cs x) undef undef).info=some (undef,undef,#[Z2 .enable],[]):=K1
def Ty:Gr:=(Qc prog 209 m (KD b m c cs x) undef undef).get (KD b m c cs x)
def No:Qm prog 209 m 4 (Ty b m c cs x)=some [(b,false),(b,false)]:=K1
def Kw:Gr:=Qi prog 209 m 4 (Ty b m c cs x)
def AC:(Qc prog 209 m (Kw b m c cs x) undef undef).info=some (undef,undef,#[Z2 (.acquire ⟨b,0,none⟩)],[]):=K1
def SL:Gr:=(Qc prog 209 m (Kw b m c cs x) undef undef).get (Kw b m c cs x)
def qB:Qm prog 209 m 20 (SL b m c cs x)=some []:=K1
def RW:Qi prog 209 m 20 (SL b m c cs x)=Rf (c.finish (.tuple #[])) cs:=K1
end
end Go.Proofs
end

