/- Lemmas. No conditions. -/
import Derived.Test.YtcakpkianonbkaaGreatDoorProg
import Derived.Test.YtcakpkianonbkaaGreatDoorB14
set_option linter.all false
open Go.Proofs.Tryz (prog)
set_option maxRecDepth 100000
noncomputable section
namespace Go.Proofs
open Go.TM
section
variable(b:Nat)(m:Bool)(c:Frame)(cs:List Frame)
def Oo(g:Gr)(t:Array Value):Gr:={ g with frame:={ g.frame with tmps:=t } }
def ZQ(g:Gr)(i:Nat):Value:=g.frame.tmps.getD i undef
def Nq:Value->Bool
 |.bool b=>b
 |_=>false
def XF:Value->Int
 |.int _ n=>n
 |_=>0
noncomputable def SR(b:Nat)(_:Bool)(c:Frame)(cs:List Frame):Gr:=Rf (Frame.enter prog 92 #[.pointer (some ⟨b,0,none⟩)] .normal) (c::cs)
def Bh:Qn prog 168 m 7 (SR b m c cs)=some []:=K1
def Y8:Gr:=Qi prog 168 m 7 (SR b m c cs)
def Bi:(Qc prog 168 m (Y8 b m c cs) undef undef).info=some (undef,undef,#[Z8 .disable],[]):=K1
def SS:Gr:=(Qc prog 168 m (Y8 b m c cs) undef undef).get (Y8 b m c cs)
def Bj:Qn prog 168 m 7 (SS b m c cs)=some []:=K1
def HC:Gr:=Qi prog 168 m 7 (SS b m c cs)
def Ty:(Qc prog 168 m (HC b m c cs) (Zg 0) (Qq 0)).info=some (Zg 1,Qq 0,#[Ji b 0,QA b 0],[(b,true),(b,true),(b,false),(b,false)]):=K1
def ST:Gr:=(Qc prog 168 m (HC b m c cs) (Zg 0) (Qq 0)).get (HC b m c cs)
def Bl:(Qc prog 168 m (HC b m c cs) (Zg 1) (Qq 0)).info=some (Zg 1,Qq 0,#[Ji b 0],[(b,true),(b,false),(b,false)]):=K1
def V5:Gr:=(Qc prog 168 m (HC b m c cs) (Zg 1) (Qq 0)).get (HC b m c cs)
def Bm:Qn prog 168 m 6 (ST b m c cs)=some []:=K1
def Y9:Gr:=Qi prog 168 m 6 (ST b m c cs)
def Bn:(Qc prog 168 m (Y9 b m c cs) undef undef).info=some (undef,undef,#[Z8 .enable],[]):=K1
def SU:Gr:=(Qc prog 168 m (Y9 b m c cs) undef undef).get (Y9 b m c cs)
def Bo:Qn prog 168 m 4 (SU b m c cs)=some [(b,false),(b,false)]:=K1
def Ya:Gr:=Qi prog 168 m 4 (SU b m c cs)
def Bp:(Qc prog 168 m (Ya b m c cs) undef undef).info=some (undef,undef,#[Z8 (.acquire ⟨b,0,none⟩)],[]):=K1
def SV:Gr:=(Qc prog 168 m (Ya b m c cs) undef undef).get (Ya b m c cs)
def Bq:Qn prog 168 m 6 (SV b m c cs)=some []:=K1
def Br:Qi prog 168 m 6 (SV b m c cs)=Rf (c.finish (.tuple #[])) cs:=K1
def Ck:Qn prog 168 m 6 (V5 b m c cs)=some []:=K1
def SY(b:Nat)(m:Bool)(c:Frame)(cs:List Frame):Frame:=(Qi prog 168 m 6 (V5 b m c cs)).callers.headD default
def SZ(b:Nat)(m:Bool)(c:Frame)(cs:List Frame):List Frame:=(Qi prog 168 m 6 (V5 b m c cs)).callers.tail
def Cl:Qi prog 168 m 6 (V5 b m c cs)=Rf (Frame.enter prog 140 #[.pointer (some ⟨b,0,none⟩)] .normal) (SY b m c cs::SZ b m c cs):=K1
def Cm:Qn prog 168 m 6 (Rf ((SY b m c cs).finish (.tuple #[])) (SZ b m c cs))=some []:=K1
def Co:Qi prog 168 m 6 (Rf ((SY b m c cs).finish (.tuple #[])) (SZ b m c cs))=Rf (c.finish (.tuple #[])) cs:=K1
end
section
variable(b:Nat)(m:Bool)(c:Frame)(cs:List Frame)
noncomputable def OE(b:Nat)(_:Bool)(c:Frame)(cs:List Frame):Gr:=Rf (Frame.enter prog 140 #[.pointer (some ⟨b,0,none⟩)] .normal) (c::cs)
def vL:Qn prog 168 m 21 (OE b m c cs)=some []:=K1
def HP:Gr:=Qi prog 168 m 21 (OE b m c cs)
def LD:(Qc prog 168 m (HP b m c cs) (Zg 1) (Qq 0)).info=some (Zg 1,Qq 0,#[],[(b,true)]):=K1
def P_:Gr:=(Qc prog 168 m (HP b m c cs) (Zg 1) (Qq 0)).get (HP b m c cs)
def Ci:Qn prog 168 m 5 (P_ b m c cs)=some []:=K1
def vM:(Qc prog 168 m (HP b m c cs) (Zg 0) (Qq 0)).info=some (Zg 0,Qq 0,#[],[(b,true)]):=K1
def KZ:Gr:=(Qc prog 168 m (HP b m c cs) (Zg 0) (Qq 0)).get (HP b m c cs)
def Cg:Qn prog 168 m 5 (KZ b m c cs)=some []:=K1
def e_(b:Nat)(ws st e it h:Value)(x:Nat->Value):Array Value:=#[.pointer (some ⟨b,0,none⟩),x 1,ws,st,e,it,h,x 7,x 8,x 9,x 10,x 11,x 12,x 13,x 14,x 15,x 16,x 17,x 18,x 19,x 20,x 21,x 22,x 23,x 24,x 25,x 26,x 27,x 28,x 29,x 30,x 31,x 32,x 33,x 34,x 35,x 36,x 37,x 38,x 39,x 40,x 41,x 42,x 43,x 44,x 45,x 46,x 47,x 48,x 49,x 50,x 51,x 52,x 53,x 54,x 55,x 56,x 57,x 58,x 59,x 60,x 61,x 62,x 63,x 64,x 65,x 66,x 67,x 68,x 69,x 70,x 71,x 72,x 73,x 74,x 75,x 76,x 77,x 78,x 79,x 80,x 81,x 82,x 83,x 84,x 85,x 86,x 87,x 88,x 89,x 90,x 91,x 92,x 93,x 94,x 95,x 96,x 97,x 98,x 99,x 100,x 101,x 102,x 103,x 104,x 105,x 106,x 107,x 108,x 109,x 110,x 111,x 112,x 113,x 114,x 115,x 116,x 117,x 118,x 119,x 120,x 121,x 122,x 123,x 124,x 125,x 126,x 127,x 128,x 129,x 130,x 131,x 132,x 133,x 134,x 135,x 136,x 137,x 138]
def Jh(b:Nat)(m:Bool)(c:Frame)(cs:List Frame)(ws st e it h:Value)(x:Nat->Value):Gr:=Oo (Qi prog 168 m 5 (P_ b m c cs)) (e_ b ws st e it h x)
def Cj:Qi prog 168 m 5 (P_ b m c cs)=Jh b m c cs (.int .i64 0) (.bool false) (.bool false) (.int .i64 0) (Zg 1) (ZQ (Qi prog 168 m 5 (P_ b m c cs))):=K1
def Ch:Qi prog 168 m 5 (KZ b m c cs)=Jh b m c cs (.int .i64 0) (.bool false) (.bool false) (.int .i64 0) (Zg 0) (ZQ (Qi prog 168 m 5 (KZ b m c cs))):=K1
end
section
variable(b:Nat)(m:Bool)(c:Frame)(cs:List Frame)(x:Nat->Value)
end
section
variable(b:Nat)(m:Bool)(c:Frame)(cs:List Frame)(x:Nat->Value)(ws it:Value)
def sB:Qn prog 168 m 67 (Jh b m c cs ws (.bool false) (.bool false) it (Zg 0) x)=some []:=K1
def Vt:Gr:=Qi prog 168 m 67 (Jh b m c cs ws (.bool false) (.bool false) it (Zg 0) x)
def Mq:(Qc prog 168 m (Vt b m c cs x ws it) (Zg 0) (Qq 0)).info=some (Zg 1,Qq 0,#[Ji b 0,QA b 0],[(b,true),(b,true),(b,false),(b,false)]):=K1
def Vu:Gr:=(Qc prog 168 m (Vt b m c cs x ws it) (Zg 0) (Qq 0)).get (Vt b m c cs x ws it)
def kJ:Qn prog 168 m 14 (Vu b m c cs x ws it)=some []:=K1
end
section
variable(b:Nat)(m:Bool)(c:Frame)(cs:List Frame)(x:Nat->Value)
def eZ(b:Nat)(x:Nat->Value):Array Value:=#[.pointer (some ⟨b,0,none⟩),x 1,x 2,x 3,x 4,x 5,x 6,x 7,x 8,x 9,x 10,x 11,x 12,x 13,x 14,x 15,x 16,x 17,x 18,x 19,x 20,x 21,x 22,x 23,x 24,x 25,x 26,x 27,x 28,x 29,x 30,x 31,x 32,x 33,x 34,x 35,x 36,x 37,x 38,x 39,x 40,x 41,x 42,x 43,x 44,x 45,x 46,x 47,x 48,x 49,x 50,x 51,x 52,x 53,x 54,x 55,x 56,x 57,x 58,x 59,x 60,x 61,x 62,x 63,x 64,x 65,x 66,x 67,x 68,x 69,x 70,x 71,x 72,x 73,x 74,x 75,x 76,x 77,x 78,x 79,x 80,x 81,x 82,x 83,x 84,x 85,x 86,x 87,x 88,x 89,x 90,x 91,x 92,x 93,x 94,x 95,x 96,x 97,x 98,x 99,x 100,x 101,x 102,x 103,x 104,x 105,x 106,x 107,x 108,x 109,x 110,x 111,x 112,x 113,x 114,x 115,x 116,x 117,x 118,x 119,x 120,x 121,x 122,x 123,x 124,x 125,x 126,x 127,x 128,x 129,x 130,x 131,x 132,x 133,x 134,x 135,x 136,x 137,x 138]
def Ga(b:Nat)(m:Bool)(c:Frame)(cs:List Frame)(x:Nat->Value):Gr:=Oo (Qi prog 168 m 14 (Vu b m c cs (λ _=>undef) (.int .i64 0) (.int .i64 0))) (eZ b x)
def kK(ws it:Value):Qi prog 168 m 14 (Vu b m c cs x ws it)=Ga b m c cs (ZQ (Qi prog 168 m 14 (Vu b m c cs x ws it))):=K1
def pB:(Qc prog 168 m (Ga b m c cs x) undef undef).info=some (undef,undef,#[Z8 .enable],[]):=K1
def Ss:Gr:=(Qc prog 168 m (Ga b m c cs x) undef undef).get (Ga b m c cs x)
def BI:Qn prog 168 m 4 (Ss b m c cs x)=some [(b,false),(b,false)]:=K1
def Ye:Gr:=Qi prog 168 m 4 (Ss b m c cs x)
def BJ:(Qc prog 168 m (Ye b m c cs x) undef undef).info=some (undef,undef,#[Z8 (.acquire ⟨b,0,none⟩)],[]):=K1
def Su:Gr:=(Qc prog 168 m (Ye b m c cs x) undef undef).get (Ye b m c cs x)
def BK:Qn prog 168 m 3 (Su b m c cs x)=some []:=K1
def BL:Qi prog 168 m 3 (Su b m c cs x)=Rf (c.finish (.tuple #[])) cs:=K1
end
section
variable(b:Nat)(m:Bool)(fn:FuncId)(T:Array Value)(todo:List Item)(ds:List Deferred)(kd:CallKind)(ro:Option Nat)(cs:List Frame)
noncomputable def OF(b:Nat)(_:Bool)(fn:FuncId)(T:Array Value)(todo:List Item)(ds:List Deferred)(kd:CallKind)(ro:Option Nat)(cs:List Frame):Gr:=Rf (Frame.enter prog 93 #[.pointer (some ⟨b,0,none⟩)] .deferred) ({ fn:=fn,tmps:=T,todo:=todo,defers:=ds,mode:=.returning,kind:=kd,roundOf:=ro }::cs)
def vS:Qn prog 168 m 12 (OF b m fn T todo ds kd ro cs)=some []:=K1
def HJ:Gr:=Qi prog 168 m 12 (OF b m fn T todo ds kd ro cs)
def Mk:(Qc prog 168 m (HJ b m fn T todo ds kd ro cs) (Zg 1) (Qq 0)).info=some (Zg 1,Qq 0,#[],[(b,true)]):=K1
def KH:Gr:=(Qc prog 168 m (HJ b m fn T todo ds kd ro cs) (Zg 1) (Qq 0)).get (HJ b m fn T todo ds kd ro cs)
def vV:(Qc prog 168 m (HJ b m fn T todo ds kd ro cs) (Zg 9) (Qq 0)).info=some (Zg 9,Qq 0,#[],[(b,true)]):=K1
def Ml:Gr:=(Qc prog 168 m (HJ b m fn T todo ds kd ro cs) (Zg 9) (Qq 0)).get (HJ b m fn T todo ds kd ro cs)
def Vo(b:Nat)(m:Bool)(fn:FuncId)(T:Array Value)(todo:List Item)(ds:List Deferred)(kd:CallKind)(ro:Option Nat)(cs:List Frame)(v:Value):Gr:=Oo (KH b m fn T todo ds kd ro cs) ((KH b m fn T todo ds kd ro cs).frame.tmps.setIfInBounds 6 v)
def jq:KH b m fn T todo ds kd ro cs=Vo b m fn T todo ds kd ro cs (Zg 1):=K1
def jr:Ml b m fn T todo ds kd ro cs=Vo b m fn T todo ds kd ro cs (Zg 9):=K1
end
section
variable(b:Nat)(m:Bool)(fn:FuncId)(T:Array Value)(todo:List Item)(ds:List Deferred)(kd:CallKind)(ro:Option Nat)(cs:List Frame)(v:Value)
def vr:Qn prog 168 m 5 (Vo b m fn T todo ds kd ro cs v)=some [(b,false),(b,false)]:=K1
def YZ:Gr:=Qi prog 168 m 5 (Vo b m fn T todo ds kd ro cs v)
def vW:(Qc prog 168 m (YZ b m fn T todo ds kd ro cs v) undef undef).info=some (undef,undef,#[Z8 (.releaseMerge ⟨b,0,none⟩)],[]):=K1
def OG:Gr:=(Qc prog 168 m (YZ b m fn T todo ds kd ro cs v) undef undef).get (YZ b m fn T todo ds kd ro cs v)
def vX:Qn prog 168 m 2 (OG b m fn T todo ds kd ro cs v)=some []:=K1
def Y_:Gr:=Qi prog 168 m 2 (OG b m fn T todo ds kd ro cs v)
def vj:(Qc prog 168 m (Y_ b m fn T todo ds kd ro cs v) undef undef).info=some (undef,undef,#[Z8 .disable],[]):=K1
def OH:Gr:=(Qc prog 168 m (Y_ b m fn T todo ds kd ro cs v) undef undef).get (Y_ b m fn T todo ds kd ro cs v)
def vk:Qn prog 168 m 6 (OH b m fn T todo ds kd ro cs v)=some []:=K1
def HK:Gr:=Qi prog 168 m 6 (OH b m fn T todo ds kd ro cs v)
def Mm:(Qc prog 168 m (HK b m fn T todo ds kd ro cs v) (Zg 1) (Qq 0)).info=some (Zg 0,Qq 0,#[Ji b 0,QA b 0],[(b,true),(b,true)]):=K1
def OI:Gr:=(Qc prog 168 m (HK b m fn T todo ds kd ro cs v) (Zg 1) (Qq 0)).get (HK b m fn T todo ds kd ro cs v)
def vp:Qn prog 168 m 11 (OI b m fn T todo ds kd ro cs v)=some []:=K1
def Yr:Gr:=Qi prog 168 m 11 (OI b m fn T todo ds kd ro cs v)
def js:(Qc prog 168 m (Yr b m fn T todo ds kd ro cs v) undef undef).info=some (undef,undef,#[Z8 .enable],[]):=K1
def S_:Gr:=(Qc prog 168 m (Yr b m fn T todo ds kd ro cs v) undef undef).get (Yr b m fn T todo ds kd ro cs v)
def jt:Qn prog 168 m 6 (S_ b m fn T todo ds kd ro cs v)=some []:=K1
def ju:Qi prog 168 m 6 (S_ b m fn T todo ds kd ro cs v)=Rf { fn:=fn,tmps:=T,todo:=todo,defers:=ds,mode:=.returning,kind:=kd,roundOf:=ro } cs:=K1
def vo:(Qc prog 168 m (HK b m fn T todo ds kd ro cs v) (Zg 9) (Qq 0)).info=some (Zg 8,Qq 0,#[Ji b 0,QA b 0],[(b,true),(b,true)]):=K1
def OJ:Gr:=(Qc prog 168 m (HK b m fn T todo ds kd ro cs v) (Zg 9) (Qq 0)).get (HK b m fn T todo ds kd ro cs v)
def vq:Qn prog 168 m 67 (OJ b m fn T todo ds kd ro cs v)=some []:=K1
def V8:Gr:=Qi prog 168 m 67 (OJ b m fn T todo ds kd ro cs v)
def IZ:(Qc prog 168 m (V8 b m fn T todo ds kd ro cs v) (Zg 8) (Qq 0)).info=some (Zg 2,Qq 0,#[Ji b 0,QA b 0],[(b,true),(b,true),(b,false),(b,false)]):=K1
def U0:Gr:=(Qc prog 168 m (V8 b m fn T todo ds kd ro cs v) (Zg 8) (Qq 0)).get (V8 b m fn T todo ds kd ro cs v)
def jv:Qn prog 168 m 7 (U0 b m fn T todo ds kd ro cs v)=some []:=K1
def GQ:Gr:=Qi prog 168 m 7 (U0 b m fn T todo ds kd ro cs v)
def jw:mayWake prog (GQ b m fn T todo ds kd ro cs v)=true:=K1
def I_:(Qc prog 168 m (GQ b m fn T todo ds kd ro cs v) (Zg 2) (Qq 0)).info=some (Zg 2,Qq 1,#[Z8 .disable,Ji b 1,QA b 1,Z8 .enable],[(b,true),(b,true)]):=K1
def Uf:Gr:=(Qc prog 168 m (GQ b m fn T todo ds kd ro cs v) (Zg 2) (Qq 0)).get (GQ b m fn T todo ds kd ro cs v)
def jx:Qn prog 168 m 5 (Uf b m fn T todo ds kd ro cs v)=some []:=K1
def Ys:Gr:=Qi prog 168 m 5 (Uf b m fn T todo ds kd ro cs v)
def jy:(Qc prog 168 m (Ys b m fn T todo ds kd ro cs v) undef undef).info=some (undef,undef,#[Z8 .enable],[]):=K1
def Ug:Gr:=(Qc prog 168 m (Ys b m fn T todo ds kd ro cs v) undef undef).get (Ys b m fn T todo ds kd ro cs v)
def jz:Qn prog 168 m 6 (Ug b m fn T todo ds kd ro cs v)=some []:=K1
def jA:Qi prog 168 m 6 (Ug b m fn T todo ds kd ro cs v)=Rf { fn:=fn,tmps:=T,todo:=todo,defers:=ds,mode:=.returning,kind:=kd,roundOf:=ro } cs:=K1
end
end Go.Proofs
namespace Go.Proofs
open Go.TM
open Go.Conc (QuitsD)
section
variable(b:Nat)(m:Bool)(c:Frame)(cs:List Frame)
noncomputable def UY(b:Nat)(_:Bool)(c:Frame)(cs:List Frame):Gr:=Rf (Frame.enter prog 97 #[.pointer (some ⟨b,0,none⟩)] .normal) (c::cs)
def xL:Qn prog 175 m 3 (UY b m c cs)=some []:=K1
def Yo:Gr:=Qi prog 175 m 3 (UY b m c cs)
def xM:(Qc prog 175 m (Yo b m c cs) undef undef).info=some (undef,undef,#[Z8 .disable],[]):=K1
def UZ:Gr:=(Qc prog 175 m (Yo b m c cs) undef undef).get (Yo b m c cs)
def xN:Qn prog 175 m 19 (UZ b m c cs)=some []:=K1
def Yq:Gr:=Qi prog 175 m 19 (UZ b m c cs)
def eN(g:Gr)(t:Array Value):Gr:={ g with callers:=match g.callers with|w::r=>{ w with tmps:=t }::r|[]=>[] }
def Gf(g:Gr):Array Value:=match g.callers with|w::_=>w.tmps|[]=>#[]
def eI(b:Nat)(x:Nat->Value):Array Value:=#[.pointer (some ⟨b,0,none⟩),x 1,x 2,x 3,x 4,x 5,x 6,x 7,x 8,x 9,x 10,x 11,x 12,x 13,x 14,x 15,x 16,x 17,x 18,x 19,x 20,x 21,x 22,x 23,x 24,x 25,x 26,x 27,x 28,x 29,x 30,x 31,x 32,x 33,x 34,x 35,x 36,x 37,x 38,x 39,x 40,x 41,x 42,x 43,x 44,x 45,x 46,x 47,x 48,x 49,x 50,x 51,x 52,x 53,x 54,x 55,x 56,x 57,x 58,x 59,x 60,x 61,x 62,x 63,x 64,x 65,x 66,x 67,x 68,x 69,x 70,x 71,x 72,x 73,x 74,x 75,x 76,x 77,x 78,x 79,x 80,x 81,x 82,x 83]
end
section
variable(b:Nat)(m:Bool)(c:Frame)(cs:List Frame)(x:Nat->Value)
def Zm(b:Nat)(m:Bool)(c:Frame)(cs:List Frame)(x:Nat->Value):Gr:=eN (Yq b m c cs) (eI b x)
def Au:Yq b m c cs=Zm b m c cs (λ i=>(Gf (Yq b m c cs)).getD i undef):=K1
def kC:(Qc prog 175 m (Zm b m c cs x) (Q2 0 0) (Qq 0)).info=some (Q2 0 0,Qq 0,#[Ji b 0],[(b,true)]):=K1
def U_:Gr:=(Qc prog 175 m (Zm b m c cs x) (Q2 0 0) (Qq 0)).get (Zm b m c cs x)
def xR:Qn prog 175 m 31 (U_ b m c cs x)=some []:=K1
def YO:Gr:=Qi prog 175 m 31 (U_ b m c cs x)
def xS:(Qc prog 175 m (YO b m c cs x) undef undef).info=some (undef,undef,#[Z8 .enable],[]):=K1
def D0:Gr:=(Qc prog 175 m (YO b m c cs x) undef undef).get (YO b m c cs x)
def gH:Qn prog 175 m 4 (D0 b m c cs x)=some [(b,false),(b,false)]:=K1
def YP:Gr:=Qi prog 175 m 4 (D0 b m c cs x)
def gI:(Qc prog 175 m (YP b m c cs x) undef undef).info=some (undef,undef,#[Z8 (.acquire ⟨b,0,none⟩)],[]):=K1
def D4:Gr:=(Qc prog 175 m (YP b m c cs x) undef undef).get (YP b m c cs x)
def gJ:Qn prog 175 m 20 (D4 b m c cs x)=some []:=K1
def gK:Qi prog 175 m 20 (D4 b m c cs x)=Rf (c.finish (.tuple #[])) cs:=K1
end
end Go.Proofs
end

