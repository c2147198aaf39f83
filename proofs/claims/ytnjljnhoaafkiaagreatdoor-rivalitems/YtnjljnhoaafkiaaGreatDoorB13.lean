/- Lemmas. No conditions. -/
import Derived.Test.YtnjljnhoaafkiaaGreatDoorProg
import Derived.Test.YtnjljnhoaafkiaaGreatDoorB11
set_option linter.all false
open Go.Proofs.Tryz (prog)
set_option maxRecDepth 100000
noncomputable section
namespace Go.Proofs
open Go.TM
section
variable(b:Nat)(m:Bool)(c:Frame)(cs:List Frame)
def Yt(g:Gr)(t:Array Value):Gr:={ g with frame:={ g.frame with tmps:=t } }
def ZM(g:Gr)(i:Nat):Value:=g.frame.tmps.getD i undef
def Ly:Value->Bool
 |.bool b=>b
 |_=>false
def Xi:Value->Int
 |.int _ n=>n
 |_=>0
noncomputable def Tj(b:Nat)(_:Bool)(c:Frame)(cs:List Frame):Gr:=Rf (Frame.enter prog 92 #[.pointer (some ⟨b,0,none⟩)] .normal) (c::cs)
def Nt:Qm prog 169 m 7 (Tj b m c cs)=some []:=K1
def K5:Gr:=Qj prog 169 m 7 (Tj b m c cs)
def Nu:(Qc prog 169 m (K5 b m c cs) undef undef).info=some (undef,undef,#[Z0 .disable],[]):=K1
def Tm:Gr:=(Qc prog 169 m (K5 b m c cs) undef undef).get (K5 b m c cs)
def Nv:Qm prog 169 m 7 (Tm b m c cs)=some []:=K1
def H7:Gr:=Qj prog 169 m 7 (Tm b m c cs)
def O7:(Qc prog 169 m (H7 b m c cs) (Zc 0) (Qp 0)).info=some (Zc 1,Qp 0,#[Jc b 0,QA b 0],[(b,true),(b,true),(b,false),(b,false)]):=K1
def Tn:Gr:=(Qc prog 169 m (H7 b m c cs) (Zc 0) (Qp 0)).get (H7 b m c cs)
def Nw:(Qc prog 169 m (H7 b m c cs) (Zc 1) (Qp 0)).info=some (Zc 1,Qp 0,#[Jc b 0],[(b,true),(b,false),(b,false)]):=K1
def Pt:Gr:=(Qc prog 169 m (H7 b m c cs) (Zc 1) (Qp 0)).get (H7 b m c cs)
def Ny:Qm prog 169 m 6 (Tn b m c cs)=some []:=K1
def K6:Gr:=Qj prog 169 m 6 (Tn b m c cs)
def Nz:(Qc prog 169 m (K6 b m c cs) undef undef).info=some (undef,undef,#[Z0 .enable],[]):=K1
def To:Gr:=(Qc prog 169 m (K6 b m c cs) undef undef).get (K6 b m c cs)
def NA:Qm prog 169 m 4 (To b m c cs)=some [(b,false),(b,false)]:=K1
def K7:Gr:=Qj prog 169 m 4 (To b m c cs)
def NB:(Qc prog 169 m (K7 b m c cs) undef undef).info=some (undef,undef,#[Z0 (.acquire ⟨b,0,none⟩)],[]):=K1
def Tp:Gr:=(Qc prog 169 m (K7 b m c cs) undef undef).get (K7 b m c cs)
def NC:Qm prog 169 m 6 (Tp b m c cs)=some []:=K1
def ND:Qj prog 169 m 6 (Tp b m c cs)=Rf (c.finish (.tuple #[])) cs:=K1
def Rp:Qm prog 169 m 6 (Pt b m c cs)=some []:=K1
def Tt(b:Nat)(m:Bool)(c:Frame)(cs:List Frame):Frame:=(Qj prog 169 m 6 (Pt b m c cs)).callers.headD default
def Tu(b:Nat)(m:Bool)(c:Frame)(cs:List Frame):List Frame:=(Qj prog 169 m 6 (Pt b m c cs)).callers.tail
def Rq:Qj prog 169 m 6 (Pt b m c cs)=Rf (Frame.enter prog 151 #[.pointer (some ⟨b,0,none⟩)] .normal) (Tt b m c cs::Tu b m c cs):=K1
def Rr:Qm prog 169 m 6 (Rf ((Tt b m c cs).finish (.tuple #[])) (Tu b m c cs))=some []:=K1
def Rs:Qj prog 169 m 6 (Rf ((Tt b m c cs).finish (.tuple #[])) (Tu b m c cs))=Rf (c.finish (.tuple #[])) cs:=K1
end
section
variable(b:Nat)(m:Bool)(c:Frame)(cs:List Frame)
noncomputable def SD(b:Nat)(_:Bool)(c:Frame)(cs:List Frame):Gr:=Rf (Frame.enter prog 151 #[.pointer (some ⟨b,0,none⟩)] .normal) (c::cs)
def wg:Qm prog 169 m 21 (SD b m c cs)=some []:=K1
def Hh:Gr:=Qj prog 169 m 21 (SD b m c cs)
def Ie:(Qc prog 169 m (Hh b m c cs) (Zc 1) (Qp 0)).info=some (Zc 1,Qp 0,#[],[(b,true)]):=K1
def Pl:Gr:=(Qc prog 169 m (Hh b m c cs) (Zc 1) (Qp 0)).get (Hh b m c cs)
def Rn:Qm prog 169 m 5 (Pl b m c cs)=some []:=K1
def wh:(Qc prog 169 m (Hh b m c cs) (Zc 0) (Qp 0)).info=some (Zc 0,Qp 0,#[],[(b,true)]):=K1
def VY:Gr:=(Qc prog 169 m (Hh b m c cs) (Zc 0) (Qp 0)).get (Hh b m c cs)
def Rl:Qm prog 169 m 5 (VY b m c cs)=some []:=K1
def oF(b:Nat)(ws st f it h:Value)(x:Nat->Value):Array Value:=#[.pointer (some ⟨b,0,none⟩),x 1,ws,st,f,it,h,x 7,x 8,x 9,x 10,x 11,x 12,x 13,x 14,x 15,x 16,x 17,x 18,x 19,x 20,x 21,x 22,x 23,x 24,x 25,x 26,x 27,x 28,x 29,x 30,x 31,x 32,x 33,x 34,x 35,x 36,x 37,x 38,x 39,x 40,x 41,x 42,x 43,x 44,x 45,x 46,x 47,x 48,x 49,x 50,x 51,x 52,x 53,x 54,x 55,x 56,x 57,x 58,x 59,x 60,x 61,x 62,x 63,x 64,x 65,x 66,x 67,x 68,x 69,x 70,x 71,x 72,x 73,x 74,x 75,x 76,x 77,x 78,x 79,x 80,x 81,x 82,x 83,x 84,x 85,x 86,x 87,x 88,x 89,x 90,x 91,x 92,x 93,x 94,x 95,x 96,x 97,x 98,x 99,x 100,x 101,x 102,x 103,x 104,x 105,x 106,x 107,x 108,x 109,x 110,x 111,x 112,x 113,x 114,x 115,x 116,x 117,x 118,x 119,x 120,x 121,x 122,x 123,x 124,x 125,x 126,x 127,x 128,x 129,x 130,x 131,x 132,x 133,x 134,x 135,x 136,x 137,x 138]
def Jb(b:Nat)(m:Bool)(c:Frame)(cs:List Frame)(ws st f it h:Value)(x:Nat->Value):Gr:=Yt (Qj prog 169 m 5 (Pl b m c cs)) (oF b ws st f it h x)
def Ro:Qj prog 169 m 5 (Pl b m c cs)=Jb b m c cs (.int .i64 0) (.bool false) (.bool false) (.int .i64 0) (Zc 1) (ZM (Qj prog 169 m 5 (Pl b m c cs))):=K1
def Rm:Qj prog 169 m 5 (VY b m c cs)=Jb b m c cs (.int .i64 0) (.bool false) (.bool false) (.int .i64 0) (Zc 0) (ZM (Qj prog 169 m 5 (VY b m c cs))):=K1
end
section
variable(b:Nat)(m:Bool)(c:Frame)(cs:List Frame)(x:Nat->Value)
end
section
variable(b:Nat)(m:Bool)(c:Frame)(cs:List Frame)(x:Nat->Value)(ws it:Value)
def vo:Qm prog 169 m 67 (Jb b m c cs ws (.bool false) (.bool false) it (Zc 0) x)=some []:=K1
def PK:Gr:=Qj prog 169 m 67 (Jb b m c cs ws (.bool false) (.bool false) it (Zc 0) x)
def FL:(Qc prog 169 m (PK b m c cs x ws it) (Zc 0) (Qp 0)).info=some (Zc 1,Qp 0,#[Jc b 0,QA b 0],[(b,true),(b,true),(b,false),(b,false)]):=K1
def PL:Gr:=(Qc prog 169 m (PK b m c cs x ws it) (Zc 0) (Qp 0)).get (PK b m c cs x ws it)
def wV:Qm prog 169 m 14 (PL b m c cs x ws it)=some []:=K1
end
section
variable(b:Nat)(m:Bool)(c:Frame)(cs:List Frame)(x:Nat->Value)
def oE(b:Nat)(x:Nat->Value):Array Value:=#[.pointer (some ⟨b,0,none⟩),x 1,x 2,x 3,x 4,x 5,x 6,x 7,x 8,x 9,x 10,x 11,x 12,x 13,x 14,x 15,x 16,x 17,x 18,x 19,x 20,x 21,x 22,x 23,x 24,x 25,x 26,x 27,x 28,x 29,x 30,x 31,x 32,x 33,x 34,x 35,x 36,x 37,x 38,x 39,x 40,x 41,x 42,x 43,x 44,x 45,x 46,x 47,x 48,x 49,x 50,x 51,x 52,x 53,x 54,x 55,x 56,x 57,x 58,x 59,x 60,x 61,x 62,x 63,x 64,x 65,x 66,x 67,x 68,x 69,x 70,x 71,x 72,x 73,x 74,x 75,x 76,x 77,x 78,x 79,x 80,x 81,x 82,x 83,x 84,x 85,x 86,x 87,x 88,x 89,x 90,x 91,x 92,x 93,x 94,x 95,x 96,x 97,x 98,x 99,x 100,x 101,x 102,x 103,x 104,x 105,x 106,x 107,x 108,x 109,x 110,x 111,x 112,x 113,x 114,x 115,x 116,x 117,x 118,x 119,x 120,x 121,x 122,x 123,x 124,x 125,x 126,x 127,x 128,x 129,x 130,x 131,x 132,x 133,x 134,x 135,x 136,x 137,x 138]
def HG(b:Nat)(m:Bool)(c:Frame)(cs:List Frame)(x:Nat->Value):Gr:=Yt (Qj prog 169 m 14 (PL b m c cs (λ _=>undef) (.int .i64 0) (.int .i64 0))) (oE b x)
def wW(ws it:Value):Qj prog 169 m 14 (PL b m c cs x ws it)=HG b m c cs (ZM (Qj prog 169 m 14 (PL b m c cs x ws it))):=K1
def wB:(Qc prog 169 m (HG b m c cs x) undef undef).info=some (undef,undef,#[Z0 .enable],[]):=K1
def OY:Gr:=(Qc prog 169 m (HG b m c cs x) undef undef).get (HG b m c cs x)
def NR:Qm prog 169 m 4 (OY b m c cs x)=some [(b,false),(b,false)]:=K1
def Kd:Gr:=Qj prog 169 m 4 (OY b m c cs x)
def NS:(Qc prog 169 m (Kd b m c cs x) undef undef).info=some (undef,undef,#[Z0 (.acquire ⟨b,0,none⟩)],[]):=K1
def OZ:Gr:=(Qc prog 169 m (Kd b m c cs x) undef undef).get (Kd b m c cs x)
def NT:Qm prog 169 m 3 (OZ b m c cs x)=some []:=K1
def NU:Qj prog 169 m 3 (OZ b m c cs x)=Rf (c.finish (.tuple #[])) cs:=K1
end
section
variable(b:Nat)(m:Bool)(fn:FuncId)(T:Array Value)(todo:List Item)(ds:List Deferred)(kd:CallKind)(ro:Option Nat)(cs:List Frame)
noncomputable def SF(b:Nat)(_:Bool)(fn:FuncId)(T:Array Value)(todo:List Item)(ds:List Deferred)(kd:CallKind)(ro:Option Nat)(cs:List Frame):Gr:=Rf (Frame.enter prog 93 #[.pointer (some ⟨b,0,none⟩)] .deferred) ({ fn:=fn,tmps:=T,todo:=todo,defers:=ds,mode:=.returning,kind:=kd,roundOf:=ro }::cs)
def xh:Qm prog 169 m 12 (SF b m fn T todo ds kd ro cs)=some []:=K1
def Hb:Gr:=Qj prog 169 m 12 (SF b m fn T todo ds kd ro cs)
def FF:(Qc prog 169 m (Hb b m fn T todo ds kd ro cs) (Zc 1) (Qp 0)).info=some (Zc 1,Qp 0,#[],[(b,true)]):=K1
def VM:Gr:=(Qc prog 169 m (Hb b m fn T todo ds kd ro cs) (Zc 1) (Qp 0)).get (Hb b m fn T todo ds kd ro cs)
def xr:(Qc prog 169 m (Hb b m fn T todo ds kd ro cs) (Zc 9) (Qp 0)).info=some (Zc 9,Qp 0,#[],[(b,true)]):=K1
def FG:Gr:=(Qc prog 169 m (Hb b m fn T todo ds kd ro cs) (Zc 9) (Qp 0)).get (Hb b m fn T todo ds kd ro cs)
def PJ(b:Nat)(m:Bool)(fn:FuncId)(T:Array Value)(todo:List Item)(ds:List Deferred)(kd:CallKind)(ro:Option Nat)(cs:List Frame)(v:Value):Gr:=Yt (VM b m fn T todo ds kd ro cs) ((VM b m fn T todo ds kd ro cs).frame.tmps.setIfInBounds 6 v)
def RJ:VM b m fn T todo ds kd ro cs=PJ b m fn T todo ds kd ro cs (Zc 1):=K1
def RK:FG b m fn T todo ds kd ro cs=PJ b m fn T todo ds kd ro cs (Zc 9):=K1
end
section
variable(b:Nat)(m:Bool)(fn:FuncId)(T:Array Value)(todo:List Item)(ds:List Deferred)(kd:CallKind)(ro:Option Nat)(cs:List Frame)(v:Value)
def xD:Qm prog 169 m 5 (PJ b m fn T todo ds kd ro cs v)=some [(b,false),(b,false)]:=K1
def Y4:Gr:=Qj prog 169 m 5 (PJ b m fn T todo ds kd ro cs v)
def xu:(Qc prog 169 m (Y4 b m fn T todo ds kd ro cs v) undef undef).info=some (undef,undef,#[Z0 (.releaseMerge ⟨b,0,none⟩)],[]):=K1
def SG:Gr:=(Qc prog 169 m (Y4 b m fn T todo ds kd ro cs v) undef undef).get (Y4 b m fn T todo ds kd ro cs v)
def xw:Qm prog 169 m 2 (SG b m fn T todo ds kd ro cs v)=some []:=K1
def Y5:Gr:=Qj prog 169 m 2 (SG b m fn T todo ds kd ro cs v)
def xx:(Qc prog 169 m (Y5 b m fn T todo ds kd ro cs v) undef undef).info=some (undef,undef,#[Z0 .disable],[]):=K1
def SH:Gr:=(Qc prog 169 m (Y5 b m fn T todo ds kd ro cs v) undef undef).get (Y5 b m fn T todo ds kd ro cs v)
def xy:Qm prog 169 m 6 (SH b m fn T todo ds kd ro cs v)=some []:=K1
def Hc:Gr:=Qj prog 169 m 6 (SH b m fn T todo ds kd ro cs v)
def FH:(Qc prog 169 m (Hc b m fn T todo ds kd ro cs v) (Zc 1) (Qp 0)).info=some (Zc 0,Qp 0,#[Jc b 0,QA b 0],[(b,true),(b,true)]):=K1
def SI:Gr:=(Qc prog 169 m (Hc b m fn T todo ds kd ro cs v) (Zc 1) (Qp 0)).get (Hc b m fn T todo ds kd ro cs v)
def xB:Qm prog 169 m 11 (SI b m fn T todo ds kd ro cs v)=some []:=K1
def K9:Gr:=Qj prog 169 m 11 (SI b m fn T todo ds kd ro cs v)
def RL:(Qc prog 169 m (K9 b m fn T todo ds kd ro cs v) undef undef).info=some (undef,undef,#[Z0 .enable],[]):=K1
def Tv:Gr:=(Qc prog 169 m (K9 b m fn T todo ds kd ro cs v) undef undef).get (K9 b m fn T todo ds kd ro cs v)
def RM:Qm prog 169 m 6 (Tv b m fn T todo ds kd ro cs v)=some []:=K1
def RN:Qj prog 169 m 6 (Tv b m fn T todo ds kd ro cs v)=Rf { fn:=fn,tmps:=T,todo:=todo,defers:=ds,mode:=.returning,kind:=kd,roundOf:=ro } cs:=K1
def xA:(Qc prog 169 m (Hc b m fn T todo ds kd ro cs v) (Zc 9) (Qp 0)).info=some (Zc 8,Qp 0,#[Jc b 0,QA b 0],[(b,true),(b,true)]):=K1
def SJ:Gr:=(Qc prog 169 m (Hc b m fn T todo ds kd ro cs v) (Zc 9) (Qp 0)).get (Hc b m fn T todo ds kd ro cs v)
def xC:Qm prog 169 m 67 (SJ b m fn T todo ds kd ro cs v)=some []:=K1
def Pw:Gr:=Qj prog 169 m 67 (SJ b m fn T todo ds kd ro cs v)
def F2:(Qc prog 169 m (Pw b m fn T todo ds kd ro cs v) (Zc 8) (Qp 0)).info=some (Zc 2,Qp 0,#[Jc b 0,QA b 0],[(b,true),(b,true),(b,false),(b,false)]):=K1
def T0:Gr:=(Qc prog 169 m (Pw b m fn T todo ds kd ro cs v) (Zc 8) (Qp 0)).get (Pw b m fn T todo ds kd ro cs v)
def RO:Qm prog 169 m 7 (T0 b m fn T todo ds kd ro cs v)=some []:=K1
def G7:Gr:=Qj prog 169 m 7 (T0 b m fn T todo ds kd ro cs v)
def RP:mayWake prog (G7 b m fn T todo ds kd ro cs v)=true:=K1
def EW:(Qc prog 169 m (G7 b m fn T todo ds kd ro cs v) (Zc 2) (Qp 0)).info=some (Zc 2,Qp 1,#[Z0 .disable,Jc b 1,QA b 1,Z0 .enable],[(b,true),(b,true)]):=K1
def T4:Gr:=(Qc prog 169 m (G7 b m fn T todo ds kd ro cs v) (Zc 2) (Qp 0)).get (G7 b m fn T todo ds kd ro cs v)
def RQ:Qm prog 169 m 5 (T4 b m fn T todo ds kd ro cs v)=some []:=K1
def Ka:Gr:=Qj prog 169 m 5 (T4 b m fn T todo ds kd ro cs v)
def RR:(Qc prog 169 m (Ka b m fn T todo ds kd ro cs v) undef undef).info=some (undef,undef,#[Z0 .enable],[]):=K1
def T5:Gr:=(Qc prog 169 m (Ka b m fn T todo ds kd ro cs v) undef undef).get (Ka b m fn T todo ds kd ro cs v)
def RS:Qm prog 169 m 6 (T5 b m fn T todo ds kd ro cs v)=some []:=K1
def RT:Qj prog 169 m 6 (T5 b m fn T todo ds kd ro cs v)=Rf { fn:=fn,tmps:=T,todo:=todo,defers:=ds,mode:=.returning,kind:=kd,roundOf:=ro } cs:=K1
end
end Go.Proofs
namespace Go.Proofs
open Go.TM
open Go.Conc (QuitsD)
section
variable(b:Nat)(m:Bool)(c:Frame)(cs:List Frame)
noncomputable def Sg(b:Nat)(_:Bool)(c:Frame)(cs:List Frame):Gr:=Rf (Frame.enter prog 97 #[.pointer (some ⟨b,0,none⟩)] .normal) (c::cs)
def Bs:Qm prog 176 m 3 (Sg b m c cs)=some []:=K1
def Kj:Gr:=Qj prog 176 m 3 (Sg b m c cs)
def Bt:(Qc prog 176 m (Kj b m c cs) undef undef).info=some (undef,undef,#[Z0 .disable],[]):=K1
def Si:Gr:=(Qc prog 176 m (Kj b m c cs) undef undef).get (Kj b m c cs)
def Bu:Qm prog 176 m 19 (Si b m c cs)=some []:=K1
def Kk:Gr:=Qj prog 176 m 19 (Si b m c cs)
def oq(g:Gr)(t:Array Value):Gr:={ g with callers:=match g.callers with|w::r=>{ w with tmps:=t }::r|[]=>[] }
def HM(g:Gr):Array Value:=match g.callers with|w::_=>w.tmps|[]=>#[]
def y_(b:Nat)(x:Nat->Value):Array Value:=#[.pointer (some ⟨b,0,none⟩),x 1,x 2,x 3,x 4,x 5,x 6,x 7,x 8,x 9,x 10,x 11,x 12,x 13,x 14,x 15,x 16,x 17,x 18,x 19,x 20,x 21,x 22,x 23,x 24,x 25,x 26,x 27,x 28,x 29,x 30,x 31,x 32,x 33,x 34,x 35,x 36,x 37,x 38,x 39,x 40,x 41,x 42,x 43,x 44,x 45,x 46,x 47,x 48,x 49,x 50,x 51,x 52,x 53,x 54,x 55,x 56,x 57,x 58,x 59,x 60,x 61,x 62,x 63,x 64,x 65,x 66,x 67,x 68,x 69,x 70,x 71,x 72,x 73,x 74,x 75,x 76,x 77,x 78,x 79,x 80,x 81,x 82,x 83]
end
section
variable(b:Nat)(m:Bool)(c:Frame)(cs:List Frame)(x:Nat->Value)
def Zg(b:Nat)(m:Bool)(c:Frame)(cs:List Frame)(x:Nat->Value):Gr:=oq (Kk b m c cs) (y_ b x)
def Nh:Kk b m c cs=Zg b m c cs (λ i=>(HM (Kk b m c cs)).getD i undef):=K1
def wS:(Qc prog 176 m (Zg b m c cs x) (Q0 0 0) (Qp 0)).info=some (Q0 0 0,Qp 0,#[Jc b 0],[(b,true)]):=K1
def Sj:Gr:=(Qc prog 176 m (Zg b m c cs x) (Q0 0 0) (Qp 0)).get (Zg b m c cs x)
def By:Qm prog 176 m 31 (Sj b m c cs x)=some []:=K1
def Kl:Gr:=Qj prog 176 m 31 (Sj b m c cs x)
def Bz:(Qc prog 176 m (Kl b m c cs x) undef undef).info=some (undef,undef,#[Z0 .enable],[]):=K1
def Sk:Gr:=(Qc prog 176 m (Kl b m c cs x) undef undef).get (Kl b m c cs x)
def jk:Qm prog 176 m 4 (Sk b m c cs x)=some [(b,false),(b,false)]:=K1
def Km:Gr:=Qj prog 176 m 4 (Sk b m c cs x)
def jm:(Qc prog 176 m (Km b m c cs x) undef undef).info=some (undef,undef,#[Z0 (.acquire ⟨b,0,none⟩)],[]):=K1
def Sl:Gr:=(Qc prog 176 m (Km b m c cs x) undef undef).get (Km b m c cs x)
def jn:Qm prog 176 m 20 (Sl b m c cs x)=some []:=K1
def jo:Qj prog 176 m 20 (Sl b m c cs x)=Rf (c.finish (.tuple #[])) cs:=K1
end
end Go.Proofs
end

