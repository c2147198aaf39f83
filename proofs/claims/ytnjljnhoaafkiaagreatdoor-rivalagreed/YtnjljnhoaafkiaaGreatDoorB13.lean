/- Lemmas. No conditions. -/
import Derived.Test.YtnjljnhoaafkiaaGreatDoorProg
import Derived.Test.YtnjljnhoaafkiaaGreatDoorB11
set_option linter.all false
set_option maxRecDepth 100000
open Go.Proofs.Tryz (prog)
noncomputable section
namespace Go.TM
open Go.Proofs
section
variable(b:Nat)(m:Bool)(c:Frame)(cs:List Frame)
def Yx(g:Gr)(t:Array Value):Gr:={ g with frame:={ g.frame with tmps:=t } }
def ZM(g:Gr)(i:Nat):Value:=g.frame.tmps.getD i undef
def Lw:Value->Bool
 |.bool b=>b
 |_=>false
def Xk:Value->Int
 |.int _ n=>n
 |_=>0
def Tt(b:Nat)(_:Bool)(c:Frame)(cs:List Frame):Gr:=Rf (Frame.enter prog 92 #[.pb b] .normal) (c::cs)
def NW:Qm prog 169 m 7 (Tt b m c cs)=some []:=K1
def K8:Gr:=Qj prog 169 m 7 (Tt b m c cs)
def NX:(Qc prog 169 m (K8 b m c cs) undef undef).info=some (undef,undef,#[Z0 .disable],[]):=K1
def Tu:Gr:=(Qc prog 169 m (K8 b m c cs) undef undef).get (K8 b m c cs)
def NY:Qm prog 169 m 7 (Tu b m c cs)=some []:=K1
def H9:Gr:=Qj prog 169 m 7 (Tu b m c cs)
def Oc:(Qc prog 169 m (H9 b m c cs) (Zb 0) (Qp 0)).info=some (Zb 1,Qp 0,#[Jc b 0,QA b 0],[(b,true),(b,true),(b,false),(b,false)]):=K1
def Tv:Gr:=(Qc prog 169 m (H9 b m c cs) (Zb 0) (Qp 0)).get (H9 b m c cs)
def NZ:(Qc prog 169 m (H9 b m c cs) (Zb 1) (Qp 0)).info=some (Zb 1,Qp 0,#[Jc b 0],[(b,true),(b,false),(b,false)]):=K1
def Pv:Gr:=(Qc prog 169 m (H9 b m c cs) (Zb 1) (Qp 0)).get (H9 b m c cs)
def N_:Qm prog 169 m 6 (Tv b m c cs)=some []:=K1
def K9:Gr:=Qj prog 169 m 6 (Tv b m c cs)
def R0:(Qc prog 169 m (K9 b m c cs) undef undef).info=some (undef,undef,#[Z0 .enable],[]):=K1
def Tw:Gr:=(Qc prog 169 m (K9 b m c cs) undef undef).get (K9 b m c cs)
def R1:Qm prog 169 m 4 (Tw b m c cs)=some [(b,false),(b,false)]:=K1
def Ka:Gr:=Qj prog 169 m 4 (Tw b m c cs)
def R2:(Qc prog 169 m (Ka b m c cs) undef undef).info=some (undef,undef,#[Z0 (.acquire ⟨b,0,none⟩)],[]):=K1
def Tx:Gr:=(Qc prog 169 m (Ka b m c cs) undef undef).get (Ka b m c cs)
def R3:Qm prog 169 m 6 (Tx b m c cs)=some []:=K1
def R4:Qj prog 169 m 6 (Tx b m c cs)=Rf (c.finish (.tuple #[])) cs:=K1
def Ro:Qm prog 169 m 6 (Pv b m c cs)=some []:=K1
def TA(b:Nat)(m:Bool)(c:Frame)(cs:List Frame):Frame:=(Qj prog 169 m 6 (Pv b m c cs)).callers.headD default
def TB(b:Nat)(m:Bool)(c:Frame)(cs:List Frame):List Frame:=(Qj prog 169 m 6 (Pv b m c cs)).callers.tail
def Rp:Qj prog 169 m 6 (Pv b m c cs)=Rf (Frame.enter prog 151 #[.pb b] .normal) (TA b m c cs::TB b m c cs):=K1
def Rq:Qm prog 169 m 6 (Rf ((TA b m c cs).finish (.tuple #[])) (TB b m c cs))=some []:=K1
def Rr:Qj prog 169 m 6 (Rf ((TA b m c cs).finish (.tuple #[])) (TB b m c cs))=Rf (c.finish (.tuple #[])) cs:=K1
def SL(b:Nat)(_:Bool)(c:Frame)(cs:List Frame):Gr:=Rf (Frame.enter prog 151 #[.pb b] .normal) (c::cs)
def jL:Qm prog 169 m 21 (SL b m c cs)=some []:=K1
def Hj:Gr:=Qj prog 169 m 21 (SL b m c cs)
def Ic:(Qc prog 169 m (Hj b m c cs) (Zb 1) (Qp 0)).info=some (Zb 1,Qp 0,#[],[(b,true)]):=K1
def Pn:Gr:=(Qc prog 169 m (Hj b m c cs) (Zb 1) (Qp 0)).get (Hj b m c cs)
def Rm:Qm prog 169 m 5 (Pn b m c cs)=some []:=K1
def jM:(Qc prog 169 m (Hj b m c cs) (Zb 0) (Qp 0)).info=some (Zb 0,Qp 0,#[],[(b,true)]):=K1
def K0:Gr:=(Qc prog 169 m (Hj b m c cs) (Zb 0) (Qp 0)).get (Hj b m c cs)
def Rk:Qm prog 169 m 5 (K0 b m c cs)=some []:=K1
def kY(b:Nat)(ws st f it h:Value)(x:Nat->Value):Array Value:=#[.pb b,x 1,ws,st,f,it,h,x 7,x 8,x 9,x 10,x 11,x 12,x 13,x 14,x 15,x 16,x 17,x 18,x 19,x 20,x 21,x 22,x 23,x 24,x 25,x 26,x 27,x 28,x 29,x 30,x 31,x 32,x 33,x 34,x 35,x 36,x 37,x 38,x 39,x 40,x 41,x 42,x 43,x 44,x 45,x 46,x 47,x 48,x 49,x 50,x 51,x 52,x 53,x 54,x 55,x 56,x 57,x 58,x 59,x 60,x 61,x 62,x 63,x 64,x 65,x 66,x 67,x 68,x 69,x 70,x 71,x 72,x 73,x 74,x 75,x 76,x 77,x 78,x 79,x 80,x 81,x 82,x 83,x 84,x 85,x 86,x 87,x 88,x 89,x 90,x 91,x 92,x 93,x 94,x 95,x 96,x 97,x 98,x 99,x 100,x 101,x 102,x 103,x 104,x 105,x 106,x 107,x 108,x 109,x 110,x 111,x 112,x 113,x 114,x 115,x 116,x 117,x 118,x 119,x 120,x 121,x 122,x 123,x 124,x 125,x 126,x 127,x 128,x 129,x 130,x 131,x 132,x 133,x 134,x 135,x 136,x 137,x 138]
def Jb(b:Nat)(m:Bool)(c:Frame)(cs:List Frame)(ws st f it h:Value)(x:Nat->Value):Gr:=Yx (Qj prog 169 m 5 (Pn b m c cs)) (kY b ws st f it h x)
def Rn:Qj prog 169 m 5 (Pn b m c cs)=Jb b m c cs (.int .i64 0) (.bool false) (.bool false) (.int .i64 0) (Zb 1) (ZM (Qj prog 169 m 5 (Pn b m c cs))):=K1
def Rl:Qj prog 169 m 5 (K0 b m c cs)=Jb b m c cs (.int .i64 0) (.bool false) (.bool false) (.int .i64 0) (Zb 0) (ZM (Qj prog 169 m 5 (K0 b m c cs))):=K1
end
section
variable(b:Nat)(m:Bool)(c:Frame)(cs:List Frame)(x:Nat->Value)(ws it:Value)
def xT:Qm prog 169 m 67 (Jb b m c cs ws (.bool false) (.bool false) it (Zb 0) x)=some []:=K1
def PN:Gr:=Qj prog 169 m 67 (Jb b m c cs ws (.bool false) (.bool false) it (Zb 0) x)
def FL:(Qc prog 169 m (PN b m c cs x ws it) (Zb 0) (Qp 0)).info=some (Zb 1,Qp 0,#[Jc b 0,QA b 0],[(b,true),(b,true),(b,false),(b,false)]):=K1
def PO:Gr:=(Qc prog 169 m (PN b m c cs x ws it) (Zb 0) (Qp 0)).get (PN b m c cs x ws it)
def wn:Qm prog 169 m 14 (PO b m c cs x ws it)=some []:=K1
end
section
variable(b:Nat)(m:Bool)(c:Frame)(cs:List Frame)(x:Nat->Value)
def kX(b:Nat)(x:Nat->Value):Array Value:=#[.pb b,x 1,x 2,x 3,x 4,x 5,x 6,x 7,x 8,x 9,x 10,x 11,x 12,x 13,x 14,x 15,x 16,x 17,x 18,x 19,x 20,x 21,x 22,x 23,x 24,x 25,x 26,x 27,x 28,x 29,x 30,x 31,x 32,x 33,x 34,x 35,x 36,x 37,x 38,x 39,x 40,x 41,x 42,x 43,x 44,x 45,x 46,x 47,x 48,x 49,x 50,x 51,x 52,x 53,x 54,x 55,x 56,x 57,x 58,x 59,x 60,x 61,x 62,x 63,x 64,x 65,x 66,x 67,x 68,x 69,x 70,x 71,x 72,x 73,x 74,x 75,x 76,x 77,x 78,x 79,x 80,x 81,x 82,x 83,x 84,x 85,x 86,x 87,x 88,x 89,x 90,x 91,x 92,x 93,x 94,x 95,x 96,x 97,x 98,x 99,x 100,x 101,x 102,x 103,x 104,x 105,x 106,x 107,x 108,x 109,x 110,x 111,x 112,x 113,x 114,x 115,x 116,x 117,x 118,x 119,x 120,x 121,x 122,x 123,x 124,x 125,x 126,x 127,x 128,x 129,x 130,x 131,x 132,x 133,x 134,x 135,x 136,x 137,x 138]
def HK(b:Nat)(m:Bool)(c:Frame)(cs:List Frame)(x:Nat->Value):Gr:=Yx (Qj prog 169 m 14 (PO b m c cs (λ _=>undef) (.int .i64 0) (.int .i64 0))) (kX b x)
def wq(ws it:Value):Qj prog 169 m 14 (PO b m c cs x ws it)=HK b m c cs (ZM (Qj prog 169 m 14 (PO b m c cs x ws it))):=K1
def jQ:(Qc prog 169 m (HK b m c cs x) undef undef).info=some (undef,undef,#[Z0 .enable],[]):=K1
def T5:Gr:=(Qc prog 169 m (HK b m c cs x) undef undef).get (HK b m c cs x)
def NQ:Qm prog 169 m 4 (T5 b m c cs x)=some [(b,false),(b,false)]:=K1
def Kg:Gr:=Qj prog 169 m 4 (T5 b m c cs x)
def NR:(Qc prog 169 m (Kg b m c cs x) undef undef).info=some (undef,undef,#[Z0 (.acquire ⟨b,0,none⟩)],[]):=K1
def T6:Gr:=(Qc prog 169 m (Kg b m c cs x) undef undef).get (Kg b m c cs x)
def NS:Qm prog 169 m 3 (T6 b m c cs x)=some []:=K1
def NT:Qj prog 169 m 3 (T6 b m c cs x)=Rf (c.finish (.tuple #[])) cs:=K1
end
section
variable(b:Nat)(m:Bool)(fn:FuncId)(T:Array Value)(todo:List Item)(ds:List Deferred)(kd:CallKind)(ro:Option Nat)(cs:List Frame)
def SM(b:Nat)(_:Bool)(fn:FuncId)(T:Array Value)(todo:List Item)(ds:List Deferred)(kd:CallKind)(ro:Option Nat)(cs:List Frame):Gr:=Rf (Frame.enter prog 93 #[.pb b] .deferred) ({ fn:=fn,tmps:=T,todo:=todo,defers:=ds,mode:=.returning,kind:=kd,roundOf:=ro }::cs)
def wB:Qm prog 169 m 12 (SM b m fn T todo ds kd ro cs)=some []:=K1
def He:Gr:=Qj prog 169 m 12 (SM b m fn T todo ds kd ro cs)
def Ij:(Qc prog 169 m (He b m fn T todo ds kd ro cs) (Zb 1) (Qp 0)).info=some (Zb 1,Qp 0,#[],[(b,true)]):=K1
def VP:Gr:=(Qc prog 169 m (He b m fn T todo ds kd ro cs) (Zb 1) (Qp 0)).get (He b m fn T todo ds kd ro cs)
def wD:(Qc prog 169 m (He b m fn T todo ds kd ro cs) (Zb 9) (Qp 0)).info=some (Zb 9,Qp 0,#[],[(b,true)]):=K1
def FG:Gr:=(Qc prog 169 m (He b m fn T todo ds kd ro cs) (Zb 9) (Qp 0)).get (He b m fn T todo ds kd ro cs)
def PL(b:Nat)(m:Bool)(fn:FuncId)(T:Array Value)(todo:List Item)(ds:List Deferred)(kd:CallKind)(ro:Option Nat)(cs:List Frame)(v:Value):Gr:=Yx (VP b m fn T todo ds kd ro cs) ((VP b m fn T todo ds kd ro cs).frame.tmps.setIfInBounds 6 v)
def R7:VP b m fn T todo ds kd ro cs=PL b m fn T todo ds kd ro cs (Zb 1):=K1
def R8:FG b m fn T todo ds kd ro cs=PL b m fn T todo ds kd ro cs (Zb 9):=K1
end
section
variable(b:Nat)(m:Bool)(fn:FuncId)(T:Array Value)(todo:List Item)(ds:List Deferred)(kd:CallKind)(ro:Option Nat)(cs:List Frame)(v:Value)
def wM:Qm prog 169 m 5 (PL b m fn T todo ds kd ro cs v)=some [(b,false),(b,false)]:=K1
def Y5:Gr:=Qj prog 169 m 5 (PL b m fn T todo ds kd ro cs v)
def wE:(Qc prog 169 m (Y5 b m fn T todo ds kd ro cs v) undef undef).info=some (undef,undef,#[Z0 (.releaseMerge ⟨b,0,none⟩)],[]):=K1
def SN:Gr:=(Qc prog 169 m (Y5 b m fn T todo ds kd ro cs v) undef undef).get (Y5 b m fn T todo ds kd ro cs v)
def wF:Qm prog 169 m 2 (SN b m fn T todo ds kd ro cs v)=some []:=K1
def Y6:Gr:=Qj prog 169 m 2 (SN b m fn T todo ds kd ro cs v)
def wG:(Qc prog 169 m (Y6 b m fn T todo ds kd ro cs v) undef undef).info=some (undef,undef,#[Z0 .disable],[]):=K1
def SO:Gr:=(Qc prog 169 m (Y6 b m fn T todo ds kd ro cs v) undef undef).get (Y6 b m fn T todo ds kd ro cs v)
def wH:Qm prog 169 m 6 (SO b m fn T todo ds kd ro cs v)=some []:=K1
def Hf:Gr:=Qj prog 169 m 6 (SO b m fn T todo ds kd ro cs v)
def FH:(Qc prog 169 m (Hf b m fn T todo ds kd ro cs v) (Zb 1) (Qp 0)).info=some (Zb 0,Qp 0,#[Jc b 0,QA b 0],[(b,true),(b,true)]):=K1
def SP:Gr:=(Qc prog 169 m (Hf b m fn T todo ds kd ro cs v) (Zb 1) (Qp 0)).get (Hf b m fn T todo ds kd ro cs v)
def wK:Qm prog 169 m 11 (SP b m fn T todo ds kd ro cs v)=some []:=K1
def Kc:Gr:=Qj prog 169 m 11 (SP b m fn T todo ds kd ro cs v)
def R9:(Qc prog 169 m (Kc b m fn T todo ds kd ro cs v) undef undef).info=some (undef,undef,#[Z0 .enable],[]):=K1
def TC:Gr:=(Qc prog 169 m (Kc b m fn T todo ds kd ro cs v) undef undef).get (Kc b m fn T todo ds kd ro cs v)
def Ra:Qm prog 169 m 6 (TC b m fn T todo ds kd ro cs v)=some []:=K1
def Rb:Qj prog 169 m 6 (TC b m fn T todo ds kd ro cs v)=Rf { fn:=fn,tmps:=T,todo:=todo,defers:=ds,mode:=.returning,kind:=kd,roundOf:=ro } cs:=K1
def wJ:(Qc prog 169 m (Hf b m fn T todo ds kd ro cs v) (Zb 9) (Qp 0)).info=some (Zb 8,Qp 0,#[Jc b 0,QA b 0],[(b,true),(b,true)]):=K1
def SQ:Gr:=(Qc prog 169 m (Hf b m fn T todo ds kd ro cs v) (Zb 9) (Qp 0)).get (Hf b m fn T todo ds kd ro cs v)
def wL:Qm prog 169 m 67 (SQ b m fn T todo ds kd ro cs v)=some []:=K1
def Py:Gr:=Qj prog 169 m 67 (SQ b m fn T todo ds kd ro cs v)
def E_:(Qc prog 169 m (Py b m fn T todo ds kd ro cs v) (Zb 8) (Qp 0)).info=some (Zb 2,Qp 0,#[Jc b 0,QA b 0],[(b,true),(b,true),(b,false),(b,false)]):=K1
def TD:Gr:=(Qc prog 169 m (Py b m fn T todo ds kd ro cs v) (Zb 8) (Qp 0)).get (Py b m fn T todo ds kd ro cs v)
def Rc:Qm prog 169 m 7 (TD b m fn T todo ds kd ro cs v)=some []:=K1
def Gb:Gr:=Qj prog 169 m 7 (TD b m fn T todo ds kd ro cs v)
def Rd:mayWake prog (Gb b m fn T todo ds kd ro cs v)=true:=K1
def F2:(Qc prog 169 m (Gb b m fn T todo ds kd ro cs v) (Zb 2) (Qp 0)).info=some (Zb 2,Qp 1,#[Z0 .disable,Jc b 1,QA b 1,Z0 .enable],[(b,true),(b,true)]):=K1
def TE:Gr:=(Qc prog 169 m (Gb b m fn T todo ds kd ro cs v) (Zb 2) (Qp 0)).get (Gb b m fn T todo ds kd ro cs v)
def Re:Qm prog 169 m 5 (TE b m fn T todo ds kd ro cs v)=some []:=K1
def Kd:Gr:=Qj prog 169 m 5 (TE b m fn T todo ds kd ro cs v)
def Rg:(Qc prog 169 m (Kd b m fn T todo ds kd ro cs v) undef undef).info=some (undef,undef,#[Z0 .enable],[]):=K1
def Tc:Gr:=(Qc prog 169 m (Kd b m fn T todo ds kd ro cs v) undef undef).get (Kd b m fn T todo ds kd ro cs v)
def Rh:Qm prog 169 m 6 (Tc b m fn T todo ds kd ro cs v)=some []:=K1
def RS:Qj prog 169 m 6 (Tc b m fn T todo ds kd ro cs v)=Rf { fn:=fn,tmps:=T,todo:=todo,defers:=ds,mode:=.returning,kind:=kd,roundOf:=ro } cs:=K1
end
section
open Go.Conc (QuitsD)
variable(b:Nat)(m:Bool)(c:Frame)(cs:List Frame)
def So(b:Nat)(_:Bool)(c:Frame)(cs:List Frame):Gr:=Rf (Frame.enter prog 97 #[.pb b] .normal) (c::cs)
def C1:Qm prog 176 m 3 (So b m c cs)=some []:=K1
def Kl:Gr:=Qj prog 176 m 3 (So b m c cs)
def C2:(Qc prog 176 m (Kl b m c cs) undef undef).info=some (undef,undef,#[Z0 .disable],[]):=K1
def Sp:Gr:=(Qc prog 176 m (Kl b m c cs) undef undef).get (Kl b m c cs)
def C3:Qm prog 176 m 19 (Sp b m c cs)=some []:=K1
def Km:Gr:=Qj prog 176 m 19 (Sp b m c cs)
def kL(g:Gr)(t:Array Value):Gr:={ g with callers:=match g.callers with|w::r=>{ w with tmps:=t }::r|[]=>[] }
def HR(g:Gr):Array Value:=match g.callers with|w::_=>w.tmps|[]=>#[]
def ki(b:Nat)(x:Nat->Value):Array Value:=#[.pb b,x 1,x 2,x 3,x 4,x 5,x 6,x 7,x 8,x 9,x 10,x 11,x 12,x 13,x 14,x 15,x 16,x 17,x 18,x 19,x 20,x 21,x 22,x 23,x 24,x 25,x 26,x 27,x 28,x 29,x 30,x 31,x 32,x 33,x 34,x 35,x 36,x 37,x 38,x 39,x 40,x 41,x 42,x 43,x 44,x 45,x 46,x 47,x 48,x 49,x 50,x 51,x 52,x 53,x 54,x 55,x 56,x 57,x 58,x 59,x 60,x 61,x 62,x 63,x 64,x 65,x 66,x 67,x 68,x 69,x 70,x 71,x 72,x 73,x 74,x 75,x 76,x 77,x 78,x 79,x 80,x 81,x 82,x 83]
end
section
open Go.Conc (QuitsD)
variable(b:Nat)(m:Bool)(c:Frame)(cs:List Frame)(x:Nat->Value)
def Zh(b:Nat)(m:Bool)(c:Frame)(cs:List Frame)(x:Nat->Value):Gr:=kL (Km b m c cs) (ki b x)
def Nl:Km b m c cs=Zh b m c cs (λ i=>(HR (Km b m c cs)).getD i undef):=K1
def wZ:(Qc prog 176 m (Zh b m c cs x) (Q0 0 0) (Qp 0)).info=some (Q0 0 0,Qp 0,#[Jc b 0],[(b,true)]):=K1
def Sq:Gr:=(Qc prog 176 m (Zh b m c cs x) (Q0 0 0) (Qp 0)).get (Zh b m c cs x)
def C7:Qm prog 176 m 31 (Sq b m c cs x)=some []:=K1
def Ko:Gr:=Qj prog 176 m 31 (Sq b m c cs x)
def C8:(Qc prog 176 m (Ko b m c cs x) undef undef).info=some (undef,undef,#[Z0 .enable],[]):=K1
def Sr:Gr:=(Qc prog 176 m (Ko b m c cs x) undef undef).get (Ko b m c cs x)
def C9:Qm prog 176 m 4 (Sr b m c cs x)=some [(b,false),(b,false)]:=K1
def Kp:Gr:=Qj prog 176 m 4 (Sr b m c cs x)
def Ca:(Qc prog 176 m (Kp b m c cs x) undef undef).info=some (undef,undef,#[Z0 (.acquire ⟨b,0,none⟩)],[]):=K1
def Ss:Gr:=(Qc prog 176 m (Kp b m c cs x) undef undef).get (Kp b m c cs x)
def BD:Qm prog 176 m 20 (Ss b m c cs x)=some []:=K1
def BE:Qj prog 176 m 20 (Ss b m c cs x)=Rf (c.finish (.tuple #[])) cs:=K1
