/- Lemmas. No conditions. -/
import Derived.Test.YtnpfcnfhfkflhaaGreatDoorB15
set_option linter.all false
open Go.Proofs.Tryz (prog)
set_option maxRecDepth 100000
noncomputable section
namespace Go.Proofs
open Go.TM
section
variable(b:Nat)(m:Bool)(c:Frame)(cs:List Frame)(x:Nat->Value)(k:Int)
def xA:Qm prog 202 m 9 (Jf b m c cs (.int .i64 0) (.bool false) (.bool false) (.int .i64 k) (Zc 1) x)=some []:=K1
def Ga:Gr:=Qi prog 202 m 9 (Jf b m c cs (.int .i64 0) (.bool false) (.bool false) (.int .i64 k) (Zc 1) x)
def gx:WW prog (Ga b m c cs x k) 227 #[.int .i64 k]:=⟨K1,K1,K1,K1,K1⟩
def te:Qm prog 202 m 45 (aft (Ga b m c cs x k) (.bool true))=some []:=K1
def Ht:Gr:=Qi prog 202 m 45 (aft (Ga b m c cs x k) (.bool true))
def Fb:(Qc prog 202 m (Ht b m c cs x k) (Zc 1) (Qq 0)).info=some (Zc 1,Qq 0,#[],[(b,true)]):=K1
def GA:Gr:=(Qc prog 202 m (Ht b m c cs x k) (Zc 1) (Qq 0)).get (Ht b m c cs x k)
def AT:Qm prog 202 m 4 (GA b m c cs x k)=some []:=K1
def yP:Qi prog 202 m 4 (GA b m c cs x k)=Jf b m c cs (.int .i64 0) (.bool false) (.bool false) (.int .i64 (Xm (ZP (Qi prog 202 m 4 (GA b m c cs x k)) 5))) (Zc 1) (ZP (Qi prog 202 m 4 (GA b m c cs x k))):=K1
def pP:(Qc prog 202 m (Ht b m c cs x k) (Zc 0) (Qq 0)).info=some (Zc 0,Qq 0,#[],[(b,true)]):=K1
def V5:Gr:=(Qc prog 202 m (Ht b m c cs x k) (Zc 0) (Qq 0)).get (Ht b m c cs x k)
def yS:Qm prog 202 m 4 (V5 b m c cs x k)=some []:=K1
def CI:Qi prog 202 m 4 (V5 b m c cs x k)=Jf b m c cs (.int .i64 0) (.bool false) (.bool false) (.int .i64 (Xm (ZP (Qi prog 202 m 4 (V5 b m c cs x k)) 5))) (Zc 0) (ZP (Qi prog 202 m 4 (V5 b m c cs x k))):=K1
def CK:Qm prog 202 m 61 (aft (Ga b m c cs x k) (.bool false))=some []:=K1
def Hw:Gr:=Qi prog 202 m 61 (aft (Ga b m c cs x k) (.bool false))
def F_:(Qc prog 202 m (Hw b m c cs x k) (Zc 1) (Qq 0)).info=some (Zc 9,Qq 0,#[Jg b 0,QB b 0],[(b,true),(b,true),(b,false),(b,false)]):=K1
def K8:Gr:=(Qc prog 202 m (Hw b m c cs x k) (Zc 1) (Qq 0)).get (Hw b m c cs x k)
def qV:Qm prog 202 m 25 (K8 b m c cs x k)=some []:=K1
def BT:(Qc prog 202 m (Hw b m c cs x k) (Zc 0) (Qq 0)).info=some (Zc 0,Qq 0,#[Jg b 0],[(b,true),(b,false),(b,false)]):=K1
def Ob:Gr:=(Qc prog 202 m (Hw b m c cs x k) (Zc 0) (Qq 0)).get (Hw b m c cs x k)
def Rg:Qm prog 202 m 6 (Ob b m c cs x k)=some []:=K1
def GQ:Gr:=Qi prog 202 m 6 (Ob b m c cs x k)
def LO:(Qc prog 202 m (GQ b m c cs x k) (Zc 0) (Qq 0)).info=some (Zc 0,Qq 0,#[],[(b,true)]):=K1
def PX:Gr:=(Qc prog 202 m (GQ b m c cs x k) (Zc 0) (Qq 0)).get (GQ b m c cs x k)
def Ro:Qm prog 202 m 4 (PX b m c cs x k)=some []:=K1
def jX:Qi prog 202 m 4 (PX b m c cs x k)=Jf b m c cs (.int .i64 0) (.bool false) (.bool false) (ZP (Qi prog 202 m 4 (PX b m c cs x k)) 5) (Zc 0) (ZP (Qi prog 202 m 4 (PX b m c cs x k))):=K1
end
section
variable(b:Nat)(m:Bool)(c:Frame)(cs:List Frame)(x:Nat->Value)
def C8:Qm prog 202 m 71 (Jf b m c cs (.int .i64 0) (.bool false) (.bool false) (.int .i64 4) (Zc 1) x)=some []:=K1
def Hs:Gr:=Qi prog 202 m 71 (Jf b m c cs (.int .i64 0) (.bool false) (.bool false) (.int .i64 4) (Zc 1) x)
def DG:(Qc prog 202 m (Hs b m c cs x) (Zc 1) (Qq 0)).info=some (Zc 9,Qq 0,#[Jg b 0,QB b 0],[(b,true),(b,true),(b,false),(b,false)]):=K1
def Pk:Gr:=(Qc prog 202 m (Hs b m c cs x) (Zc 1) (Qq 0)).get (Hs b m c cs x)
def pU:Qm prog 202 m 25 (Pk b m c cs x)=some []:=K1
def wY:(Qc prog 202 m (Hs b m c cs x) (Zc 0) (Qq 0)).info=some (Zc 0,Qq 0,#[Jg b 0],[(b,true),(b,false),(b,false)]):=K1
def O8:Gr:=(Qc prog 202 m (Hs b m c cs x) (Zc 0) (Qq 0)).get (Hs b m c cs x)
def BA:Qm prog 202 m 6 (O8 b m c cs x)=some []:=K1
def V4:Gr:=Qi prog 202 m 6 (O8 b m c cs x)
def Io:(Qc prog 202 m (V4 b m c cs x) (Zc 0) (Qq 0)).info=some (Zc 0,Qq 0,#[],[(b,true)]):=K1
def PZ:Gr:=(Qc prog 202 m (V4 b m c cs x) (Zc 0) (Qq 0)).get (V4 b m c cs x)
def Na:Qm prog 202 m 4 (PZ b m c cs x)=some []:=K1
def jx:Qi prog 202 m 4 (PZ b m c cs x)=Jf b m c cs (.int .i64 0) (.bool false) (.bool false) (ZP (Qi prog 202 m 4 (PZ b m c cs x)) 5) (Zc 0) (ZP (Qi prog 202 m 4 (PZ b m c cs x))):=K1
def qJ(b:Nat)(x:Nat->Value):Array Value:=#[.pointer (some ⟨b,0,none⟩),x 1,x 2,.bool false,x 4,x 5,x 6,x 7,x 8,x 9,x 10,x 11,x 12,x 13,x 14,x 15,x 16,x 17,x 18,x 19,x 20,x 21,x 22,x 23,x 24,x 25,x 26,x 27,x 28,x 29,x 30,x 31,x 32,x 33,x 34,x 35,x 36,x 37,x 38,x 39,x 40,x 41,x 42,x 43,x 44,x 45,x 46,x 47,x 48,x 49,x 50,x 51,x 52,x 53,x 54,x 55,x 56,x 57,x 58,x 59,x 60,x 61,x 62,x 63,x 64,x 65,x 66,x 67,x 68,x 69,x 70,x 71,x 72,x 73,x 74,x 75,x 76,x 77,x 78,x 79,x 80,x 81,x 82,x 83,x 84,x 85,x 86,x 87,x 88,x 89,x 90,x 91,x 92,x 93,x 94,x 95,x 96,x 97,x 98,x 99,x 100,x 101,x 102,x 103,x 104,x 105,x 106,x 107,x 108,x 109,x 110,x 111,x 112,x 113,x 114,x 115,x 116,x 117,x 118,x 119,x 120,x 121,x 122,x 123,x 124,x 125,x 126,x 127,x 128,x 129,x 130,x 131,x 132,x 133,x 134,x 135,x 136,x 137,x 138]
def H_(b:Nat)(m:Bool)(c:Frame)(cs:List Frame)(x:Nat->Value):Gr:=Vt (Qi prog 202 m 25 (Pk b m c cs (λ _=>undef))) (qJ b x)
def tn:Qi prog 202 m 25 (Pk b m c cs x)=H_ b m c cs (ZP (Qi prog 202 m 25 (Pk b m c cs x))):=K1
def BJ(k:Int):Qi prog 202 m 25 (K8 b m c cs x k)=H_ b m c cs (ZP (Qi prog 202 m 25 (K8 b m c cs x k))):=K1
end
end Go.Proofs
end

