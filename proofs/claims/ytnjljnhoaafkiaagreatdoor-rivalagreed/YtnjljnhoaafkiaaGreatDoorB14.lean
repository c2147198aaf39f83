/- Lemmas. No conditions. -/
import Derived.Test.YtnjljnhoaafkiaaGreatDoorB13
set_option linter.all false
set_option maxRecDepth 100000
open Go.Proofs.Tryz (prog)
noncomputable section
namespace Go.TM
open Go.Proofs
section
variable(b:Nat)(m:Bool)(c:Frame)(cs:List Frame)(x:Nat->Value)(k:Int)
def ge:Qm prog 169 m 9 (Jb b m c cs (.int .i64 0) (.bool false) (.bool false) (.int .i64 k) (Zb 1) x)=some []:=K1
def Gs:Gr:=Qj prog 169 m 9 (Jb b m c cs (.int .i64 0) (.bool false) (.bool false) (.int .i64 k) (Zb 1) x)
def h_:WX prog (Gs b m c cs x k) 166 #[.int .i64 k]:=⟨K1,K1,K1,K1,K1⟩
def wz:Qm prog 169 m 45 (aft (Gs b m c cs x k) (.bool true))=some []:=K1
def Hk:Gr:=Qj prog 169 m 45 (aft (Gs b m c cs x k) (.bool true))
def Ih:(Qc prog 169 m (Hk b m c cs x k) (Zb 1) (Qp 0)).info=some (Zb 1,Qp 0,#[],[(b,true)]):=K1
def Gi:Gr:=(Qc prog 169 m (Hk b m c cs x k) (Zb 1) (Qp 0)).get (Hk b m c cs x k)
def Rv:Qm prog 169 m 4 (Gi b m c cs x k)=some []:=K1
def Rw:Qj prog 169 m 4 (Gi b m c cs x k)=Jb b m c cs (.int .i64 0) (.bool false) (.bool false) (.int .i64 (Xk (ZM (Qj prog 169 m 4 (Gi b m c cs x k)) 5))) (Zb 1) (ZM (Qj prog 169 m 4 (Gi b m c cs x k))):=K1
def jP:(Qc prog 169 m (Hk b m c cs x k) (Zb 0) (Qp 0)).info=some (Zb 0,Qp 0,#[],[(b,true)]):=K1
def Pw:Gr:=(Qc prog 169 m (Hk b m c cs x k) (Zb 0) (Qp 0)).get (Hk b m c cs x k)
def Rs:Qm prog 169 m 4 (Pw b m c cs x k)=some []:=K1
def Ru:Qj prog 169 m 4 (Pw b m c cs x k)=Jb b m c cs (.int .i64 0) (.bool false) (.bool false) (.int .i64 (Xk (ZM (Qj prog 169 m 4 (Pw b m c cs x k)) 5))) (Zb 0) (ZM (Qj prog 169 m 4 (Pw b m c cs x k))):=K1
def wj:Qm prog 169 m 61 (aft (Gs b m c cs x k) (.bool false))=some []:=K1
def Hi:Gr:=Qj prog 169 m 61 (aft (Gs b m c cs x k) (.bool false))
def I9:(Qc prog 169 m (Hi b m c cs x k) (Zb 1) (Qp 0)).info=some (Zb 9,Qp 0,#[Jc b 0,QA b 0],[(b,true),(b,true),(b,false),(b,false)]):=K1
def Kb:Gr:=(Qc prog 169 m (Hi b m c cs x k) (Zb 1) (Qp 0)).get (Hi b m c cs x k)
def NF:Qm prog 169 m 25 (Kb b m c cs x k)=some []:=K1
def wi:(Qc prog 169 m (Hi b m c cs x k) (Zb 0) (Qp 0)).info=some (Zb 0,Qp 0,#[Jc b 0],[(b,true),(b,false),(b,false)]):=K1
def Tz:Gr:=(Qc prog 169 m (Hi b m c cs x k) (Zb 0) (Qp 0)).get (Hi b m c cs x k)
def NC:Qm prog 169 m 6 (Tz b m c cs x k)=some []:=K1
def Pt:Gr:=Qj prog 169 m 6 (Tz b m c cs x k)
def EY:(Qc prog 169 m (Pt b m c cs x k) (Zb 0) (Qp 0)).info=some (Zb 0,Qp 0,#[],[(b,true)]):=K1
def Pu:Gr:=(Qc prog 169 m (Pt b m c cs x k) (Zb 0) (Qp 0)).get (Pt b m c cs x k)
def ND:Qm prog 169 m 4 (Pu b m c cs x k)=some []:=K1
def NE:Qj prog 169 m 4 (Pu b m c cs x k)=Jb b m c cs (.int .i64 0) (.bool false) (.bool false) (ZM (Qj prog 169 m 4 (Pu b m c cs x k)) 5) (Zb 0) (ZM (Qj prog 169 m 4 (Pu b m c cs x k))):=K1
end
section
variable(b:Nat)(m:Bool)(c:Frame)(cs:List Frame)(x:Nat->Value)
def we:Qm prog 169 m 71 (Jb b m c cs (.int .i64 0) (.bool false) (.bool false) (.int .i64 4) (Zb 1) x)=some []:=K1
def Hh:Gr:=Qj prog 169 m 71 (Jb b m c cs (.int .i64 0) (.bool false) (.bool false) (.int .i64 4) (Zb 1) x)
def I7:(Qc prog 169 m (Hh b m c cs x) (Zb 1) (Qp 0)).info=some (Zb 9,Qp 0,#[Jc b 0,QA b 0],[(b,true),(b,true),(b,false),(b,false)]):=K1
def PG:Gr:=(Qc prog 169 m (Hh b m c cs x) (Zb 1) (Qp 0)).get (Hh b m c cs x)
def NA:Qm prog 169 m 25 (PG b m c cs x)=some []:=K1
def j_:(Qc prog 169 m (Hh b m c cs x) (Zb 0) (Qp 0)).info=some (Zb 0,Qp 0,#[Jc b 0],[(b,true),(b,false),(b,false)]):=K1
def Ty:Gr:=(Qc prog 169 m (Hh b m c cs x) (Zb 0) (Qp 0)).get (Hh b m c cs x)
def R6:Qm prog 169 m 6 (Ty b m c cs x)=some []:=K1
def PE:Gr:=Qj prog 169 m 6 (Ty b m c cs x)
def EX:(Qc prog 169 m (PE b m c cs x) (Zb 0) (Qp 0)).info=some (Zb 0,Qp 0,#[],[(b,true)]):=K1
def PF:Gr:=(Qc prog 169 m (PE b m c cs x) (Zb 0) (Qp 0)).get (PE b m c cs x)
def Ny:Qm prog 169 m 4 (PF b m c cs x)=some []:=K1
def Nz:Qj prog 169 m 4 (PF b m c cs x)=Jb b m c cs (.int .i64 0) (.bool false) (.bool false) (ZM (Qj prog 169 m 4 (PF b m c cs x)) 5) (Zb 0) (ZM (Qj prog 169 m 4 (PF b m c cs x))):=K1
def kZ(b:Nat)(x:Nat->Value):Array Value:=#[.pb b,x 1,x 2,.bool false,x 4,x 5,x 6,x 7,x 8,x 9,x 10,x 11,x 12,x 13,x 14,x 15,x 16,x 17,x 18,x 19,x 20,x 21,x 22,x 23,x 24,x 25,x 26,x 27,x 28,x 29,x 30,x 31,x 32,x 33,x 34,x 35,x 36,x 37,x 38,x 39,x 40,x 41,x 42,x 43,x 44,x 45,x 46,x 47,x 48,x 49,x 50,x 51,x 52,x 53,x 54,x 55,x 56,x 57,x 58,x 59,x 60,x 61,x 62,x 63,x 64,x 65,x 66,x 67,x 68,x 69,x 70,x 71,x 72,x 73,x 74,x 75,x 76,x 77,x 78,x 79,x 80,x 81,x 82,x 83,x 84,x 85,x 86,x 87,x 88,x 89,x 90,x 91,x 92,x 93,x 94,x 95,x 96,x 97,x 98,x 99,x 100,x 101,x 102,x 103,x 104,x 105,x 106,x 107,x 108,x 109,x 110,x 111,x 112,x 113,x 114,x 115,x 116,x 117,x 118,x 119,x 120,x 121,x 122,x 123,x 124,x 125,x 126,x 127,x 128,x 129,x 130,x 131,x 132,x 133,x 134,x 135,x 136,x 137,x 138]
def Gm(b:Nat)(m:Bool)(c:Frame)(cs:List Frame)(x:Nat->Value):Gr:=Yx (Qj prog 169 m 25 (PG b m c cs (λ _=>undef))) (kZ b x)
def NB:Qj prog 169 m 25 (PG b m c cs x)=Gm b m c cs (ZM (Qj prog 169 m 25 (PG b m c cs x))):=K1
def NG(k:Int):Qj prog 169 m 25 (Kb b m c cs x k)=Gm b m c cs (ZM (Qj prog 169 m 25 (Kb b m c cs x k))):=K1
