/- Lemmas. No conditions. -/
import Derived.Test.YtignaaddghcanaaGreatDoorB12
set_option linter.all false
set_option maxRecDepth 100000
open Go.Proofs.Tryz (prog)
noncomputable section
namespace Go.TM
open Go.Proofs
section
variable(b:Nat)(m:Bool)(c:Frame)(cs:List Frame)(x:Nat->Value)(k:Int)
def gZ:Qm prog 166 m 9 (Jc b m c cs (.int .i64 0) (.bool false) (.bool false) (.int .i64 k) (Zb 1) x)=some []:=K1
def Gg:Gr:=Qi prog 166 m 9 (Jc b m c cs (.int .i64 0) (.bool false) (.bool false) (.int .i64 k) (Zb 1) x)
def gY:WU prog (Gg b m c cs x k) 174 #[.int .i64 k]:=⟨K1,K1,K1,K1,K1⟩
def wE:Qm prog 166 m 45 (aft (Gg b m c cs x k) (.bool true))=some []:=K1
def Hh:Gr:=Qi prog 166 m 45 (aft (Gg b m c cs x k) (.bool true))
def I4:(Qc prog 166 m (Hh b m c cs x k) (Zb 1) (Qp 0)).info=some (Zb 1,Qp 0,#[],[(b,true)]):=K1
def G5:Gr:=(Qc prog 166 m (Hh b m c cs x k) (Zb 1) (Qp 0)).get (Hh b m c cs x k)
def Rb:Qm prog 166 m 4 (G5 b m c cs x k)=some []:=K1
def Rc:Qi prog 166 m 4 (G5 b m c cs x k)=Jc b m c cs (.int .i64 0) (.bool false) (.bool false) (.int .i64 (Xf (ZL (Qi prog 166 m 4 (G5 b m c cs x k)) 5))) (Zb 1) (ZL (Qi prog 166 m 4 (G5 b m c cs x k))):=K1
def wD:(Qc prog 166 m (Hh b m c cs x k) (Zb 0) (Qp 0)).info=some (Zb 0,Qp 0,#[],[(b,true)]):=K1
def Ps:Gr:=(Qc prog 166 m (Hh b m c cs x k) (Zb 0) (Qp 0)).get (Hh b m c cs x k)
def R9:Qm prog 166 m 4 (Ps b m c cs x k)=some []:=K1
def Ra:Qi prog 166 m 4 (Ps b m c cs x k)=Jc b m c cs (.int .i64 0) (.bool false) (.bool false) (.int .i64 (Xf (ZL (Qi prog 166 m 4 (Ps b m c cs x k)) 5))) (Zb 0) (ZL (Qi prog 166 m 4 (Ps b m c cs x k))):=K1
def wq:Qm prog 166 m 61 (aft (Gg b m c cs x k) (.bool false))=some []:=K1
def Hf:Gr:=Qi prog 166 m 61 (aft (Gg b m c cs x k) (.bool false))
def FV:(Qc prog 166 m (Hf b m c cs x k) (Zb 1) (Qp 0)).info=some (Zb 9,Qp 0,#[Jd b 0,W9 b 0],[(b,true),(b,true),(b,false),(b,false)]):=K1
def Kb:Gr:=(Qc prog 166 m (Hf b m c cs x k) (Zb 1) (Qp 0)).get (Hf b m c cs x k)
def Nm:Qm prog 166 m 25 (Kb b m c cs x k)=some []:=K1
def wn:(Qc prog 166 m (Hf b m c cs x k) (Zb 0) (Qp 0)).info=some (Zb 0,Qp 0,#[Jd b 0],[(b,true),(b,false),(b,false)]):=K1
def Te:Gr:=(Qc prog 166 m (Hf b m c cs x k) (Zb 0) (Qp 0)).get (Hf b m c cs x k)
def Nj:Qm prog 166 m 6 (Te b m c cs x k)=some []:=K1
def Pp:Gr:=Qi prog 166 m 6 (Te b m c cs x k)
def EL:(Qc prog 166 m (Pp b m c cs x k) (Zb 0) (Qp 0)).info=some (Zb 0,Qp 0,#[],[(b,true)]):=K1
def Pq:Gr:=(Qc prog 166 m (Pp b m c cs x k) (Zb 0) (Qp 0)).get (Pp b m c cs x k)
def Nk:Qm prog 166 m 4 (Pq b m c cs x k)=some []:=K1
def Nl:Qi prog 166 m 4 (Pq b m c cs x k)=Jc b m c cs (.int .i64 0) (.bool false) (.bool false) (ZL (Qi prog 166 m 4 (Pq b m c cs x k)) 5) (Zb 0) (ZL (Qi prog 166 m 4 (Pq b m c cs x k))):=K1
end
section
variable(b:Nat)(m:Bool)(c:Frame)(cs:List Frame)(x:Nat->Value)
def wj:Qm prog 166 m 71 (Jc b m c cs (.int .i64 0) (.bool false) (.bool false) (.int .i64 4) (Zb 1) x)=some []:=K1
def He:Gr:=Qi prog 166 m 71 (Jc b m c cs (.int .i64 0) (.bool false) (.bool false) (.int .i64 4) (Zb 1) x)
def FT:(Qc prog 166 m (He b m c cs x) (Zb 1) (Qp 0)).info=some (Zb 9,Qp 0,#[Jd b 0,W9 b 0],[(b,true),(b,true),(b,false),(b,false)]):=K1
def Po:Gr:=(Qc prog 166 m (He b m c cs x) (Zb 1) (Qp 0)).get (He b m c cs x)
def Nh:Qm prog 166 m 25 (Po b m c cs x)=some []:=K1
def wi:(Qc prog 166 m (He b m c cs x) (Zb 0) (Qp 0)).info=some (Zb 0,Qp 0,#[Jd b 0],[(b,true),(b,false),(b,false)]):=K1
def Td:Gr:=(Qc prog 166 m (He b m c cs x) (Zb 0) (Qp 0)).get (He b m c cs x)
def Nd:Qm prog 166 m 6 (Td b m c cs x)=some []:=K1
def Pm:Gr:=Qi prog 166 m 6 (Td b m c cs x)
def EK:(Qc prog 166 m (Pm b m c cs x) (Zb 0) (Qp 0)).info=some (Zb 0,Qp 0,#[],[(b,true)]):=K1
def Pn:Gr:=(Qc prog 166 m (Pm b m c cs x) (Zb 0) (Qp 0)).get (Pm b m c cs x)
def Nf:Qm prog 166 m 4 (Pn b m c cs x)=some []:=K1
def Ng:Qi prog 166 m 4 (Pn b m c cs x)=Jc b m c cs (.int .i64 0) (.bool false) (.bool false) (ZL (Qi prog 166 m 4 (Pn b m c cs x)) 5) (Zb 0) (ZL (Qi prog 166 m 4 (Pn b m c cs x))):=K1
def yM(b:Nat)(x:Nat->Value):Array Value:=#[.pb b,x 1,x 2,.bool false,x 4,x 5,x 6,x 7,x 8,x 9,x 10,x 11,x 12,x 13,x 14,x 15,x 16,x 17,x 18,x 19,x 20,x 21,x 22,x 23,x 24,x 25,x 26,x 27,x 28,x 29,x 30,x 31,x 32,x 33,x 34,x 35,x 36,x 37,x 38,x 39,x 40,x 41,x 42,x 43,x 44,x 45,x 46,x 47,x 48,x 49,x 50,x 51,x 52,x 53,x 54,x 55,x 56,x 57,x 58,x 59,x 60,x 61,x 62,x 63,x 64,x 65,x 66,x 67,x 68,x 69,x 70,x 71,x 72,x 73,x 74,x 75,x 76,x 77,x 78,x 79,x 80,x 81,x 82,x 83,x 84,x 85,x 86,x 87,x 88,x 89,x 90,x 91,x 92,x 93,x 94,x 95,x 96,x 97,x 98,x 99,x 100,x 101,x 102,x 103,x 104,x 105,x 106,x 107,x 108,x 109,x 110,x 111,x 112,x 113,x 114,x 115,x 116,x 117,x 118,x 119,x 120,x 121,x 122,x 123,x 124,x 125,x 126,x 127,x 128,x 129,x 130,x 131,x 132,x 133,x 134,x 135,x 136,x 137,x 138]
def Ge(b:Nat)(m:Bool)(c:Frame)(cs:List Frame)(x:Nat->Value):Gr:=Yi (Qi prog 166 m 25 (Po b m c cs (λ _=>undef))) (yM b x)
def Ni:Qi prog 166 m 25 (Po b m c cs x)=Ge b m c cs (ZL (Qi prog 166 m 25 (Po b m c cs x))):=K1
def Nn(k:Int):Qi prog 166 m 25 (Kb b m c cs x k)=Ge b m c cs (ZL (Qi prog 166 m 25 (Kb b m c cs x k))):=K1
