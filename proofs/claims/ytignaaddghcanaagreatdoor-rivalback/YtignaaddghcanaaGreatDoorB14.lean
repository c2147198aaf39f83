/- Lemmas. No conditions. -/
import Derived.Test.YtignaaddghcanaaGreatDoorB13
set_option linter.all false
set_option maxRecDepth 100000
open Go.Proofs.Tryz (prog)
noncomputable section
namespace Go.TM
open Go.Proofs
section
variable(b:Nat)(m:Bool)(c:Frame)(cs:List Frame)(x:Nat->Value)(n n':Int)
def wm:WU prog (Ge b m c cs x) 177 #[]:=⟨K1,K1,K1,K1,K1⟩
def pa:Qm prog 166 m 8 (aft (Ge b m c cs x) (.int .i64 n))=some []:=K1
def Hl:Gr:=Qi prog 166 m 8 (aft (Ge b m c cs x) (.int .i64 n))
def pd:(Hl b m c cs x n).offers=none:=K1
def pe:(Hl b m c cs x n).status=.running:=K1
def g_(st:Value):Qc prog 166 m (Hl b m c cs x n) st (Qp 0)=.blocked { Hl b m c cs x n with status:=.blocked } st (Qp 0) [(b,true)]:=K1
def pb:(Qc prog 166 m (Hl b m c cs x n) (Zb 2) (Qp 1)).info=some (Zb 2,Qp 0,#[Z0 .disable,Jd b 1,W9 b 1,Z0 .enable],[(b,true),(b,true)]):=K1
def Yq:Gr:=(Qc prog 166 m (Hl b m c cs x n) (Zb 2) (Qp 1)).get (Hl b m c cs x n)
def pf:Qm prog 166 m 5 (Yq b m c cs x n)=some []:=K1
def KW:Gr:=Qi prog 166 m 5 (Yq b m c cs x n)
def wv:WU prog (KW b m c cs x n) 177 #[]:=⟨K1,K1,K1,K1,K1⟩
def ww:Qm prog 166 m 11 (aft (KW b m c cs x n) (.int .i64 n'))=some []:=K1
def Px:Gr:=Qi prog 166 m 11 (aft (KW b m c cs x n) (.int .i64 n'))
def FX:(Qc prog 166 m (Px b m c cs x n n') (Zb 2) (Qp 0)).info=some (Zb 2,Qp 0,#[],[(b,true)]):=K1
def Gf:Gr:=(Qc prog 166 m (Px b m c cs x n n') (Zb 2) (Qp 0)).get (Px b m c cs x n n')
def wx:Qm prog 166 m 20 (Gf b m c cs x n n')=some []:=K1
def wy:Qi prog 166 m 20 (Gf b m c cs x n n')=Jc b m c cs (ZL (Qi prog 166 m 20 (Gf b m c cs x n n')) 2) (.bool (Lh (ZL (Qi prog 166 m 20 (Gf b m c cs x n n')) 3))) (.bool true) (.int .i64 0) (Zb 2) (ZL (Qi prog 166 m 20 (Gf b m c cs x n n'))):=K1
end
section
variable(b:Nat)(m:Bool)(c:Frame)(cs:List Frame)(x:Nat->Value)(ws:Value)
def wS:Qm prog 166 m 80 (Jc b m c cs ws (.bool true) (.bool true) (.int .i64 0) (Zb 2) x)=some []:=K1
def Pw:Gr:=Qi prog 166 m 80 (Jc b m c cs ws (.bool true) (.bool true) (.int .i64 0) (Zb 2) x)
def Ia:(Qc prog 166 m (Pw b m c cs x ws) (Zb 2) (Qp 0)).info=some (Zb 1,Qp 0,#[Jd b 0,W9 b 0],[(b,true),(b,true),(b,false),(b,false)]):=K1
def VS:Gr:=(Qc prog 166 m (Pw b m c cs x ws) (Zb 2) (Qp 0)).get (Pw b m c cs x ws)
def RD:Qm prog 166 m 14 (VS b m c cs x ws)=some []:=K1
def RE:Qi prog 166 m 14 (VS b m c cs x ws)=Hz b m c cs (ZL (Qi prog 166 m 14 (VS b m c cs x ws))):=K1
def wR:Qm prog 166 m 80 (Jc b m c cs ws (.bool false) (.bool true) (.int .i64 0) (Zb 2) x)=some []:=K1
def Pz:Gr:=Qi prog 166 m 80 (Jc b m c cs ws (.bool false) (.bool true) (.int .i64 0) (Zb 2) x)
def I9:(Qc prog 166 m (Pz b m c cs x ws) (Zb 2) (Qp 0)).info=some (Zb 1,Qp 0,#[Jd b 0,W9 b 0],[(b,true),(b,true),(b,false),(b,false)]):=K1
def Ke:Gr:=(Qc prog 166 m (Pz b m c cs x ws) (Zb 2) (Qp 0)).get (Pz b m c cs x ws)
def RB:Qm prog 166 m 14 (Ke b m c cs x ws)=some []:=K1
def RC:Qi prog 166 m 14 (Ke b m c cs x ws)=Hz b m c cs (ZL (Qi prog 166 m 14 (Ke b m c cs x ws))):=K1
