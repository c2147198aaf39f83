/- Lemmas. No conditions. -/
import Derived.Test.YtcakpkianonbkaaGreatDoorB17
set_option linter.all false
open Go.Proofs.Tryz (prog)
set_option maxRecDepth 100000
noncomputable section
namespace Go.Proofs
open Go.TM
section
variable(b:Nat)(m:Bool)(c:Frame)(cs:List Frame)(x:Nat->Value)(n n':Int)
def vD:WJ prog (GV b m c cs x) 153 #[]:=⟨K1,K1,K1,K1,K1⟩
def tX:Qn prog 168 m 8 (aft (GV b m c cs x) (.int .i64 n))=some []:=K1
def HU:Gr:=Qi prog 168 m 8 (aft (GV b m c cs x) (.int .i64 n))
def tZ:(HU b m c cs x n).offers=none:=K1
def t_:(HU b m c cs x n).status=.running:=K1
def tW(st:Value):Qc prog 168 m (HU b m c cs x n) st (Qq 0)=.blocked { HU b m c cs x n with status:=.blocked } st (Qq 0) [(b,true)]:=K1
def tY:(Qc prog 168 m (HU b m c cs x n) (Zg 2) (Qq 1)).info=some (Zg 2,Qq 0,#[Z8 .disable,Ji b 1,QA b 1,Z8 .enable],[(b,true),(b,true)]):=K1
def OV:Gr:=(Qc prog 168 m (HU b m c cs x n) (Zg 2) (Qq 1)).get (HU b m c cs x n)
def tq:Qn prog 168 m 5 (OV b m c cs x n)=some []:=K1
def YY:Gr:=Qi prog 168 m 5 (OV b m c cs x n)
def vH:WJ prog (YY b m c cs x n) 153 #[]:=⟨K1,K1,K1,K1,K1⟩
def vI:Qn prog 168 m 11 (aft (YY b m c cs x n) (.int .i64 n'))=some []:=K1
def Vn:Gr:=Qi prog 168 m 11 (aft (YY b m c cs x n) (.int .i64 n'))
def LC:(Qc prog 168 m (Vn b m c cs x n n') (Zg 2) (Qq 0)).info=some (Zg 2,Qq 0,#[],[(b,true)]):=K1
def GW:Gr:=(Qc prog 168 m (Vn b m c cs x n n') (Zg 2) (Qq 0)).get (Vn b m c cs x n n')
def vJ:Qn prog 168 m 20 (GW b m c cs x n n')=some []:=K1
def vK:Qi prog 168 m 20 (GW b m c cs x n n')=Jh b m c cs (ZQ (Qi prog 168 m 20 (GW b m c cs x n n')) 2) (.bool (Nq (ZQ (Qi prog 168 m 20 (GW b m c cs x n n')) 3))) (.bool true) (.int .i64 0) (Zg 2) (ZQ (Qi prog 168 m 20 (GW b m c cs x n n'))):=K1
end
section
variable(b:Nat)(m:Bool)(c:Frame)(cs:List Frame)(x:Nat->Value)(ws:Value)
def vv:Qn prog 168 m 80 (Jh b m c cs ws (.bool true) (.bool true) (.int .i64 0) (Zg 2) x)=some []:=K1
def Vq:Gr:=Qi prog 168 m 80 (Jh b m c cs ws (.bool true) (.bool true) (.int .i64 0) (Zg 2) x)
def Mo:(Qc prog 168 m (Vq b m c cs x ws) (Zg 2) (Qq 0)).info=some (Zg 1,Qq 0,#[Ji b 0,QA b 0],[(b,true),(b,true),(b,false),(b,false)]):=K1
def Yu:Gr:=(Qc prog 168 m (Vq b m c cs x ws) (Zg 2) (Qq 0)).get (Vq b m c cs x ws)
def jD:Qn prog 168 m 14 (Yu b m c cs x ws)=some []:=K1
def jE:Qi prog 168 m 14 (Yu b m c cs x ws)=Ga b m c cs (ZQ (Qi prog 168 m 14 (Yu b m c cs x ws))):=K1
def vu:Qn prog 168 m 80 (Jh b m c cs ws (.bool false) (.bool true) (.int .i64 0) (Zg 2) x)=some []:=K1
def Vp:Gr:=Qi prog 168 m 80 (Jh b m c cs ws (.bool false) (.bool true) (.int .i64 0) (Zg 2) x)
def Mn:(Qc prog 168 m (Vp b m c cs x ws) (Zg 2) (Qq 0)).info=some (Zg 1,Qq 0,#[Ji b 0,QA b 0],[(b,true),(b,true),(b,false),(b,false)]):=K1
def Yt:Gr:=(Qc prog 168 m (Vp b m c cs x ws) (Zg 2) (Qq 0)).get (Vp b m c cs x ws)
def jB:Qn prog 168 m 14 (Yt b m c cs x ws)=some []:=K1
def jC:Qi prog 168 m 14 (Yt b m c cs x ws)=Ga b m c cs (ZQ (Qi prog 168 m 14 (Yt b m c cs x ws))):=K1
end
end Go.Proofs
end

