/- Lemmas. No conditions. -/
import Derived.Test.YtnjljnhoaafkiaaGreatDoorB14
set_option linter.all false
set_option maxRecDepth 100000
open Go.Proofs.Tryz (prog)
noncomputable section
namespace Go.TM
open Go.Proofs
section
variable(b:Nat)(m:Bool)(c:Frame)(cs:List Frame)(x:Nat->Value)(n n':Int)
def wh:WX prog (Gm b m c cs x) 169 #[]:=⟨K1,K1,K1,K1,K1⟩
def gg:Qm prog 169 m 8 (aft (Gm b m c cs x) (.int .i64 n))=some []:=K1
def Ho:Gr:=Qj prog 169 m 8 (aft (Gm b m c cs x) (.int .i64 n))
def gi:(Ho b m c cs x n).offers=none:=K1
def gj:(Ho b m c cs x n).status=.running:=K1
def gf(st:Value):Qc prog 169 m (Ho b m c cs x n) st (Qp 0)=.blocked { Ho b m c cs x n with status:=.blocked } st (Qp 0) [(b,true)]:=K1
def gh:(Qc prog 169 m (Ho b m c cs x n) (Zb 2) (Qp 1)).info=some (Zb 2,Qp 0,#[Z0 .disable,Jc b 1,QA b 1,Z0 .enable],[(b,true),(b,true)]):=K1
def YG:Gr:=(Qc prog 169 m (Ho b m c cs x n) (Zb 2) (Qp 1)).get (Ho b m c cs x n)
def gk:Qm prog 169 m 5 (YG b m c cs x n)=some []:=K1
def Yf:Gr:=Qj prog 169 m 5 (YG b m c cs x n)
def jH:WX prog (Yf b m c cs x n) 169 #[]:=⟨K1,K1,K1,K1,K1⟩
def jI:Qm prog 169 m 11 (aft (Yf b m c cs x n) (.int .i64 n'))=some []:=K1
def PK:Gr:=Qj prog 169 m 11 (aft (Yf b m c cs x n) (.int .i64 n'))
def Ib:(Qc prog 169 m (PK b m c cs x n n') (Zb 2) (Qp 0)).info=some (Zb 2,Qp 0,#[],[(b,true)]):=K1
def Gn:Gr:=(Qc prog 169 m (PK b m c cs x n n') (Zb 2) (Qp 0)).get (PK b m c cs x n n')
def jJ:Qm prog 169 m 20 (Gn b m c cs x n n')=some []:=K1
def jK:Qj prog 169 m 20 (Gn b m c cs x n n')=Jb b m c cs (ZM (Qj prog 169 m 20 (Gn b m c cs x n n')) 2) (.bool (Lw (ZM (Qj prog 169 m 20 (Gn b m c cs x n n')) 3))) (.bool true) (.int .i64 0) (Zb 2) (ZM (Qj prog 169 m 20 (Gn b m c cs x n n'))):=K1
end
section
variable(b:Nat)(m:Bool)(c:Frame)(cs:List Frame)(x:Nat->Value)(ws:Value)
def wO:Qm prog 169 m 80 (Jb b m c cs ws (.bool true) (.bool true) (.int .i64 0) (Zb 2) x)=some []:=K1
def PP:Gr:=Qj prog 169 m 80 (Jb b m c cs ws (.bool true) (.bool true) (.int .i64 0) (Zb 2) x)
def FK:(Qc prog 169 m (PP b m c cs x ws) (Zb 2) (Qp 0)).info=some (Zb 1,Qp 0,#[Jc b 0,QA b 0],[(b,true),(b,true),(b,false),(b,false)]):=K1
def Kt:Gr:=(Qc prog 169 m (PP b m c cs x ws) (Zb 2) (Qp 0)).get (PP b m c cs x ws)
def RW:Qm prog 169 m 14 (Kt b m c cs x ws)=some []:=K1
def RX:Qj prog 169 m 14 (Kt b m c cs x ws)=HK b m c cs (ZM (Qj prog 169 m 14 (Kt b m c cs x ws))):=K1
def wN:Qm prog 169 m 80 (Jb b m c cs ws (.bool false) (.bool true) (.int .i64 0) (Zb 2) x)=some []:=K1
def PM:Gr:=Qj prog 169 m 80 (Jb b m c cs ws (.bool false) (.bool true) (.int .i64 0) (Zb 2) x)
def FI:(Qc prog 169 m (PM b m c cs x ws) (Zb 2) (Qp 0)).info=some (Zb 1,Qp 0,#[Jc b 0,QA b 0],[(b,true),(b,true),(b,false),(b,false)]):=K1
def Ks:Gr:=(Qc prog 169 m (PM b m c cs x ws) (Zb 2) (Qp 0)).get (PM b m c cs x ws)
def RT:Qm prog 169 m 14 (Ks b m c cs x ws)=some []:=K1
def RU:Qj prog 169 m 14 (Ks b m c cs x ws)=HK b m c cs (ZM (Qj prog 169 m 14 (Ks b m c cs x ws))):=K1
