/- Lemmas. No conditions. -/
import Derived.Test.YtnjljnhoaafkiaaGreatDoorB14
set_option linter.all false
open Go.Proofs.Tryz (prog)
set_option maxRecDepth 100000
noncomputable section
namespace Go.Proofs
open Go.TM
section
variable(b:Nat)(m:Bool)(c:Frame)(cs:List Frame)(x:Nat->Value)(n n':Int)
def wP:WW prog (Gi b m c cs x) 169 #[]:=⟨K1,K1,K1,K1,K1⟩
def pf:Qm prog 169 m 8 (aft (Gi b m c cs x) (.int .i64 n))=some []:=K1
def Hm:Gr:=Qj prog 169 m 8 (aft (Gi b m c cs x) (.int .i64 n))
def pj:(Hm b m c cs x n).offers=none:=K1
def pk:(Hm b m c cs x n).status=.running:=K1
def pd(st:Value):Qc prog 169 m (Hm b m c cs x n) st (Qp 0)=.blocked { Hm b m c cs x n with status:=.blocked } st (Qp 0) [(b,true)]:=K1
def pg:(Qc prog 169 m (Hm b m c cs x n) (Zc 2) (Qp 1)).info=some (Zc 2,Qp 0,#[Z0 .disable,Jc b 1,QA b 1,Z0 .enable],[(b,true),(b,true)]):=K1
def YC:Gr:=(Qc prog 169 m (Hm b m c cs x n) (Zc 2) (Qp 1)).get (Hm b m c cs x n)
def pn:Qm prog 169 m 5 (YC b m c cs x n)=some []:=K1
def Y3:Gr:=Qj prog 169 m 5 (YC b m c cs x n)
def jY:WW prog (Y3 b m c cs x n) 169 #[]:=⟨K1,K1,K1,K1,K1⟩
def jZ:Qm prog 169 m 11 (aft (Y3 b m c cs x n) (.int .i64 n'))=some []:=K1
def PI:Gr:=Qj prog 169 m 11 (aft (Y3 b m c cs x n) (.int .i64 n'))
def Ic:(Qc prog 169 m (PI b m c cs x n n') (Zc 2) (Qp 0)).info=some (Zc 2,Qp 0,#[],[(b,true)]):=K1
def Gj:Gr:=(Qc prog 169 m (PI b m c cs x n n') (Zc 2) (Qp 0)).get (PI b m c cs x n n')
def j_:Qm prog 169 m 20 (Gj b m c cs x n n')=some []:=K1
def we:Qj prog 169 m 20 (Gj b m c cs x n n')=Jb b m c cs (ZM (Qj prog 169 m 20 (Gj b m c cs x n n')) 2) (.bool (Ly (ZM (Qj prog 169 m 20 (Gj b m c cs x n n')) 3))) (.bool true) (.int .i64 0) (Zc 2) (ZM (Qj prog 169 m 20 (Gj b m c cs x n n'))):=K1
end
section
variable(b:Nat)(m:Bool)(c:Frame)(cs:List Frame)(x:Nat->Value)(ws:Value)
def xF:Qm prog 169 m 80 (Jb b m c cs ws (.bool true) (.bool true) (.int .i64 0) (Zc 2) x)=some []:=K1
def PN:Gr:=Qj prog 169 m 80 (Jb b m c cs ws (.bool true) (.bool true) (.int .i64 0) (Zc 2) x)
def FK:(Qc prog 169 m (PN b m c cs x ws) (Zc 2) (Qp 0)).info=some (Zc 1,Qp 0,#[Jc b 0,QA b 0],[(b,true),(b,true),(b,false),(b,false)]):=K1
def Kq:Gr:=(Qc prog 169 m (PN b m c cs x ws) (Zc 2) (Qp 0)).get (PN b m c cs x ws)
def RX:Qm prog 169 m 14 (Kq b m c cs x ws)=some []:=K1
def RY:Qj prog 169 m 14 (Kq b m c cs x ws)=HG b m c cs (ZM (Qj prog 169 m 14 (Kq b m c cs x ws))):=K1
def xE:Qm prog 169 m 80 (Jb b m c cs ws (.bool false) (.bool true) (.int .i64 0) (Zc 2) x)=some []:=K1
def PM:Gr:=Qj prog 169 m 80 (Jb b m c cs ws (.bool false) (.bool true) (.int .i64 0) (Zc 2) x)
def FI:(Qc prog 169 m (PM b m c cs x ws) (Zc 2) (Qp 0)).info=some (Zc 1,Qp 0,#[Jc b 0,QA b 0],[(b,true),(b,true),(b,false),(b,false)]):=K1
def Kp:Gr:=(Qc prog 169 m (PM b m c cs x ws) (Zc 2) (Qp 0)).get (PM b m c cs x ws)
def RU:Qm prog 169 m 14 (Kp b m c cs x ws)=some []:=K1
def RW:Qj prog 169 m 14 (Kp b m c cs x ws)=HG b m c cs (ZM (Qj prog 169 m 14 (Kp b m c cs x ws))):=K1
end
end Go.Proofs
end

