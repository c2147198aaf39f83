/- Lemmas. No conditions. -/
import Derived.Test.YtnpfcnfhfkflhaaGreatDoorB16
set_option linter.all false
open Go.Proofs.Tryz (prog)
set_option maxRecDepth 100000
noncomputable section
namespace Go.Proofs
open Go.TM
section
variable(b:Nat)(m:Bool)(c:Frame)(cs:List Frame)(x:Nat->Value)(n n':Int)
def A0:WW prog (H_ b m c cs x) 230 #[]:=⟨K1,K1,K1,K1,K1⟩
def NX:Qm prog 202 m 8 (aft (H_ b m c cs x) (.int .i64 n))=some []:=K1
def Hl:Gr:=Qi prog 202 m 8 (aft (H_ b m c cs x) (.int .i64 n))
def pY:(Hl b m c cs x n).offers=none:=K1
def NH:(Hl b m c cs x n).status=.running:=K1
def RX(st:Value):Qc prog 202 m (Hl b m c cs x n) st (Qq 0)=.blocked { Hl b m c cs x n with status:=.blocked } st (Qq 0) [(b,true)]:=K1
def C1:(Qc prog 202 m (Hl b m c cs x n) (Zc 2) (Qq 1)).info=some (Zc 2,Qq 0,#[Z2 .disable,Jg b 1,QB b 1,Z2 .enable],[(b,true),(b,true)]):=K1
def TE:Gr:=(Qc prog 202 m (Hl b m c cs x n) (Zc 2) (Qq 1)).get (Hl b m c cs x n)
def C3:Qm prog 202 m 5 (TE b m c cs x n)=some []:=K1
def KQ:Gr:=Qi prog 202 m 5 (TE b m c cs x n)
def jr:WW prog (KQ b m c cs x n) 230 #[]:=⟨K1,K1,K1,K1,K1⟩
def C_:Qm prog 202 m 11 (aft (KQ b m c cs x n) (.int .i64 n'))=some []:=K1
def PH:Gr:=Qi prog 202 m 11 (aft (KQ b m c cs x n) (.int .i64 n'))
def FA:(Qc prog 202 m (PH b m c cs x n n') (Zc 2) (Qq 0)).info=some (Zc 2,Qq 0,#[],[(b,true)]):=K1
def Gs:Gr:=(Qc prog 202 m (PH b m c cs x n n') (Zc 2) (Qq 0)).get (PH b m c cs x n n')
def qI:Qm prog 202 m 20 (Gs b m c cs x n n')=some []:=K1
def RT:Qi prog 202 m 20 (Gs b m c cs x n n')=Jf b m c cs (ZP (Qi prog 202 m 20 (Gs b m c cs x n n')) 2) (.bool (IA (ZP (Qi prog 202 m 20 (Gs b m c cs x n n')) 3))) (.bool true) (.int .i64 0) (Zc 2) (ZP (Qi prog 202 m 20 (Gs b m c cs x n n'))):=K1
end
section
variable(b:Nat)(m:Bool)(c:Frame)(cs:List Frame)(x:Nat->Value)(ws:Value)
def th:Qm prog 202 m 80 (Jf b m c cs ws (.bool true) (.bool true) (.int .i64 0) (Zc 2) x)=some []:=K1
def Pa:Gr:=Qi prog 202 m 80 (Jf b m c cs ws (.bool true) (.bool true) (.int .i64 0) (Zc 2) x)
def D0:(Qc prog 202 m (Pa b m c cs x ws) (Zc 2) (Qq 0)).info=some (Zc 1,Qq 0,#[Jg b 0,QB b 0],[(b,true),(b,true),(b,false),(b,false)]):=K1
def Yi:Gr:=(Qc prog 202 m (Pa b m c cs x ws) (Zc 2) (Qq 0)).get (Pa b m c cs x ws)
def gG:Qm prog 202 m 14 (Yi b m c cs x ws)=some []:=K1
def xz:Qi prog 202 m 14 (Yi b m c cs x ws)=HJ b m c cs (ZP (Qi prog 202 m 14 (Yi b m c cs x ws))):=K1
def Cl:Qm prog 202 m 80 (Jf b m c cs ws (.bool false) (.bool true) (.int .i64 0) (Zc 2) x)=some []:=K1
def Pp:Gr:=Qi prog 202 m 80 (Jf b m c cs ws (.bool false) (.bool true) (.int .i64 0) (Zc 2) x)
def Ia:(Qc prog 202 m (Pp b m c cs x ws) (Zc 2) (Qq 0)).info=some (Zc 1,Qq 0,#[Jg b 0,QB b 0],[(b,true),(b,true),(b,false),(b,false)]):=K1
def VC:Gr:=(Qc prog 202 m (Pp b m c cs x ws) (Zc 2) (Qq 0)).get (Pp b m c cs x ws)
def NM:Qm prog 202 m 14 (VC b m c cs x ws)=some []:=K1
def vy:Qi prog 202 m 14 (VC b m c cs x ws)=HJ b m c cs (ZP (Qi prog 202 m 14 (VC b m c cs x ws))):=K1
end
end Go.Proofs
end

