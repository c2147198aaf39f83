/- Lemmas. No conditions. -/
import Derived.Test.YtcakpkianonbkaaGreatDoorB17
set_option linter.all false
open Go.Proofs.Tryz (prog)
set_option maxRecDepth 100000
noncomputable section
namespace Go.Proofs
open Go.TM
section
variable(b:Nat)(m:Bool)(c:Frame)(cs:List Frame)(x:Nat->Value)(n n':Int)
def Zhh:Qjv prog (Qir b m c cs x) 153 #[]:=⟨by kernel_rfl,by kernel_rfl,by kernel_rfl,by kernel_rfl,by kernel_rfl⟩
def Zmm:Qm prog 168 m 8 (aft (Qir b m c cs x) (.int .i64 n))=some []:=by kernel_rfl
def Qhv:Goroutine:=Qj prog 168 m 8 (aft (Qir b m c cs x) (.int .i64 n))
def Zmo:(Qhv b m c cs x n).offers=none:=by kernel_rfl
def Zmp:(Qhv b m c cs x n).status=.running:=by kernel_rfl
def Zml(st:Value):Qc prog 168 m (Qhv b m c cs x n) st (Qp 0)=.blocked { Qhv b m c cs x n with status:=.blocked } st (Qp 0) [(b,true)]:=by kernel_rfl
def Zmn:(Qc prog 168 m (Qhv b m c cs x n) (Ze 2) (Qp 1)).info=some (Ze 2,Qp 0,#[Z5 .disable,Jg b 1,evW b 1,Z5 .enable],[(b,true),(b,true)]):=by kernel_rfl
def Q8s:Goroutine:=(Qc prog 168 m (Qhv b m c cs x n) (Ze 2) (Qp 1)).get (Qhv b m c cs x n)
def Zmq:Qm prog 168 m 5 (Q8s b m c cs x n)=some []:=by kernel_rfl
def Qq8:Goroutine:=Qj prog 168 m 5 (Q8s b m c cs x n)
def Zhl:Qjv prog (Qq8 b m c cs x n) 153 #[]:=⟨by kernel_rfl,by kernel_rfl,by kernel_rfl,by kernel_rfl,by kernel_rfl⟩
def Zhm:Qm prog 168 m 11 (aft (Qq8 b m c cs x n) (.int .i64 n'))=some []:=by kernel_rfl
def Qk2:Goroutine:=Qj prog 168 m 11 (aft (Qq8 b m c cs x n) (.int .i64 n'))
def Qyn:(Qc prog 168 m (Qk2 b m c cs x n n') (Ze 2) (Qp 0)).info=some (Ze 2,Qp 0,#[],[(b,true)]):=by kernel_rfl
def Qis:Goroutine:=(Qc prog 168 m (Qk2 b m c cs x n n') (Ze 2) (Qp 0)).get (Qk2 b m c cs x n n')
def Zhn:Qm prog 168 m 20 (Qis b m c cs x n n')=some []:=by kernel_rfl
def Zho:Qj prog 168 m 20 (Qis b m c cs x n n')=Jf b m c cs (tmF (Qj prog 168 m 20 (Qis b m c cs x n n')) 2) (.bool (Zm9 (tmF (Qj prog 168 m 20 (Qis b m c cs x n n')) 3))) (.bool true) (.int .i64 0) (Ze 2) (tmF (Qj prog 168 m 20 (Qis b m c cs x n n'))):=by kernel_rfl
end
section
variable(b:Nat)(m:Bool)(c:Frame)(cs:List Frame)(x:Nat->Value)(ws:Value)
def Zia:Qm prog 168 m 80 (Jf b m c cs ws (.bool true) (.bool true) (.int .i64 0) (Ze 2) x)=some []:=by kernel_rfl
def Qk9:Goroutine:=Qj prog 168 m 80 (Jf b m c cs ws (.bool true) (.bool true) (.int .i64 0) (Ze 2) x)
def Qyy:(Qc prog 168 m (Qk9 b m c cs x ws) (Ze 2) (Qp 0)).info=some (Ze 1,Qp 0,#[Jg b 0,evW b 0],[(b,true),(b,true),(b,false),(b,false)]):=by kernel_rfl
def Qla:Goroutine:=(Qc prog 168 m (Qk9 b m c cs x ws) (Ze 2) (Qp 0)).get (Qk9 b m c cs x ws)
def Q9t:Qm prog 168 m 14 (Qla b m c cs x ws)=some []:=by kernel_rfl
def Q9u:Qj prog 168 m 14 (Qla b m c cs x ws)=Qgb b m c cs (tmF (Qj prog 168 m 14 (Qla b m c cs x ws))):=by kernel_rfl
def Zh9:Qm prog 168 m 80 (Jf b m c cs ws (.bool false) (.bool true) (.int .i64 0) (Ze 2) x)=some []:=by kernel_rfl
def Qk7:Goroutine:=Qj prog 168 m 80 (Jf b m c cs ws (.bool false) (.bool true) (.int .i64 0) (Ze 2) x)
def Qyx:(Qc prog 168 m (Qk7 b m c cs x ws) (Ze 2) (Qp 0)).info=some (Ze 1,Qp 0,#[Jg b 0,evW b 0],[(b,true),(b,true),(b,false),(b,false)]):=by kernel_rfl
def Qk8:Goroutine:=(Qc prog 168 m (Qk7 b m c cs x ws) (Ze 2) (Qp 0)).get (Qk7 b m c cs x ws)
def Q9r:Qm prog 168 m 14 (Qk8 b m c cs x ws)=some []:=by kernel_rfl
def Q9s:Qj prog 168 m 14 (Qk8 b m c cs x ws)=Qgb b m c cs (tmF (Qj prog 168 m 14 (Qk8 b m c cs x ws))):=by kernel_rfl
end
end Go.Proofs
end
