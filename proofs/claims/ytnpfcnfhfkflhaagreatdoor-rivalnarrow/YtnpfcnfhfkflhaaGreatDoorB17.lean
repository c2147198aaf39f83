/- Lemmas of the proof. No conditions of their own. -/
import Derived.Test.YtnpfcnfhfkflhaaGreatDoorB16
set_option linter.all false
open Go.Proofs.Tryz (prog)
set_option maxRecDepth 100000
noncomputable section
namespace Go.Proofs
open Go.TM
section
variable (b:Nat) (m:Bool) (c:Frame) (cs:List Frame) (x:Nat->Value) (n n':Int)
theorem Zer:Qlw prog (Qhu b m c cs x) 230 #[]:=⟨by kernel_rfl,by kernel_rfl,by kernel_rfl,by kernel_rfl,by kernel_rfl⟩
theorem Zip:Qm prog 202 m 8 (aft (Qhu b m c cs x) (.int .i64 n))=some []:=by kernel_rfl
def Qgz:Gr:=Qi prog 202 m 8 (aft (Qhu b m c cs x) (.int .i64 n))
theorem Zir:(Qgz b m c cs x n).offers=none:=by kernel_rfl
theorem Zis:(Qgz b m c cs x n).status=.running:=by kernel_rfl
theorem Zio (st:Value):Qc prog 202 m (Qgz b m c cs x n) st (Qq 0)=.blocked { Qgz b m c cs x n with status:=.blocked } st (Qq 0) [(b,true)]:=by kernel_rfl
theorem Ziq:(Qc prog 202 m (Qgz b m c cs x n) (Zc 2) (Qq 1)).info=some (Zc 2,Qq 0,#[Z2 .disable,Jg b 1,evW b 1,Z2 .enable],[(b,true),(b,true)]):=by kernel_rfl
def Q54:Gr:=(Qc prog 202 m (Qgz b m c cs x n) (Zc 2) (Qq 1)).get (Qgz b m c cs x n)
theorem Zit:Qm prog 202 m 5 (Q54 b m c cs x n)=some []:=by kernel_rfl
def Qp6:Gr:=Qi prog 202 m 5 (Q54 b m c cs x n)
theorem Zev:Qlw prog (Qp6 b m c cs x n) 230 #[]:=⟨by kernel_rfl,by kernel_rfl,by kernel_rfl,by kernel_rfl,by kernel_rfl⟩
theorem Zew:Qm prog 202 m 11 (aft (Qp6 b m c cs x n) (.int .i64 n'))=some []:=by kernel_rfl
def Qj2:Gr:=Qi prog 202 m 11 (aft (Qp6 b m c cs x n) (.int .i64 n'))
theorem Qw6:(Qc prog 202 m (Qj2 b m c cs x n n') (Zc 2) (Qq 0)).info=some (Zc 2,Qq 0,#[],[(b,true)]):=by kernel_rfl
def Qhv:Gr:=(Qc prog 202 m (Qj2 b m c cs x n n') (Zc 2) (Qq 0)).get (Qj2 b m c cs x n n')
theorem Zex:Qm prog 202 m 20 (Qhv b m c cs x n n')=some []:=by kernel_rfl
theorem Zey:Qi prog 202 m 20 (Qhv b m c cs x n n')=Jf b m c cs (tmF (Qi prog 202 m 20 (Qhv b m c cs x n n')) 2) (.bool (Zjc (tmF (Qi prog 202 m 20 (Qhv b m c cs x n n')) 3))) (.bool true) (.int .i64 0) (Zc 2) (tmF (Qi prog 202 m 20 (Qhv b m c cs x n n'))):=by kernel_rfl
end
section
variable (b:Nat) (m:Bool) (c:Frame) (cs:List Frame) (x:Nat->Value) (ws:Value)
theorem Zfi:Qm prog 202 m 80 (Jf b m c cs ws (.bool true) (.bool true) (.int .i64 0) (Zc 2) x)=some []:=by kernel_rfl
def Qj9:Gr:=Qi prog 202 m 80 (Jf b m c cs ws (.bool true) (.bool true) (.int .i64 0) (Zc 2) x)
theorem Qxh:(Qc prog 202 m (Qj9 b m c cs x ws) (Zc 2) (Qq 0)).info=some (Zc 1,Qq 0,#[Jg b 0,evW b 0],[(b,true),(b,true),(b,false),(b,false)]):=by kernel_rfl
def Qka:Gr:=(Qc prog 202 m (Qj9 b m c cs x ws) (Zc 2) (Qq 0)).get (Qj9 b m c cs x ws)
theorem Q65:Qm prog 202 m 14 (Qka b m c cs x ws)=some []:=by kernel_rfl
theorem Q66:Qi prog 202 m 14 (Qka b m c cs x ws)=Qfj b m c cs (tmF (Qi prog 202 m 14 (Qka b m c cs x ws))):=by kernel_rfl
theorem Zfh:Qm prog 202 m 80 (Jf b m c cs ws (.bool false) (.bool true) (.int .i64 0) (Zc 2) x)=some []:=by kernel_rfl
def Qj7:Gr:=Qi prog 202 m 80 (Jf b m c cs ws (.bool false) (.bool true) (.int .i64 0) (Zc 2) x)
theorem Qxg:(Qc prog 202 m (Qj7 b m c cs x ws) (Zc 2) (Qq 0)).info=some (Zc 1,Qq 0,#[Jg b 0,evW b 0],[(b,true),(b,true),(b,false),(b,false)]):=by kernel_rfl
def Qj8:Gr:=(Qc prog 202 m (Qj7 b m c cs x ws) (Zc 2) (Qq 0)).get (Qj7 b m c cs x ws)
theorem Q63:Qm prog 202 m 14 (Qj8 b m c cs x ws)=some []:=by kernel_rfl
theorem Q64:Qi prog 202 m 14 (Qj8 b m c cs x ws)=Qfj b m c cs (tmF (Qi prog 202 m 14 (Qj8 b m c cs x ws))):=by kernel_rfl
end
end Go.Proofs
end
