/- Lemmas of the proof. No conditions of their own. -/
import Derived.Test.YtnpfcnfhfkflhaaGreatDoorB15
set_option linter.all false
open Go.Proofs.Tryz (prog)
set_option maxRecDepth 100000
noncomputable section
namespace Go.Proofs
open Go.TM
section
variable (b:Nat) (m:Bool) (c:Frame) (cs:List Frame) (x:Nat->Value) (k:Int)
theorem Zim:Qm prog 202 m 9 (Jf b m c cs (.int .i64 0) (.bool false) (.bool false) (.int .i64 k) (Zc 1) x)=some []:=by kernel_rfl
def Ql8:Gr:=Qi prog 202 m 9 (Jf b m c cs (.int .i64 0) (.bool false) (.bool false) (.int .i64 k) (Zc 1) x)
theorem Zil:Qlw prog (Ql8 b m c cs x k) 227 #[.int .i64 k]:=⟨by kernel_rfl,by kernel_rfl,by kernel_rfl,by kernel_rfl,by kernel_rfl⟩
theorem Ze4:Qm prog 202 m 45 (aft (Ql8 b m c cs x k) (.bool true))=some []:=by kernel_rfl
def Qdu:Gr:=Qi prog 202 m 45 (aft (Ql8 b m c cs x k) (.bool true))
theorem Qxb:(Qc prog 202 m (Qdu b m c cs x k) (Zc 1) (Qq 0)).info=some (Zc 1,Qq 0,#[],[(b,true)]):=by kernel_rfl
def Qew:Gr:=(Qc prog 202 m (Qdu b m c cs x k) (Zc 1) (Qq 0)).get (Qdu b m c cs x k)
theorem Q6f:Qm prog 202 m 4 (Qew b m c cs x k)=some []:=by kernel_rfl
theorem Q6g:Qi prog 202 m 4 (Qew b m c cs x k)=Jf b m c cs (.int .i64 0) (.bool false) (.bool false) (.int .i64 (intOf (tmF (Qi prog 202 m 4 (Qew b m c cs x k)) 5))) (Zc 1) (tmF (Qi prog 202 m 4 (Qew b m c cs x k))):=by kernel_rfl
theorem Ze3:(Qc prog 202 m (Qdu b m c cs x k) (Zc 0) (Qq 0)).info=some (Zc 0,Qq 0,#[],[(b,true)]):=by kernel_rfl
def Qg3:Gr:=(Qc prog 202 m (Qdu b m c cs x k) (Zc 0) (Qq 0)).get (Qdu b m c cs x k)
theorem Q6d:Qm prog 202 m 4 (Qg3 b m c cs x k)=some []:=by kernel_rfl
theorem Q6e:Qi prog 202 m 4 (Qg3 b m c cs x k)=Jf b m c cs (.int .i64 0) (.bool false) (.bool false) (.int .i64 (intOf (tmF (Qi prog 202 m 4 (Qg3 b m c cs x k)) 5))) (Zc 0) (tmF (Qi prog 202 m 4 (Qg3 b m c cs x k))):=by kernel_rfl
theorem Zet:Qm prog 202 m 61 (aft (Ql8 b m c cs x k) (.bool false))=some []:=by kernel_rfl
def Qdr:Gr:=Qi prog 202 m 61 (aft (Ql8 b m c cs x k) (.bool false))
theorem Qw5:(Qc prog 202 m (Qdr b m c cs x k) (Zc 1) (Qq 0)).info=some (Zc 9,Qq 0,#[Jg b 0,evW b 0],[(b,true),(b,true),(b,false),(b,false)]):=by kernel_rfl
def Qj1:Gr:=(Qc prog 202 m (Qdr b m c cs x k) (Zc 1) (Qq 0)).get (Qdr b m c cs x k)
theorem Q5z:Qm prog 202 m 25 (Qj1 b m c cs x k)=some []:=by kernel_rfl
theorem Zes:(Qc prog 202 m (Qdr b m c cs x k) (Zc 0) (Qq 0)).info=some (Zc 0,Qq 0,#[Jg b 0],[(b,true),(b,false),(b,false)]):=by kernel_rfl
def Qrs:Gr:=(Qc prog 202 m (Qdr b m c cs x k) (Zc 0) (Qq 0)).get (Qdr b m c cs x k)
theorem Q5w:Qm prog 202 m 6 (Qrs b m c cs x k)=some []:=by kernel_rfl
def Qgx:Gr:=Qi prog 202 m 6 (Qrs b m c cs x k)
theorem Qrt:(Qc prog 202 m (Qgx b m c cs x k) (Zc 0) (Qq 0)).info=some (Zc 0,Qq 0,#[],[(b,true)]):=by kernel_rfl
def Qgy:Gr:=(Qc prog 202 m (Qgx b m c cs x k) (Zc 0) (Qq 0)).get (Qgx b m c cs x k)
theorem Q5x:Qm prog 202 m 4 (Qgy b m c cs x k)=some []:=by kernel_rfl
theorem Q5y:Qi prog 202 m 4 (Qgy b m c cs x k)=Jf b m c cs (.int .i64 0) (.bool false) (.bool false) (tmF (Qi prog 202 m 4 (Qgy b m c cs x k)) 5) (Zc 0) (tmF (Qi prog 202 m 4 (Qgy b m c cs x k))):=by kernel_rfl
end
section
variable (b:Nat) (m:Bool) (c:Frame) (cs:List Frame) (x:Nat->Value)
theorem Zep:Qm prog 202 m 71 (Jf b m c cs (.int .i64 0) (.bool false) (.bool false) (.int .i64 4) (Zc 1) x)=some []:=by kernel_rfl
def Qdq:Gr:=Qi prog 202 m 71 (Jf b m c cs (.int .i64 0) (.bool false) (.bool false) (.int .i64 4) (Zc 1) x)
theorem Qw3:(Qc prog 202 m (Qdq b m c cs x) (Zc 1) (Qq 0)).info=some (Zc 9,Qq 0,#[Jg b 0,evW b 0],[(b,true),(b,true),(b,false),(b,false)]):=by kernel_rfl
def Qgw:Gr:=(Qc prog 202 m (Qdq b m c cs x) (Zc 1) (Qq 0)).get (Qdq b m c cs x)
theorem Q5u:Qm prog 202 m 25 (Qgw b m c cs x)=some []:=by kernel_rfl
theorem Zeo:(Qc prog 202 m (Qdq b m c cs x) (Zc 0) (Qq 0)).info=some (Zc 0,Qq 0,#[Jg b 0],[(b,true),(b,false),(b,false)]):=by kernel_rfl
def Qrq:Gr:=(Qc prog 202 m (Qdq b m c cs x) (Zc 0) (Qq 0)).get (Qdq b m c cs x)
theorem Q5r:Qm prog 202 m 6 (Qrq b m c cs x)=some []:=by kernel_rfl
def Qgu:Gr:=Qi prog 202 m 6 (Qrq b m c cs x)
theorem Qrr:(Qc prog 202 m (Qgu b m c cs x) (Zc 0) (Qq 0)).info=some (Zc 0,Qq 0,#[],[(b,true)]):=by kernel_rfl
def Qgv:Gr:=(Qc prog 202 m (Qgu b m c cs x) (Zc 0) (Qq 0)).get (Qgu b m c cs x)
theorem Q5s:Qm prog 202 m 4 (Qgv b m c cs x)=some []:=by kernel_rfl
theorem Q5t:Qi prog 202 m 4 (Qgv b m c cs x)=Jf b m c cs (.int .i64 0) (.bool false) (.bool false) (tmF (Qi prog 202 m 4 (Qgv b m c cs x)) 5) (Zc 0) (tmF (Qi prog 202 m 4 (Qgv b m c cs x))):=by kernel_rfl
def tmN (b:Nat) (x:Nat->Value):Array Value:=#[.pointer (some ⟨b,0,none⟩),x 1,x 2,.bool false,x 4,x 5,x 6,x 7,x 8,x 9,x 10,x 11,x 12,x 13,x 14,x 15,x 16,x 17,x 18,x 19,x 20,x 21,x 22,x 23,x 24,x 25,x 26,x 27,x 28,x 29,x 30,x 31,x 32,x 33,x 34,x 35,x 36,x 37,x 38,x 39,x 40,x 41,x 42,x 43,x 44,x 45,x 46,x 47,x 48,x 49,x 50,x 51,x 52,x 53,x 54,x 55,x 56,x 57,x 58,x 59,x 60,x 61,x 62,x 63,x 64,x 65,x 66,x 67,x 68,x 69,x 70,x 71,x 72,x 73,x 74,x 75,x 76,x 77,x 78,x 79,x 80,x 81,x 82,x 83,x 84,x 85,x 86,x 87,x 88,x 89,x 90,x 91,x 92,x 93,x 94,x 95,x 96,x 97,x 98,x 99,x 100,x 101,x 102,x 103,x 104,x 105,x 106,x 107,x 108,x 109,x 110,x 111,x 112,x 113,x 114,x 115,x 116,x 117,x 118,x 119,x 120,x 121,x 122,x 123,x 124,x 125,x 126,x 127,x 128,x 129,x 130,x 131,x 132,x 133,x 134,x 135,x 136,x 137,x 138]
def Qhu (b:Nat) (m:Bool) (c:Frame) (cs:List Frame) (x:Nat->Value):Gr:=Zc2 (Qi prog 202 m 25 (Qgw b m c cs (λ _=>undef))) (tmN b x)
theorem Q5v:Qi prog 202 m 25 (Qgw b m c cs x)=Qhu b m c cs (tmF (Qi prog 202 m 25 (Qgw b m c cs x))):=by kernel_rfl
theorem Q50 (k:Int):Qi prog 202 m 25 (Qj1 b m c cs x k)=Qhu b m c cs (tmF (Qi prog 202 m 25 (Qj1 b m c cs x k))):=by kernel_rfl
end
end Go.Proofs
end
