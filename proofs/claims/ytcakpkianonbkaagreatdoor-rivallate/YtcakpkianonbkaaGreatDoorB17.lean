/- Lemmas. No conditions. -/
import Derived.Test.YtcakpkianonbkaaGreatDoorB16
set_option linter.all false
open Go.Proofs.Tryz (prog)
set_option maxRecDepth 100000
noncomputable section
namespace Go.Proofs
open Go.TM
section
variable(b:Nat)(m:Bool)(c:Frame)(cs:List Frame)(x:Nat->Value)(k:Int)
def Zmj:Qm prog 168 m 9 (Jf b m c cs (.int .i64 0) (.bool false) (.bool false) (.int .i64 k) (Ze 1) x)=some []:=by kernel_rfl
def Qm2:Goroutine:=Qj prog 168 m 9 (Jf b m c cs (.int .i64 0) (.bool false) (.bool false) (.int .i64 k) (Ze 1) x)
def Zmi:Qjv prog (Qm2 b m c cs x k) 150 #[.int .i64 k]:=⟨by kernel_rfl,by kernel_rfl,by kernel_rfl,by kernel_rfl,by kernel_rfl⟩
def Zhu:Qm prog 168 m 45 (aft (Qm2 b m c cs x k) (.bool true))=some []:=by kernel_rfl
def Qej:Goroutine:=Qj prog 168 m 45 (aft (Qm2 b m c cs x k) (.bool true))
def Qys:(Qc prog 168 m (Qej b m c cs x k) (Ze 1) (Qp 0)).info=some (Ze 1,Qp 0,#[],[(b,true)]):=by kernel_rfl
def Qfk:Goroutine:=(Qc prog 168 m (Qej b m c cs x k) (Ze 1) (Qp 0)).get (Qej b m c cs x k)
def Q83:Qm prog 168 m 4 (Qfk b m c cs x k)=some []:=by kernel_rfl
def Q84:Qj prog 168 m 4 (Qfk b m c cs x k)=Jf b m c cs (.int .i64 0) (.bool false) (.bool false) (.int .i64 (intOf (tmF (Qj prog 168 m 4 (Qfk b m c cs x k)) 5))) (Ze 1) (tmF (Qj prog 168 m 4 (Qfk b m c cs x k))):=by kernel_rfl
def Zht:(Qc prog 168 m (Qej b m c cs x k) (Ze 0) (Qp 0)).info=some (Ze 0,Qp 0,#[],[(b,true)]):=by kernel_rfl
def Qhy:Goroutine:=(Qc prog 168 m (Qej b m c cs x k) (Ze 0) (Qp 0)).get (Qej b m c cs x k)
def Q81:Qm prog 168 m 4 (Qhy b m c cs x k)=some []:=by kernel_rfl
def Q82:Qj prog 168 m 4 (Qhy b m c cs x k)=Jf b m c cs (.int .i64 0) (.bool false) (.bool false) (.int .i64 (intOf (tmF (Qj prog 168 m 4 (Qhy b m c cs x k)) 5))) (Ze 0) (tmF (Qj prog 168 m 4 (Qhy b m c cs x k))):=by kernel_rfl
def Zhj:Qm prog 168 m 61 (aft (Qm2 b m c cs x k) (.bool false))=some []:=by kernel_rfl
def Qeg:Goroutine:=Qj prog 168 m 61 (aft (Qm2 b m c cs x k) (.bool false))
def Qyl:(Qc prog 168 m (Qeg b m c cs x k) (Ze 1) (Qp 0)).info=some (Ze 9,Qp 0,#[Jg b 0,evW b 0],[(b,true),(b,true),(b,false),(b,false)]):=by kernel_rfl
def Qk1:Goroutine:=(Qc prog 168 m (Qeg b m c cs x k) (Ze 1) (Qp 0)).get (Qeg b m c cs x k)
def Q8n:Qm prog 168 m 25 (Qk1 b m c cs x k)=some []:=by kernel_rfl
def Zhi:(Qc prog 168 m (Qeg b m c cs x k) (Ze 0) (Qp 0)).info=some (Ze 0,Qp 0,#[Jg b 0],[(b,true),(b,false),(b,false)]):=by kernel_rfl
def Qs6:Goroutine:=(Qc prog 168 m (Qeg b m c cs x k) (Ze 0) (Qp 0)).get (Qeg b m c cs x k)
def Q8k:Qm prog 168 m 6 (Qs6 b m c cs x k)=some []:=by kernel_rfl
def Qht:Goroutine:=Qj prog 168 m 6 (Qs6 b m c cs x k)
def Qs7:(Qc prog 168 m (Qht b m c cs x k) (Ze 0) (Qp 0)).info=some (Ze 0,Qp 0,#[],[(b,true)]):=by kernel_rfl
def Qhu:Goroutine:=(Qc prog 168 m (Qht b m c cs x k) (Ze 0) (Qp 0)).get (Qht b m c cs x k)
def Q8l:Qm prog 168 m 4 (Qhu b m c cs x k)=some []:=by kernel_rfl
def Q8m:Qj prog 168 m 4 (Qhu b m c cs x k)=Jf b m c cs (.int .i64 0) (.bool false) (.bool false) (tmF (Qj prog 168 m 4 (Qhu b m c cs x k)) 5) (Ze 0) (tmF (Qj prog 168 m 4 (Qhu b m c cs x k))):=by kernel_rfl
end
section
variable(b:Nat)(m:Bool)(c:Frame)(cs:List Frame)(x:Nat->Value)
def Zhf:Qm prog 168 m 71 (Jf b m c cs (.int .i64 0) (.bool false) (.bool false) (.int .i64 4) (Ze 1) x)=some []:=by kernel_rfl
def Qef:Goroutine:=Qj prog 168 m 71 (Jf b m c cs (.int .i64 0) (.bool false) (.bool false) (.int .i64 4) (Ze 1) x)
def Qyj:(Qc prog 168 m (Qef b m c cs x) (Ze 1) (Qp 0)).info=some (Ze 9,Qp 0,#[Jg b 0,evW b 0],[(b,true),(b,true),(b,false),(b,false)]):=by kernel_rfl
def Qhs:Goroutine:=(Qc prog 168 m (Qef b m c cs x) (Ze 1) (Qp 0)).get (Qef b m c cs x)
def Q8i:Qm prog 168 m 25 (Qhs b m c cs x)=some []:=by kernel_rfl
def Zhe:(Qc prog 168 m (Qef b m c cs x) (Ze 0) (Qp 0)).info=some (Ze 0,Qp 0,#[Jg b 0],[(b,true),(b,false),(b,false)]):=by kernel_rfl
def Qs4:Goroutine:=(Qc prog 168 m (Qef b m c cs x) (Ze 0) (Qp 0)).get (Qef b m c cs x)
def Q8f:Qm prog 168 m 6 (Qs4 b m c cs x)=some []:=by kernel_rfl
def Qhq:Goroutine:=Qj prog 168 m 6 (Qs4 b m c cs x)
def Qs5:(Qc prog 168 m (Qhq b m c cs x) (Ze 0) (Qp 0)).info=some (Ze 0,Qp 0,#[],[(b,true)]):=by kernel_rfl
def Qhr:Goroutine:=(Qc prog 168 m (Qhq b m c cs x) (Ze 0) (Qp 0)).get (Qhq b m c cs x)
def Q8g:Qm prog 168 m 4 (Qhr b m c cs x)=some []:=by kernel_rfl
def Q8h:Qj prog 168 m 4 (Qhr b m c cs x)=Jf b m c cs (.int .i64 0) (.bool false) (.bool false) (tmF (Qj prog 168 m 4 (Qhr b m c cs x)) 5) (Ze 0) (tmF (Qj prog 168 m 4 (Qhr b m c cs x))):=by kernel_rfl
def tmN(b:Nat)(x:Nat->Value):Array Value:=#[.pointer (some ⟨b,0,none⟩),x 1,x 2,.bool false,x 4,x 5,x 6,x 7,x 8,x 9,x 10,x 11,x 12,x 13,x 14,x 15,x 16,x 17,x 18,x 19,x 20,x 21,x 22,x 23,x 24,x 25,x 26,x 27,x 28,x 29,x 30,x 31,x 32,x 33,x 34,x 35,x 36,x 37,x 38,x 39,x 40,x 41,x 42,x 43,x 44,x 45,x 46,x 47,x 48,x 49,x 50,x 51,x 52,x 53,x 54,x 55,x 56,x 57,x 58,x 59,x 60,x 61,x 62,x 63,x 64,x 65,x 66,x 67,x 68,x 69,x 70,x 71,x 72,x 73,x 74,x 75,x 76,x 77,x 78,x 79,x 80,x 81,x 82,x 83,x 84,x 85,x 86,x 87,x 88,x 89,x 90,x 91,x 92,x 93,x 94,x 95,x 96,x 97,x 98,x 99,x 100,x 101,x 102,x 103,x 104,x 105,x 106,x 107,x 108,x 109,x 110,x 111,x 112,x 113,x 114,x 115,x 116,x 117,x 118,x 119,x 120,x 121,x 122,x 123,x 124,x 125,x 126,x 127,x 128,x 129,x 130,x 131,x 132,x 133,x 134,x 135,x 136,x 137,x 138]
def Qir(b:Nat)(m:Bool)(c:Frame)(cs:List Frame)(x:Nat->Value):Goroutine:=Zf0 (Qj prog 168 m 25 (Qhs b m c cs (λ _=>undef))) (tmN b x)
def Q8j:Qj prog 168 m 25 (Qhs b m c cs x)=Qir b m c cs (tmF (Qj prog 168 m 25 (Qhs b m c cs x))):=by kernel_rfl
def Q8o(k:Int):Qj prog 168 m 25 (Qk1 b m c cs x k)=Qir b m c cs (tmF (Qj prog 168 m 25 (Qk1 b m c cs x k))):=by kernel_rfl
end
end Go.Proofs
end
