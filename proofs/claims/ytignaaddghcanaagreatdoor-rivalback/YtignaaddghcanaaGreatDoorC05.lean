/- Lemmas. No conditions. -/
import Derived.Lib.Bytealg
import Derived.Test.YtignaaddghcanaaGreatDoorC04
import Derived.Test.YtignaaddghcanaaGreatDoorB31
set_option linter.all false
open List
namespace Go.TM
variable{c:UInt8}{x s:ByteArray}
section
open Go
def ixB(s:ByteArray)(c:UInt8):Int:=Lib.indexByte s.data.toList c
def Qvf(a b:ByteArray):(a.toList==b.toList)=decide (a=b):=by
 by_cases h:a=b
 .simp[h]
 .have:a.toList≠b.toList:=λ e=>h (by
   rw[ByteArray.toList_eq,ByteArray.toList_eq]at e;exact ByteArray.ext (Array.toList_inj.1 e))
  simp[h,this]
def NoB(c:UInt8)(s:ByteArray):Prop:=c∉s.data.toList
def byB(c:UInt8):ByteArray:=⟨#[c]⟩
def Qbd(c:UInt8):(byB c).size=1:=rfl
def Zt5(c:UInt8):∀(x y:List UInt8),c∉x->Lib.indexByte (x++c::y) c=x.length
 |[],y,_=>by simp[Lib.indexByte]
 |a::x,y,h=>by
  have b:(a==c)=false:=by
   rw[beq_eq_false_iff_ne];rintro rfl;exact h (mem_cons_self ..)
  have f:=Zt5 c x y (λ z=>h (mem_cons_of_mem _ z));rw[cons_append,Lib.indexByte,b,f];have w:(((x.length:Nat):Int)==-1)=false:=by rw[beq_eq_false_iff_ne];omega
  rw[w];simp
def Zs6(c:UInt8):∀(x:List UInt8),c∉x->Lib.indexByte x c = -1
 |[],_=>rfl
 |a::x,h=>by
  have b:(a==c)=false:=by
   rw[beq_eq_false_iff_ne];rintro rfl;exact h (mem_cons_self ..)
  rw[Lib.indexByte,b,Zs6 c x (λ f=>h (mem_cons_of_mem _ f))];rfl
def Zpm(y:ByteArray)(h:NoB c x):ixB (x++byB c++y) c=x.size:=by
 unfold ixB;have:(x++byB c++y).data.toList=x.data.toList++c::y.data.toList:=by simp[byB]
 rw[this,Zt5 c _ _ h];simp
def Zww(h:NoB c x):ixB x c = -1:=Zs6 c _ h
def Zwr(x y:ByteArray):(x++y).extract 0 x.size=x:=by
 apply ByteArray.ext;simp
def Zxy(x y:ByteArray):(x++y).extract x.size (x++y).size=y:=by
 apply ByteArray.ext;rw[ByteArray.size_append];simp only[ByteArray.data_extract,ByteArray.data_append,Array.extract_append,ByteArray.size_data];rw[Array.extract_eq_empty_of_le S1,Nat.sub_self,Nat.add_sub_cancel_left,<- ByteArray.size_data,Array.extract_size,Array.empty_append]
def Zwp(c:UInt8)(x y:ByteArray):(x++byB c++y).extract 0 x.size=x:=by rw[ByteArray.append_assoc];exact Zwr x _
def Zwq(c:UInt8)(x y:ByteArray):(x++byB c++y).extract (x.size+1) (x++byB c++y).size=y:=by
 have h:=Zxy (x++byB c) y
 rwa [ByteArray.size_append (a:=x),Qbd]at h
def Zx7(c:UInt8)(x y:ByteArray):(x++byB c++y).extract 0 (x.size+1)=x++byB c:=by
 have h:=Zwr (x++byB c) y
 rwa [ByteArray.size_append,Qbd]at h
def Qvj(c:UInt8)(x y:ByteArray):(x++byB c++y).size=x.size+1+y.size:=by rw[ByteArray.size_append,ByteArray.size_append,Qbd]
def Zty(s:ByteArray)(c:UInt8):Bool:=decide (1<=s.size)&&decide (s.extract (s.size-1) s.size=byB c)
def Zw9(c:UInt8)(x:ByteArray):Zty (x++byB c) c=true:=by
 unfold Zty;have h:=Zxy x (byB c);have e:(x++byB c).size=x.size+1:=by rw[ByteArray.size_append,Qbd]
 rw[e]at h ⊢;rw[Nat.add_sub_cancel,h];simp
def Zvn(h:NoB c s):Zty s c=false:=by
 unfold Zty;by_cases f:1<=s.size
 .have:s.extract (s.size-1) s.size≠byB c:=λ e=>h (by
   have b:c∈(s.extract (s.size-1) s.size).data.toList:=by rw[e];simp[byB]
   rw[ByteArray.data_extract,Array.toList_extract]at b;exact mem_of_mem_drop (mem_of_mem_take b))
  simp[this]
 .simp[f]
def Zrj(c:UInt8)(l:List UInt8)(h:c∉l):Lib.countByte l c=0:=count_eq_zero.2 h
def Zx1(s:ByteArray)(c:UInt8):Extern.BytealgIndexByte.indexByte #[.string s,.int .u8 (c.toNat:Int)]=pure (.int .i64 (ixB s c)):=by
 unfold ixB;rw[<- Lib.firstIdx_eq];show(match(range s.size).find? λ i=>(s[i]!)==((c.toNat:Int).toNat).toUInt8 with|some i=>pure (goInt i)|none=>pure (goInt (-1)):Sem Value)=_;have b:((c.toNat:Int).toNat).toUInt8=c:=S1
 rw[b];unfold firstIdx;cases(range s.size).find? λ i=>(s[i]!)==c <;> rfl
def Zxq(s:ByteArray)(c:UInt8):Extern.BytealgCount.count #[.string s,.int .u8 (c.toNat:Int)]=pure (.int .i64 (Lib.countByte s.data.toList c:Nat)):=by
 have b:((c.toNat:Int).toNat).toUInt8=c:=S1
 show(pure (goInt (s.foldl (λ n x=>if x==((c.toNat:Int).toNat).toUInt8 then n+1 else n) (0:Nat))):Sem Value)=_;rw[b,Lib.foldl_data,Lib.count_foldl];simp[goInt]
def Qal(sep:ByteArray):List ByteArray->ByteArray
 |[]=>ByteArray.empty
 |a::r=>r.foldl (λ x s=>x++sep++s) a
def Zxz(sep p:ByteArray):∀(r:List ByteArray)(a:ByteArray),r.foldl (λ x s=>x++sep++s) (p++a)=p++r.foldl (λ x s=>x++sep++s) a
 |[],_=>rfl
 |s::r,a=>by
  rw[foldl_cons,foldl_cons,<- Zxz sep p r];congr 1;rw[ByteArray.append_assoc,ByteArray.append_assoc,ByteArray.append_assoc]
def Qo5(sep x y:ByteArray)(r:List ByteArray):Qal sep (x::y::r)=x++sep++Qal sep (y::r):=Zxz sep (x++sep) r y
def Zri(c:UInt8):∀(l:List ByteArray),l≠[]->(∀x∈l,NoB c x)->Lib.countByte (Qal (byB c) l).data.toList c+1=l.length
 |[],h,_=>absurd rfl h
 |[x],_,h=>by
  have:=Zrj c _ (h x (mem_cons_self ..));show Lib.countByte x.data.toList c+1=1;omega
 |x::y::r,_,h=>by
  have b:=Zrj c _ (h x (mem_cons_self ..));have f:=Zri c (y::r) S1 λ z w=>h z (mem_cons_of_mem _ w);rw[Qo5];have e:(x++byB c++Qal (byB c) (y::r)).data.toList=x.data.toList++c::(Qal (byB c) (y::r)).data.toList:=by simp[byB]
  rw[e];unfold Lib.countByte at b f ⊢;rw[count_append,count_cons,b];simp only[beq_self_eq_true,if_true,length_cons]at f ⊢;omega
def Zx0(c:UInt8)(s:ByteArray):Lib.countByte s.data.toList c<=s.size:=by
 have:s.data.toList.length=s.size:=by rw[Array.length_toList];rfl
 rw[<- this];exact count_le_length
end
structure Bk.Ord(b:Bk)(o:List Nat):Prop where
 len:o.length=b.cs.length
 low:∀i∈o,i<b.cs.length
 nod:o.Nodup
 aft:∀X i Y,o=X++i::Y->∀k∈Jf b.A i,k∈X
def Bk.nexts(b:Bk)(o:List Nat):List Nat:=(range b.cs.length).filter λ i=>b.can o i
structure Bk.Beg(b:Bk)(o:List Nat):Prop where
 low:∀i∈o,i<b.cs.length
 nod:o.Nodup
 aft:∀X i Y,o=X++i::Y->∀k∈Jf b.A i,k∈X
structure Bk.Turn(b o:Bk)(p q:Nat->Nat):Prop where
 rs:o.rs=b.rs
 n:o.cs.length=b.cs.length
 pl:∀i,i<b.cs.length->p i<b.cs.length
 ql:∀i,i<b.cs.length->q i<b.cs.length
 qp:∀i,i<b.cs.length->q (p i)=i
 pq:∀i,i<b.cs.length->p (q i)=i
 nm:∀i,i<b.cs.length->(o.cas i).nm=(b.cas (p i)).nm
 ag:∀i,i<b.cs.length->(o.cas i).ag=(b.cas (p i)).ag
 gs:∀i,i<b.cs.length->(o.cas i).gs=(b.cas (p i)).gs
 af:∀i,i<b.cs.length->∀k,k<b.cs.length->(k∈Jf o.A i↔p k∈Jf b.A (p i))
