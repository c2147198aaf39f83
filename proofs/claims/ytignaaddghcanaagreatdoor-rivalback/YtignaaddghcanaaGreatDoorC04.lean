/- Lemmas. No conditions. -/
import Derived.Lib.UnsafeStr
import Derived.Test.YtignaaddghcanaaGreatDoorB30
set_option linter.all false
set_option linter.unusedSimpArgs false
open List
namespace Go.TM
variable{T:Type}{P:Program}{U:Qa T}{g l u t2 ty n N:Nat}{j F:Option Value}{Q:Nat×Nat×Nat->Qa T->Prop}{S:Sys P T}{f:Fm}{K:Value->Qa T->Prop}{t L t' G E:TypeId}{x y:Operand}{lo w:Option Operand}{s:ByteArray}{a:Option Addr}{v i:Value}{cs:List Value}{M₀ M':List Qw}{c:Array Value}{k:Addr}{z:TypeInfo}{fn:Func}{e:Array Value->Sem Value}{args:Array Operand}{b:Array TypeId}{d:TypeDesc}{H:Array (String×TypeId)}{name:String}
def Q33(s:ByteArray):List Value:=s.data.toList.map λ u=>.int .u8 (u.toNat:Int)
def Znk(s:ByteArray):(Q33 s).length=s.size:=by simp[Q33]
def Zs2(s:ByteArray):s.extract 0 s.size=s:=ByteArray.ext (by rw[ByteArray.data_extract];exact Array.extract_size ..)
def Zw6(s:ByteArray):((s.extract 0 s.size).data.map λ b=>Value.int .u8 (b.toNat:Int))=(Q33 s).toArray:=by
 rw[Zs2];apply Array.ext';simp[Q33]
def Zw7(s t:ByteArray):Q33 (s++t)=Q33 s++Q33 t:=by simp[Q33]
def Ztc:Q33 ByteArray.empty=[]:=rfl
def Ztd(s:ByteArray):∀w∈Q33 s,w.single=true:=by
 intro w b;obtain⟨u,-,rfl⟩:=mem_map.1 b;rfl
def sbS(b:Ot g j F=some ((l:Int),(u:Int)))(B:l<=u)(E:u<=g)(f:Q (l,u,g) U):Qq P (Instr.sliceBounds false g g j F none) Q U:=by
 unfold Ot at b;split at b
 .simp only[Option.some.injEq,Prod.mk.injEq]at b;obtain rfl:l=0:=O1
  obtain rfl:u=g:=O1
  unfold Instr.sliceBounds;simp only[Qd,Qk];exact f
 .simp only[Option.some.injEq,Prod.mk.injEq]at b;obtain⟨w,z⟩:=b;obtain rfl:u=g:=O1
  unfold Instr.sliceBounds;simp only[Qd,Qk];exact HB w B f
 .simp only[Option.some.injEq,Prod.mk.injEq]at b;obtain⟨w,z⟩:=b;obtain rfl:l=0:=O1
  unfold Instr.sliceBounds;simp only[Qd,Qk];exact HB z E f
 .simp only[Option.some.injEq,Prod.mk.injEq]at b;unfold Instr.sliceBounds;simp only[Qd,Qk];exact HB b.2 E (HB b.1 B f)
 .cases b
def Qf5(l h:Nat)(H:P.underlying t=some .string)(I:Zg f x=.string s)(F:Ot s.size (lo.map (Zg f)) (w.map (Zg f))=some ((l:Int),(h:Int)))(B:l<=h)(E:h<=s.size)(G:K (.string (s.extract l h)) U) :
  OX S (.rw (.slice t x lo w none) L) f K U:=by
 intro a b;have e:∀o:Option Operand,o.map a.eval=o.map (Zg f):=λ o=>by cases o <;> simp[b]
 simp only[execOp,b,I,e];refine rq ?_;have z:(none:Option Operand).map (Zg f)=none:=rfl;simp only[Instr.sliceAt,Instr.slice,z,Qd,Ze H,Option.isSome_none,Bool.false_eq_true,if_false,Qk];exact sbS F B E ⟨U,.refl _,G⟩
def Zuc{a b:ByteArray}(E:Zg f x=.string a)(F:Zg f y=.string b)(H:a.size+b.size<2^60)(h:K (.string (a++b)) U) :
  OX S (.rw (.binOp .add t x y t') G) f K U:=by
 intro a' w;simp only[execOp,w,E,F];refine rq ?_;rw[Qd];show Qq P (Op.stringOp .add a b) _ U;unfold Op.stringOp;have z:IntKind.i64.max=9223372036854775807:=D1
 have B:¬((a.size+b.size:Nat):Int) > IntKind.i64.max:=by rw[z];omega
 simp only[B,if_false];exact⟨U,.refl _,h⟩
def Zwm:Value->Nat
 |.slice _ _ c=>c
 |_=>0
def Zub(B:P.underlying t=some (.slice t'))(E:Zg f x=.slice a l g)(w:K (.int .i64 g) U) :
  OX S (.rw (.call { callee:=.builtin .cap,args:=#[x],argTypes:=#[t] }) L) f K U:=by
 intro a' h;have z:(#[x]:Array Operand).map a'.eval=#[.slice a l g]:=by simp[h,E]
 simp only[execOp,resolve,z,Qd,Qk,invoke,builtin];show Qq P (Builtin.cap_ #[t] L #[.slice a l g]) _ U;unfold Builtin.cap_;simp only[getElem?_toArray,getElem?_cons_zero,Qd,Ze B];exact⟨U,.refl _,w⟩
def Zw1(k:X3 P l g 1)(aj:P.underlying t2=some .string)
  (hx:Zg f x=v) (hy:Zg f y=.string s) (ha:Acc g 1 v cs U.M M₀) (al:cs.length+s.size<=1048576)
  (h:∀Z M',Acc g 1 Z (cs++Q33 s) M' M₀->(0<Zwm Z\/Z=.nl)->K Z { U with M:=M' }) (L:0<Zwm v\/v=.nl) :
  OX S (.rw (.call { callee:=.builtin .append,args:=#[x,y],argTypes:=#[l,t2] }) ty) f K U:=by
 obtain⟨H,z,w,ai,hz,ak,ab,I⟩:=k.i;have hu:=k.u;intro a' ae;obtain⟨sa,sl,sc,G,N,ah⟩:=ha.src;rw[Nat.mul_one]at N;have X:=Znk s;have hm:(#[x,y]:Array Operand).map a'.eval=#[.slice sa sl sc,.string s]:=by simp[ae,hx,hy,G]
 have V:∀{Q:Array Value->Qa T->Prop},Q (Q33 s).toArray U->Qq P (Builtin.firstCells 1 s.size (.string s)) Q U:=λ{Q}hq=>by
  show Q ((s.extract 0 s.size).data.map λ b=>Value.int .u8 b.toNat) U;rw[Zw6];exact hq
 simp only[execOp,resolve,hm,Qd,Qk,invoke,builtin];show Qq P (Builtin.append_ #[l,t2] ty #[.slice sa sl sc,.string s]) _ U;unfold Builtin.append_;simp only[getElem?_toArray,getElem?_cons_zero,getElem?_cons_succ,Qd,Ze hu,Ze aj,Je w,ai,Qk,Bool.false_eq_true,if_false,Builtin.lenOf,We w,false_or,Bool.not_false,if_true];split
 .rename_i hle;rw[Qd];refine V ?_;rcases ha with⟨rfl,rfl,F⟩|⟨b,c,len,cap,rfl,h1,h2,h3,F,h4⟩
  .cases G;have h0:s.size=0:=O1
   have W:Q33 s=[]:=eq_nil_of_length_eq_zero O1;rw[h0];exact⟨U,.refl _,h .nl U.M (by rw[W];exact .inl ⟨rfl,rfl,F⟩) (.inr rfl)⟩
  .cases G;simp only[Qd];refine GQ _ _ _ ?_;rw[Qo];have B:0+sl*1+0+(Q33 s).length<=c.size:=by rw[h3,X];omega
   refine G8 _ _ c U F (Ztd s) B ?_;refine⟨_,.refl _,h _ _ (.inr ⟨b,_,sl+s.size,sc,rfl,by rw[length_append,X];omega,hle,by rw[Vu];exact h3,rfl,λ i x w=>?_⟩) (.inl (L.elim id λ g=>by cases g))⟩;rw[P8 _ _ _ _ _ B];simp only[getElem?_append]at w;split at w
   .rename_i ag;rw[if_neg O1];exact h4 i x w
   .rename_i hge;have ag:=(List.getElem?_eq_some_iff.1 w).1;rw[if_pos O1];rw[show i-(0+sl*1+0)=i-cs.length by omega];exact w
 .rename_i hgt;have ac:¬(((sl+s.size:Nat):Int) > IntKind.i64.max/\H.bytes=0):=λ h=>ab h.2
  have ad:¬(Builtin.nextslicecap (sl+s.size) sc*H.bytes > 2^48):=by
   have:=QD (need:=sl+s.size) (old:=sc) O1;have h2:Builtin.nextslicecap (sl+s.size) sc*H.bytes<=(2*(sl+s.size)+192)*1024:=Nat.mul_le_mul this I;have aa:(2:Nat)^48=281474976710656:=D1
   rw[aa];omega
  simp only[We w,Qd];rw[if_neg ac];simp only[We w,Qd];rw[if_neg ad];simp only[choose,Qd];show ∀Y,Qq P _ _ U;intro Y;show Qq P (typeInfo g) _ U;rw[We w];refine PG ?_;refine XK ah O1 ?_;refine V ?_;simp only[Xk w hz];refine Jg λ b' am=>?_;have E:sl+s.size<=Question.cut (.appendCap (sl+s.size) sc g) Y:=by simp only[Question.cut];omega
  refine⟨_,Zz (M':=.obj b' (.cells (cs.toArray++(Q33 s).toArray++Builtin.zeroCells z.cells (Question.cut (.appendCap (sl+s.size) sc g) Y-(sl+s.size))) g)::M₀) ?_,?_⟩
  .show Sublist _ (.obj b' _::U.M);refine Sublist.cons_cons _ ?_;rcases ha with⟨rfl,rfl,F⟩|⟨b,c,len,cap,rfl,h1,h2,h3,F,h4⟩
   .rw[F];exact Sublist.refl _
   .rw[F];exact sublist_cons_self _ _
  .refine h _ _ (.inr ⟨b',_,sl+s.size,Question.cut (.appendCap (sl+s.size) sc g) Y,rfl,by rw[length_append,X];omega,E,?_,rfl,λ i x w=>?_⟩) (.inl (Nat.lt_of_lt_of_le O1 E))
   .simp only[Array.size_append,size_toArray,N,X,Builtin.zeroCells,Array.size_map,Array.size_range,ak];omega
   .have:(cs.toArray++(Q33 s).toArray)=(cs++Q33 s).toArray:=S1
    rw[this,Array.getElem?_append_left (by simpa using(List.getElem?_eq_some_iff.1 w).1)];simpa using w
def Zq2(E:Zg f x=.slice a l g)(z:a.isSome=true->g≠0)(h:K (.pointer a) U) :
  OX S (.rw (.call { callee:=.builtin .unsafeSliceData,args:=#[x],argTypes:=#[t] }) t') f K U:=by
 intro a' w;have B:(#[x]:Array Operand).map a'.eval=#[.slice a l g]:=by simp[w,E]
 simp only[execOp,resolve,B,Qd,Qk,invoke,builtin];show Qq P (Builtin.unsafeSliceData_ #[t] t' #[.slice a l g]) _ U;cases a with
 |none=>exact⟨U,.refl _,h⟩
 |some F=>
  obtain⟨k,rfl⟩:∃k,g=k+1:=⟨g-1,by have:=z rfl;omega⟩;exact⟨U,.refl _,h⟩
def Zo6{Q:ByteArray->Qa T->Prop}:∀(l:List UInt8)(a:Addr)(acc:ByteArray),(∀(j:Nat)(x:UInt8),l[j]?=some x->U.sees (a.add j) (.int .u8 x.toNat))->a.spot=none->Q ⟨acc.data++l.toArray⟩ U->Qq P (loadBytes a acc l.length) Q U
 |[],a,acc,_,_,f=>by simpa[loadBytes,Qk]using f
 |x::l,a,acc,h,w,f=>by
  have z:U.sees a (.int .u8 x.toNat):=by
   have:=h 0 x rfl;simpa[Addr.add]using this
  have B:((x.toNat:Int).toNat).toUInt8=x:=S1
  simp only[length_cons,loadBytes,Qd];refine SD z ?_;simp only[B];refine Zo6 l (a.add 1) (acc.push x) (λ j y E=>?_) (by obtain⟨b,o,s⟩:=a;cases w;rw[Qo]) ?_
  .rw[vF a w,Nat.add_comm];exact h (j+1) y (by simpa using E)
  .have:(⟨(acc.push x).data++l.toArray⟩:ByteArray)=⟨acc.data++(x::l).toArray⟩:=by
    apply ByteArray.ext;simp[ByteArray.push]
   rw[this];exact f
def Zq3{b:Nat}(hu:P.underlying l=some (.pointer ty))(H:P.cellsOf ty=1)(F:Zg f x=.pb b)(hy:Zg f y=.int .i64 n)(Z:n=s.size)(hs:s.size<=c.size)(X:s.size<2^60)
  (B:U.M=.obj b (.cells c ty (0,0))::M') (Q:∀(i:Nat)(x:Value),(Q33 s)[i]?=some x->c[i]?=some x) (h:K (.string s) { U with M:=M' }) :
  OX S (.rw (.call { callee:=.builtin .unsafeString,args:=#[x,y],argTypes:=#[l,g] }) t2) f K U:=by
 intro a' N;have Y:(#[x,y]:Array Operand).map a'.eval=#[.pb b,.int .i64 n]:=by simp[N,F,hy]
 simp only[execOp,resolve,Y,Qd,Qk,invoke,builtin];show Qq P (Builtin.unsafeString_ #[l,g] t2 #[.pb b,.int .i64 n]) _ U
 have w:Qv U { U with M:=M' }:=by
  have:=Zz (U:=U) (M':=M') (by rw[B];exact sublist_cons_self _ _);exact this
 have T:¬((n:Int)<0):=O1
 have F:¬((n:Int) > IntKind.i64.max):=by
  have:IntKind.i64.max=9223372036854775807:=D1
  rw[this];omega
 show Qq P (if(n:Int)<0 then runtimePanic (.error "unsafe.String: len out of range")else if(n:Int) > IntKind.i64.max then unsupported (.unsafePointer "String: a length above the largest int")else
  if(n:Int)=0 then pure (.string .empty)else(elemOf l >>= λ e'=>variablesAt ⟨b,0,none⟩ e' (n:Int).toNat >>= λ ok=>if ok=true then(loadBytes ⟨b,0,none⟩ .empty (n:Int).toNat >>= λ s=>freeze ⟨b,0,none⟩ (n:Int).toNat >>= λ _=>pure (.string s))else unsupported (.unsafePointer "String: not so many bytes at ptr")):Sem Value) _ U
 rw[if_neg T,if_neg F];by_cases G:(n:Int)=0
 .rw[if_pos G];have E:s=ByteArray.empty:=by apply ByteArray.ext;apply Array.eq_empty_of_size_eq_zero;show s.size=0;omega
  subst E;exact⟨_,w,h⟩
 .rw[if_neg G];simp only[elemOf,Qd,Ze hu,Qk,variablesAt,program,Qq,shape];refine⟨.cells c ty (0,0),.inr (by rw[B];exact mem_cons_self ..),?_⟩;have W:liesAt P P.depth ty (c.size / P.cellsOf ty) 0 ty n=true:=Go.Lib.liesAt_bytes H _ _ (by rw[H,Nat.div_one];omega);simp only[Obj.shapeOf,Qd,Qk,Int.toNat_natCast,W,if_true];have z:n=s.data.toList.length:=by rw[Z,Array.length_toList];rfl
  rw[z];refine Zo6 s.data.toList _ _ (λ j u V=>?_) rfl ?_
  .rw[Qo];have L:(Q33 s)[j]?=some (.int .u8 (u.toNat:Int)):=by simp only[Q33,getElem?_map,V,Option.map_some]
   exact⟨rfl,.inl ⟨c,ty,(0,0),.inr (by rw[B];exact mem_cons_self ..),by simpa using Q j _ L⟩⟩
  .have e1:(⟨ByteArray.empty.data++s.data.toList.toArray⟩:ByteArray)=s:=by apply ByteArray.ext;simp
   rw[e1];show s.data.toList.length≠0/\_;refine⟨O1,c,ty,M',B,_,?_,h⟩;exact Zz (U:={ U with M:=_ }) (sublist_cons_self _ _)
def Zqm(z:Zg f x=.pointer none)(B:Zg f y=.int .i64 0)(h:K (.string ByteArray.empty) U) :
  OX S (.rw (.call { callee:=.builtin .unsafeString,args:=#[x,y],argTypes:=#[l,g] }) u) f K U:=by
 intro a' b;have w:(#[x,y]:Array Operand).map a'.eval=#[.pointer none,.int .i64 0]:=by simp[b,z,B]
 simp only[execOp,resolve,w,Qd,Qk,invoke,builtin];exact⟨U,.refl _,h⟩
def Zql(E:P.underlying t=some (.pointer L))(F:Zg f x=.pointer a)(h:K (.bool a.isNone) U) :
  OX S (.rw (.binOp .eql t x (.const (.pointer none)) t') G) f K U:=by
 intro a' B;simp only[execOp,B,F];refine rq ?_;show Qq P (do eqGuard .eql t x (.const (.pointer none)) (.pointer a) (.pointer none);binOp .eql t (.pointer a) (.pointer none)) _ U;rw[Qd];have w:eqGuard .eql t x (.const (.pointer none)) (.pointer a) (.pointer none)=pure ():=rfl;rw[w,Qk];show Qq P (Op.equal t (.pointer a) (.pointer none) >>= λ b=>pure (Value.bool b)) _ U;have z:Op.equal t (.pointer a) (.pointer none)=Op.equalIn (9999+1) t (.pointer a) (.pointer none):=rfl;rw[Qd,z,Op.equalIn,Qd,Ze E];cases a with
 |none=>exact⟨U,.refl _,h⟩
 |some H=>exact⟨U,.refl _,h⟩
def Ztx{e N:TypeId}{w:TypeInfo}(H:P.underlying t=some (.pointer e))(G:P.info? e=some w)(z:w.size≠0)(I:Zg f x=.pointer (some k))(L:Zg f y=.pointer (some k))(h:K (.bool false) U) :
  OX S (.rw (.binOp .neq t x y t') N) f K U:=by
 intro a' F;simp only[execOp,F,I,L];refine rq ?_;show Qq P (do eqGuard .neq t x y (.pointer (some k)) (.pointer (some k));binOp .neq t (.pointer (some k)) (.pointer (some k))) _ U;rw[Qd];have B:eqGuard .neq t x y (.pointer (some k)) (.pointer (some k))=pure ():=rfl;rw[B,Qk];show Qq P (Op.equal t (.pointer (some k)) (.pointer (some k)) >>= λ b=>pure (Value.bool (!b))) _ U;have E:Op.equal t (.pointer (some k)) (.pointer (some k))=Op.equalIn (9999+1) t (.pointer (some k)) (.pointer (some k)):=rfl;rw[Qd,E,Op.equalIn,Qd,Ze H];simp only[Qd,Je G,ne_eq,z,not_false_eq_true,if_true,sameAddr,beq_self_eq_true];exact⟨U,.refl _,h⟩
def Zr7(E:P.underlying l=some (.pointer g))(w:P.underlying u=some .unsafePointer)(H:P.info? g=some z)(I:z.size≠0)(L:Zg f x=.pb ty)(Q:0<c.size)(B:∃fr,U.has ty (.cells c t' fr))(h:K (.pb ty) U) :
  OX S (.rw (.convert l u x) N) f K U:=by
 intro a' G;simp only[execOp,G,L];refine rq ?_;unfold convert;obtain⟨fr,B⟩:=B;simp only[Qd,Ze E,Ze w];show Qq P (Conv.unsafePointer l u (.pb ty)) _ U;unfold Conv.unsafePointer;simp only[Qd,Ze E,Ze w,Conv.seenAt,viewAt,cellsIn,shape,Qq];refine⟨_,B,?_⟩;simp only[Obj.shapeOf,Option.isSome_some,if_true,Qk,Qq,Qd];refine⟨_,B,?_⟩;simp only[Obj.shapeOf,Qk,Qd,Je H];rw[if_neg]
 .exact⟨U,.refl _,h⟩
 .simp only[Bool.or_eq_true,Bool.and_eq_true,decide_eq_true_eq];omega
def Zr6{E:TypeInfo}(F:P.underlying l=some (.pointer g))(w:P.underlying u=some .unsafePointer)(H:P.info? g=some E)(L:Zg f x=.pb ty)(I:liesAt P P.depth t' (c.size / P.cellsOf t') 0 g 1=true)(z:∃fr,U.has ty (.cells c t' fr))(h:K (.pb ty) U) :
  OX S (.rw (.convert u l x) N) f K U:=by
 intro a' G;simp only[execOp,G,L];refine rq ?_;unfold convert;obtain⟨fr,z⟩:=z;simp only[Qd,Ze F,Ze w];show Qq P (Conv.unsafePointer u l (.pb ty)) _ U;unfold Conv.unsafePointer;simp only[Qd,Ze F,Ze w,Conv.seenAt,viewAt,shape,Qq,variablesAt,program];refine⟨_,z,?_⟩;simp only[Obj.shapeOf,Option.isSome_some,if_true,Qk,Qq,Qd,Je H];refine⟨_,z,?_⟩;simp only[Obj.shapeOf,Qk,Qd,I,Bool.or_true,if_true];exact⟨U,.refl _,h⟩
def Zud(H:P.funcs[g]?=some fn)(I:(fn.name== "runtime.NumGoroutine", fn.body.isNone)=(false,true))(E:Extern.findNext fn=none)(F:Extern.find fn=some e)
  (h:Qq P (e (args.toList.map (Zg f)).toArray) (λ v U'=>∃z,Qv U' z/\K v z) U) :
  OX S (.rw (.call { callee:=.value (.func g),args:=args,argTypes:=b }) l) f K U:=by
 intro a' B;obtain⟨N,G⟩:=by simpa only[Prod.mk.injEq]using I
 have L:args.map a'.eval=(args.toList.map (Zg f)).toArray:=by rw[show a'.eval=Zg f from funext B];apply Array.ext';simp
 have w:a'.eval (.func g)=.func (.func g) #[] #[]:=(B _).trans rfl;simp only[execOp,resolve,L,w,Qd,Qk,invoke,Deferred.ofValue,callFunc,program,Qq,H,N,G,Bool.false_eq_true,if_false,if_true,mark,E,F];refine⟨rfl,?_⟩;simp only[Array.empty_append,Array.append_empty];exact h
def Zqk(E:P.funcs[g]?=some fn)(F:(fn.name== "runtime.NumGoroutine", fn.body.isNone)=(false,true))(w:Extern.findNext fn=none)(z:Extern.find fn=some e)
  (B:e (args.toList.map (Zg f)).toArray=pure v) (h:K v U):OX S (.rw (.call { callee:=.value (.func g),args:=args,argTypes:=b }) l) f K U:=
 Zud E F w z (by rw[B];exact⟨U,.refl _,h⟩)
def Zo5(z:P.underlying t=some d)(w:∀l,d≠.interface l)(B:Zg f x=v)(h:K (.iface t v) U) :
  OX S (.rw (.makeInterface t x) E) f K U:=by
 intro a' b;simp only[execOp,b,B];refine rq ?_;unfold Instr.makeInterface;rw[Qd,Ze z];cases d <;> first|exact⟨U,.refl _,h⟩|exact absurd rfl (w _)
def Qzu(z:P.underlying t=some d)(w:∀l,d≠.interface l)(B:Zg f x=.iface t v)(h:K (.tuple #[v,.bool true]) U) :
  OX S (.rw (.typeAssert x t' t true) E) f K U:=by
 intro a' b;simp only[execOp,b,B];refine rq ?_;unfold Instr.typeAssert;rw[Qd,Ze z];cases d <;> first|exact absurd rfl (w _)|(simp only[if_true];exact⟨U,.refl _,h⟩)
def Qo9{s:TypeId}{b:TypeInfo}(H:P.underlying t=some d)(F:∀l,d≠.interface l)(G:P.info? t=some b)(I:b.zero=some i)(B:t'≠t)(w:Zg f x=.iface t' v\/Zg f x=.nilIface)(h:K (.tuple #[i,.bool false]) U) :
  OX S (.rw (.typeAssert x s t true) L) f K U:=by
 intro a' E;simp only[execOp,E];refine rq ?_;unfold Instr.typeAssert;rw[Qd,Ze H];rcases w with w|w <;> rw[w] <;> cases d <;> first|exact absurd rfl (F _)|(simp only[B,if_false,if_true,Qd,Xk G I];exact⟨U,.refl _,h⟩)
def Zs9(B:P.underlying t=some (.interface H))(E:Zg f x=.nilIface->K (.bool true) U)(F:∀u v,Zg f x=.iface u v->K (.bool false) U)(h:Zg f x=.nilIface\/∃u v,Zg f x=.iface u v) :
  OX S (.rw (.binOp .eql t x (.const .nilIface) t') L) f K U:=by
 intro a' G;simp only[execOp,G];refine rq ?_;rcases h with h|⟨u,v,h⟩
 .rw[h];show Qq P (do eqGuard .eql t x (.const .nilIface) .nilIface .nilIface;binOp .eql t .nilIface .nilIface) _ U;rw[Qd]
  have w:eqGuard .eql t x (.const .nilIface) .nilIface .nilIface=pure ():=by
   unfold eqGuard;simp only[Bool.not_true,Bool.false_eq_true,if_false,Bool.or_true,if_true]
  rw[w,Qk];show Qq P (Op.equal t .nilIface .nilIface >>= λ b=>pure (Value.bool b)) _ U;have z:Op.equal t .nilIface .nilIface=Op.equalIn (9999+1) t .nilIface .nilIface:=rfl;rw[Qd,z,Op.equalIn,Qd,Ze B];exact⟨U,.refl _,E h⟩
 .rw[h];show Qq P (do eqGuard .eql t x (.const .nilIface) (.iface u v) .nilIface;binOp .eql t (.iface u v) .nilIface) _ U;rw[Qd];have w:eqGuard .eql t x (.const .nilIface) (.iface u v) .nilIface=pure ():=rfl;rw[w,Qk];show Qq P (Op.equal t (.iface u v) .nilIface >>= λ b=>pure (Value.bool b)) _ U;have z:Op.equal t (.iface u v) .nilIface=Op.equalIn (9999+1) t (.iface u v) .nilIface:=rfl;rw[Qd,z,Op.equalIn,Qd,Ze B];exact⟨U,.refl _,F u v h⟩
def Ztv(P:Program)(t:TypeId)(name:String)(g:FuncId):Bool:=
 (match P.info? t with|some b=>(match b.methods.find? (·.name==name)with|some m=>m.path.isEmpty&&(match m.func with|some (f,false)=>f==g|_=>false)|none=>false)|none=>false) &&
 (match P.underlying t with|some (.pointer _)=>false|some _=>true|none=>false)&&(P.funcs[g]?.any λ fd=>fd.body.isSome&&fd.name != "runtime.NumGoroutine")
def Ztw{H:Array TypeId}(T:Ztv P l name g=true)(hx:Zg f x=.iface l v)
  (h:Qb S g (v::args.toList.map (Zg f)).toArray (λ v U'=>JP U'->∃E,Qv U' E/\K v E) U) :
  OX S (.rw (.call { callee:=.invoke x name,args:=args,argTypes:=H }) ty) f K U:=by
 intro a' X;unfold Ztv at T;simp only[Bool.and_eq_true]at T;obtain⟨⟨b,G⟩,F⟩:=T;cases N:P.info? l with
 |none=>rw[N]at b;cases b
 |some W=>
 rw[N]at b;simp only at b;cases L:W.methods.find? (·.name==name)with
 |none=>rw[L]at b;cases b
 |some m=>
 rw[L]at b;simp only[Bool.and_eq_true,Array.isEmpty_iff]at b;obtain⟨hp,b⟩:=b;split at b
 .rename_i g' hg;obtain rfl:g'=g:=by simpa using b
  have V:args.map a'.eval=(args.toList.map (Zg f)).toArray:=by rw[show a'.eval=Zg f from funext X];apply Array.ext';simp
  simp only[execOp,resolve,V,X,hx,Qd,Qk,invoke,callMethod,program,Qq];have Y:(#[Value.iface l v]++(args.toList.map (Zg f)).toArray)[0]?=some (.iface l v):=S1
  have Z:(#[Value.iface l v]++(args.toList.map (Zg f)).toArray).extract 1=(args.toList.map (Zg f)).toArray:=by apply Array.ext';simp;exact take_of_length_le S1
  simp only[Y,Z,Qd,Qq,Qk];show Qq P (method (P.types.size+Made.depth) l v name) _ U;obtain⟨k,Q⟩:∃k,P.types.size+Made.depth=k+1:=⟨P.types.size+99,rfl⟩;rw[Q];simp only[method,Qd,We N,L,hp,follow,hg,receiverAt,Qk];cases I:P.underlying l with
  |none=>rw[I]at G;cases G
  |some d=>
   rw[I]at G;rw[Ze I]
   have key:Qq P (callFunc g' (#[v]++(args.toList.map (Zg f)).toArray)) (ZF S λ v U'=>∃E,Qv U' E/\K v E) U:=by
    cases w:P.funcs[g']? with
    |none=>rw[w]at F;cases F
    |some fd=>
     rw[w]at F;simp only[Option.any_some,Bool.and_eq_true,bne_iff_ne,ne_eq]at F;have B:fd.body.isNone=false:=by cases aa:fd.body <;> simp_all
     have z:(fd.name== "runtime.NumGoroutine")=false:=by simpa using F.2
     simp only[callFunc,program,Qd,Qq,w,z,B,Bool.false_eq_true,if_false,Qk,ZF];have e:#[v]++(args.toList.map (Zg f)).toArray=(v::args.toList.map (Zg f)).toArray:=S1
     rw[e];exact h.sep λ v U' hs Q=>⟨U',.refl _,Q hs⟩
   cases d <;> first|(simp at G;done)|exact key
 .cases b
def Zvj{b:TypeInfo}(F:P.underlying g=some (.slice u))(B:P.info? u=some b)(G:Zg f x=.slice a l N)(H:Zg f y=.nl)(h:K (.int .i64 0) U) :
  OX S (.rw (.call { callee:=.builtin .copy,args:=#[x,y],argTypes:=#[g,g] }) ty) f K U:=by
 intro a' z;have E:(#[x,y]:Array Operand).map a'.eval=#[.slice a l N,.nl]:=by simp[z,G,H]
 simp only[execOp,resolve,E,Qd,Qk,invoke,builtin];show Qq P (Builtin.copy_ #[g,g] ty #[.slice a l N,.nl]) _ U;unfold Builtin.copy_;simp only[getElem?_toArray,getElem?_cons_zero,getElem?_cons_succ,Qd,Ze F,Je B,Builtin.lenOf,Qk,Builtin.firstCells];have:Nat.min 0 l=0:=Nat.zero_min l;rw[this];cases a with
 |none=>exact⟨U,.refl _,h⟩
 |some I=>exact⟨U,.refl _,h⟩
