/- Lemmas. No conditions. -/
import Derived.Test.YtcakpkianonbkaaGreatDoorB46
import Derived.Test.YtcakpkianonbkaaGreatDoorB44
set_option linter.all false
open List
open Go.Proofs.Tryz (prog)
set_option maxRecDepth 100000
noncomputable section
namespace Go.TM
def Zqf{α:Type}{l:List α}(h:l.length=6):∃a b c d e f,l=[a,b,c,d,e,f]:=by
 cases l with
 |nil=>simp at h
 |cons a r=>
  cases r with
  |nil=>simp at h
  |cons b r=>obtain⟨c,d,e,f,rfl⟩:=Q54 (l:=r) (by simpa using h);exact⟨a,b,c,d,e,f,rfl⟩
end Go.TM
namespace Go.Proofs
open Go.TM Go.ChangeShapes Go.WideShapes Go.RowKit
noncomputable def Qyf:String:=(YtcakpkianonbkaaGreatDoor.Rows.rivalLateRow.named[1]?).getD Tryz.f6.name
def Zd1:List Int:=[31,28,31,30,31,30,31,31,30,31,30,31]
def Q4c:prog.globalNamed Qyf=some 1:=by kernel_rfl
def Zmg:(prog.globals[1]?).map (·.type)=some 185:=by kernel_rfl
def Zhz:prog.underlying 185=some (.array 12 3):=by kernel_rfl
def Qwi:prog.cellsOf 185=12:=by kernel_rfl
def Q73:(Qiq.filter λ x=>x.2.handleName?.isNone)=[(Qyf,.agg (Zd1.map λ n=>.lit (.int .i64 n)))]:=by kernel_rfl
def Zrt{W:World}(h:laidMetH prog Qiq W):Qzy (Qa.all W):=by
 have h1:=(laidMetH_iff.1 h).1;rw[Q73]at h1;obtain⟨ps,h2,-⟩:=h1;obtain⟨g,t,cs,fuel,p,q,hg,ht,hv,hd,-⟩:=h2;obtain rfl:=Option.some.inj (Q4c.symm.trans hg);obtain rfl:=Option.some.inj (Zmg.symm.trans ht);obtain⟨xs,m,-,hx,hl,hxl,hel⟩:=DataW.trod_array Zhz hd;rw[Qwi]at hl
 have hmap:xs.map (·.1)=Zd1.map λ n=>.lit (.int .i64 n):=by
  have:=(Prod.mk.inj hx).1;exact(DataW.agg.inj this).symm
 have hcs:cs=Zi7:=by
  apply Array.ext'
  have key:∀i,i<12->cs.toList[i]?=(Zd1[i]?).map λ n=>Value.int .i64 n:=by
   intro i hi;have h1:=hel i hi;obtain⟨x,hxi⟩:∃x,xs[i]?=some x:=⟨_,getElem?_eq_getElem (by omega)⟩;rw[hxi,Z8]at h1;obtain⟨n,e1,e2,-⟩:=DataW.trod_int Qae h1;have e3:(xs.map (·.1))[i]?=some x.1:=by rw[getElem?_map,hxi];rfl
   rw[hmap,getElem?_map,e2]at e3
   have e4:Zd1[i]?=some n:=by
    cases hn:Zd1[i]? with
    |none=>rw[hn]at e3;cases e3
    |some k=>
     rw[hn]at e3;have:(DataW.lit (.int .i64 k):DataW Unit)=.lit (.int .i64 n):=Option.some.inj e3;have:=(Lit.int.inj (DataW.lit.inj this)).2;rw[this]
   rw[e4];have e5:((cs.toList.drop (i*1)).take 1)[0]?=some (Value.int .i64 n):=by rw[e1];rfl
   rw[getElem?_take,if_pos (by omega),getElem?_drop]at e5;simpa using e5
  have hL:Zi7.toList=Zd1.map λ n=>Value.int .i64 n:=rfl;rw[hL];refine ext_getElem? λ i=>?_;rcases Nat.lt_or_ge i 12 with l|l
  .rw[key i l,getElem?_map]
  .rw[getElem?_eq_none (by omega),getElem?_eq_none (by show(Zd1.map _).length<=i;rw[length_map];exact l)]
 unfold World.var? at hv;rw[Q4c]at hv;simp only[Option.bind_some]at hv;split at hv
 .rename_i c t fr hb;cases hv;exact⟨t,fr,by rw[<- hcs];exact hb⟩
 .cases hv
section
variable{H:Type}{enc:TypeId×Value->H}{W:World}{fuel:Nat}{x:DataW H×List MemPlace}{v:Value}{cs:List Value}
def Ziq:prog.underlying 26=some (.int .i64):=by kernel_rfl
def Zir:prog.underlying 32=some (.int .u16):=by kernel_rfl
def Zip:prog.underlying 23=some (.slice 130):=by kernel_rfl
def Qyz:prog.underlying 29=some (.slice 116):=by kernel_rfl
def Zdi:prog.underlying 112=some (.slice 192):=by kernel_rfl
def Zdj:prog.underlying 113=some (.slice 118):=by kernel_rfl
def Zdk:prog.underlying 114=some (.slice 194):=by kernel_rfl
def Q72:Qbf prog 25 [(22,0),(23,1)]=true:=by kernel_rfl
def Zha:Qbf prog 28 [(3,0),(26,1)]=true:=by kernel_rfl
def Q7z:Qbf prog 130 [(3,0),(3,1)]=true:=by kernel_rfl
def Q70:Qbf prog 192 [(3,0),(3,1)]=true:=by kernel_rfl
def Q7y:Qbf prog 118 [(3,0),(3,1),(22,2)]=true:=by kernel_rfl
def Q71:Qbf prog 194 [(3,0),(28,1),(3,3),(3,4),(3,5)]=true:=by kernel_rfl
def Q7x:Qbf prog 116 [(9,0),(112,1),(113,2),(114,3)]=true:=by kernel_rfl
def Zhb:Qbf prog 31 [(25,0),(3,2),(28,3),(28,5),(28,7),(28,9),(28,11),(3,13),(29,14)]=true:=by kernel_rfl
def Zg5:prog.cellsOf 23=1:=by kernel_rfl
def Qxr:prog.cellsOf 25=2:=by kernel_rfl
def Zg6:prog.cellsOf 26=1:=by kernel_rfl
def Qbs:prog.cellsOf 28=2:=by kernel_rfl
def Zg7:prog.cellsOf 29=1:=by kernel_rfl
def Zg8:prog.cellsOf 31=15:=by kernel_rfl
def Q7p:prog.cellsOf 112=1:=by kernel_rfl
def Q7q:prog.cellsOf 113=1:=by kernel_rfl
def Q7r:prog.cellsOf 114=1:=by kernel_rfl
def Qrx:prog.cellsOf 116=4:=by kernel_rfl
def Qry:prog.cellsOf 118=3:=by kernel_rfl
def Qrz:prog.cellsOf 130=2:=by kernel_rfl
def Qr0:prog.cellsOf 192=2:=by kernel_rfl
def Qr1:prog.cellsOf 194=6:=by kernel_rfl
def Q7k:0<prog.bytesOf 116:=of_decide_eq_true (by kernel_rfl)
def Q7l:0<prog.bytesOf 118:=of_decide_eq_true (by kernel_rfl)
def Q7m:0<prog.bytesOf 130:=of_decide_eq_true (by kernel_rfl)
def Q7n:0<prog.bytesOf 192:=of_decide_eq_true (by kernel_rfl)
def Q7o:0<prog.bytesOf 194:=of_decide_eq_true (by kernel_rfl)
def Zur(h:Trd enc prog W fuel 32 [v]=some x):∃u:Nat,v=.int .u16 u/\u<65536:=by
 obtain⟨u,h1,h2⟩:=Zem (m:=65535) Zir (by decide) (by decide) h;exact⟨u,by simpa using h1,by omega⟩
def Zos{t:TypeId}{m:Nat}{r:List Value}{y:DataW H×List MemPlace}(hd:Qbf prog t [(3,0),(3,1)]=true)(hc:prog.cellsOf t=2)(h:Trd enc prog W m t r=some y)(hz:Sz prog t y.1):∃s:Int×Int,r=[.int .i64 s.1,.int .i64 s.2]:=by
 obtain⟨fs,hu,hfs⟩:=Qbx hd;obtain⟨hl,m',hf⟩:=Qdu hu h hz;rw[hc]at hl;obtain⟨c0,c1,rfl⟩:=Qre hl;obtain⟨y0,h0,z0⟩:=Z1 (i:=0) (ft:=3) (off:=0) hf (hfs 0 _ _ rfl) Z8;obtain⟨y1,h1,z1⟩:=Z1 (i:=1) (ft:=3) (off:=1) hf (hfs 1 _ _ rfl) Z8;simp only[drop_zero,drop_succ_cons,take_succ_cons,take_zero]at h0 h1;obtain⟨n0,e0⟩:=Qb3 Qae h0;obtain⟨n1,e1⟩:=Qb3 Qae h1;simp only[List.cons.injEq,and_true]at e0 e1;subst e0 e1;exact⟨(n0,n1),rfl⟩
def Qi9{m:Nat}{r:List Value}{y:DataW H×List MemPlace}(h:Trd enc prog W m 28 r=some y)(hz:Sz prog 28 y.1):∃s:Int×Int,r=[.int .i64 s.1,.int .i64 s.2]:=by
 obtain⟨fs,hu,hfs⟩:=Qbx Zha;obtain⟨hl,m',hf⟩:=Qdu hu h hz;rw[Qbs]at hl;obtain⟨c0,c1,rfl⟩:=Qre hl;obtain⟨y0,h0,z0⟩:=Z1 (i:=0) (ft:=3) (off:=0) hf (hfs 0 _ _ rfl) Z8;obtain⟨y1,h1,z1⟩:=Z1 (i:=1) (ft:=26) (off:=1) hf (hfs 1 _ _ rfl) Zg6;simp only[drop_zero,drop_succ_cons,take_succ_cons,take_zero]at h0 h1;obtain⟨n0,e0⟩:=Qb3 Qae h0;obtain⟨n1,e1⟩:=Qb3 Ziq h1;simp only[List.cons.injEq,and_true]at e0 e1;subst e0 e1;exact⟨(n0,n1),rfl⟩
def Zor{m:Nat}{r:List Value}{y:DataW H×List MemPlace}(h:Trd enc prog W m 118 r=some y)(hz:Sz prog 118 y.1):∃c,Qf9 (Qa.all W) c r:=by
 obtain⟨fs,hu,hfs⟩:=Qbx Q7y;obtain⟨hl,m',hf⟩:=Qdu hu h hz;rw[Qry]at hl;obtain⟨c0,c1,c2,rfl⟩:=Qi3 hl;obtain⟨y0,h0,z0⟩:=Z1 (i:=0) (ft:=3) (off:=0) hf (hfs 0 _ _ rfl) Z8;obtain⟨y1,h1,z1⟩:=Z1 (i:=1) (ft:=3) (off:=1) hf (hfs 1 _ _ rfl) Z8;obtain⟨y2,h2,z2⟩:=Z1 (i:=2) (ft:=22) (off:=2) hf (hfs 2 _ _ rfl) Qkm;simp only[drop_zero,drop_succ_cons,take_succ_cons,take_zero]at h0 h1 h2;obtain⟨n0,e0⟩:=Qb3 Qae h0;obtain⟨n1,e1⟩:=Qb3 Qae h1;obtain⟨ia,il,ic,l,e2,hi,hil⟩:=Zfw h2 z2;simp only[List.cons.injEq,and_true]at e0 e1;subst e0 e1 e2;exact⟨(n0,n1,l),ia,il,ic,rfl,hi,hil⟩
def Zsv{m:Nat}{r:List Value}{y:DataW H×List MemPlace}(h:Trd enc prog W m 194 r=some y)(hz:Sz prog 194 y.1):∃d,Zo9 d r:=by
 obtain⟨fs,hu,hfs⟩:=Qbx Q71;obtain⟨hl,m',hf⟩:=Qdu hu h hz;rw[Qr1]at hl;obtain⟨c0,c1,c2,c3,c4,c5,rfl⟩:=Zqf hl;obtain⟨y0,h0,z0⟩:=Z1 (i:=0) (ft:=3) (off:=0) hf (hfs 0 _ _ rfl) Z8;obtain⟨y1,h1,z1⟩:=Z1 (i:=1) (ft:=28) (off:=1) hf (hfs 1 _ _ rfl) Qbs;obtain⟨y2,h2,z2⟩:=Z1 (i:=2) (ft:=3) (off:=3) hf (hfs 2 _ _ rfl) Z8;obtain⟨y3,h3,z3⟩:=Z1 (i:=3) (ft:=3) (off:=4) hf (hfs 3 _ _ rfl) Z8;obtain⟨y4,h4,z4⟩:=Z1 (i:=4) (ft:=3) (off:=5) hf (hfs 4 _ _ rfl) Z8;simp only[drop_zero,drop_succ_cons,take_succ_cons,take_zero]at h0 h1 h2 h3 h4;obtain⟨n0,e0⟩:=Qb3 Qae h0;obtain⟨⟨n1,n2⟩,e1⟩:=Qi9 h1 z1;obtain⟨n3,e3⟩:=Qb3 Qae h2;obtain⟨n4,e4⟩:=Qb3 Qae h3;obtain⟨n5,e5⟩:=Qb3 Qae h4;simp only[List.cons.injEq,and_true]at e0 e1 e3 e4 e5;obtain⟨rfl,rfl⟩:=e1;subst e0 e3 e4 e5;exact⟨λ i=>[n0,n1,n2,n3,n4,n5].getD i 0,rfl⟩
def Zsr{t e:TypeId}{m:Nat}{r:List Value}{y:DataW H×List MemPlace}(hu:prog.underlying t=some (.slice e))(h:Trd enc prog W m t r=some y):∃v,r=[v]:=by
 rcases DataW.trod_slice hu h with⟨hc,-⟩|⟨_,_,_,_,_,_,_,hc,-⟩
 .exact⟨_,hc⟩
 .exact⟨_,hc⟩
def Zst{m:Nat}{r:List Value}{y:DataW H×List MemPlace}(h:Trd enc prog W m 116 r=some y)(hz:Sz prog 116 y.1):∃a:Ap,Zf4 (Qa.all W) a r/\a.nm.size<2^50:=by
 obtain⟨fs,hu,hfs⟩:=Qbx Q7x;obtain⟨hl,m',hf⟩:=Qdu hu h hz;rw[Qrx]at hl;obtain⟨c0,c1,c2,c3,rfl⟩:=Q54 hl;obtain⟨y0,h0,z0⟩:=Z1 (i:=0) (ft:=9) (off:=0) hf (hfs 0 _ _ rfl) Q21;obtain⟨y1,h1,z1⟩:=Z1 (i:=1) (ft:=112) (off:=1) hf (hfs 1 _ _ rfl) Q7p;obtain⟨y2,h2,z2⟩:=Z1 (i:=2) (ft:=113) (off:=2) hf (hfs 2 _ _ rfl) Q7q;obtain⟨y3,h3,z3⟩:=Z1 (i:=3) (ft:=114) (off:=3) hf (hfs 3 _ _ rfl) Q7r;simp only[drop_zero,drop_succ_cons,take_succ_cons,take_zero]at h0 h1 h2 h3;obtain⟨s,e0,hs⟩:=Zsw h0 z0;obtain⟨pa,pl,pc,ps,rfl,r1,r2⟩:=Qdv (R:=λ(s:Int×Int)vs=>vs=[.int .i64 s.1,.int .i64 s.2]) Zdi Qr0 (by decide) Q7n h1 z1 λ m r y hy hz=>Zos Q70 Qr0 hy hz;obtain⟨ca,cl,cc,cs,rfl,r3,r4⟩:=Qdv (R:=Qf9 (Qa.all W)) Zdj Qry (by decide) Q7l h2 z2 λ m r y hy hz=>Zor hy hz;obtain⟨da,dl,dc,ds,rfl,r5,r6⟩:=Qdv (R:=Zo9) Zdk Qr1 (by decide) Q7o h3 z3 λ m r y hy hz=>Zsv hy hz;simp only[List.cons.injEq,and_true]at e0;subst e0;exact⟨⟨s,ps,cs,ds⟩,⟨pa,pl,pc,ca,cl,cc,da,dl,dc,rfl,⟨r1,r2⟩,⟨r3,r4⟩,r5,r6⟩,hs⟩
def Zsu{m:Nat}{r:List Value}{y:DataW H×List MemPlace}(h:Trd enc prog W m 25 r=some y)(hz:Sz prog 25 y.1):∃(h:CH)(c:Cal),r=[.slice h.wa h.wl h.wc,.slice h.sa h.sl h.sc]/\Qmu (Qa.all W) h c:=by
 obtain⟨fs,hu,hfs⟩:=Qbx Q72;obtain⟨hl,m',hf⟩:=Qdu hu h hz;rw[Qxr]at hl;obtain⟨c0,c1,rfl⟩:=Qre hl;obtain⟨y0,h0,z0⟩:=Z1 (i:=0) (ft:=22) (off:=0) hf (hfs 0 _ _ rfl) Qkm;obtain⟨y1,h1,z1⟩:=Z1 (i:=1) (ft:=23) (off:=1) hf (hfs 1 _ _ rfl) Zg5;simp only[drop_zero,drop_succ_cons,take_succ_cons,take_zero]at h0 h1;obtain⟨wa,wl,wc,w,rfl,hw,hwl⟩:=Zfw h0 z0;obtain⟨sa,sl,sc,s,rfl,r1,r2⟩:=Qdv (R:=λ(s:Int×Int)vs=>vs=[.int .i64 s.1,.int .i64 s.2]) Zip Qrz (by decide) Q7m h1 z1 λ m r y hy hz=>Zos Q7z Qrz hy hz;exact⟨⟨wa,wl,wc,sa,sl,sc⟩,⟨w,s⟩,rfl,hw,r1,hwl,r2⟩
def Zuc{c:Array Value}(h:Trd enc prog W fuel 31 c.toList=some x)(hz:Sz prog 31 x.1):∃(h:FH)(cl:Cal)(l:List Ap),Value.agg c=h.v/\Qpa (Qa.all W) h cl l:=by
 obtain⟨fs,hu,hfs⟩:=Qbx Zhb;obtain⟨hl,m',hf⟩:=Qdu hu h hz;rw[Zg8]at hl;obtain⟨y0,h0,z0⟩:=Z1 (i:=0) (ft:=25) (off:=0) hf (hfs 0 _ _ rfl) Qxr;obtain⟨y1,h1,z1⟩:=Z1 (i:=1) (ft:=3) (off:=2) hf (hfs 1 _ _ rfl) Z8;obtain⟨y2,h2,z2⟩:=Z1 (i:=2) (ft:=28) (off:=3) hf (hfs 2 _ _ rfl) Qbs;obtain⟨y3,h3,z3⟩:=Z1 (i:=3) (ft:=28) (off:=5) hf (hfs 3 _ _ rfl) Qbs;obtain⟨y4,h4,z4⟩:=Z1 (i:=4) (ft:=28) (off:=7) hf (hfs 4 _ _ rfl) Qbs;obtain⟨y5,h5,z5⟩:=Z1 (i:=5) (ft:=28) (off:=9) hf (hfs 5 _ _ rfl) Qbs;obtain⟨y6,h6,z6⟩:=Z1 (i:=6) (ft:=28) (off:=11) hf (hfs 6 _ _ rfl) Qbs;obtain⟨y7,h7,z7⟩:=Z1 (i:=7) (ft:=3) (off:=13) hf (hfs 7 _ _ rfl) Z8;obtain⟨y8,h8,z8⟩:=Z1 (i:=8) (ft:=29) (off:=14) hf (hfs 8 _ _ rfl) Zg7;obtain⟨ch,cal,e0,hc⟩:=Zsu h0 z0;obtain⟨n1,e1⟩:=Qb3 Qae h1;obtain⟨s2,e2⟩:=Qi9 h2 z2;obtain⟨s3,e3⟩:=Qi9 h3 z3;obtain⟨s4,e4⟩:=Qi9 h4 z4;obtain⟨s5,e5⟩:=Qi9 h5 z5;obtain⟨s6,e6⟩:=Qi9 h6 z6;obtain⟨n7,e7⟩:=Qb3 Qae h7;obtain⟨v8,e8⟩:=Zsr Qyz h8;rw[e8]at h8;obtain⟨aa,al,ac,l,rfl,r1,r2⟩:=Qdv (R:=λ(a:Ap)r=>Zf4 (Qa.all W) a r/\a.nm.size<2^50) Qyz Qrx (by decide) Q7k h8 z8 λ m r y hy hz=>Zst hy hz;have hnm:∀s∈l,s.nm.size<2^50:=λ s hs=>let ⟨_,h⟩:=r1.all s hs;h.2
 have split15:∀L:List Value,L.length=15->L=L.take 2++((L.drop 2).take 1++((L.drop 3).take 2++((L.drop 5).take 2++((L.drop 7).take 2++((L.drop 9).take 2++((L.drop 11).take 2++((L.drop 13).take 1++(L.drop 14).take 1))))))):=by
  intro L hL;have key:∀(M:List Value)(a b:Nat),M.drop a=(M.drop a).take b++M.drop (a+b):=λ M a b=>by rw[<- drop_drop,take_append_drop]
  have k0:=key L 0 2;have k1:=key L 2 1;have k2:=key L 3 2;have k3:=key L 5 2;have k4:=key L 7 2;have k5:=key L 9 2;have k6:=key L 11 2;have k7:=key L 13 1;have k8:(L.drop 14).take 1=L.drop 14:=take_of_length_le (by rw[length_drop];omega);rw[drop_zero]at k0;rw[k8,<- k7,<- k6,<- k5,<- k4,<- k3,<- k2,<- k1];exact k0
 have hcl:=split15 c.toList hl;rw[drop_zero]at e0;rw[e0,e1,e2,e3,e4,e5,e6,e7,e8]at hcl;refine⟨⟨ch,λ i=>[0,0,n1,s2.1,s2.2,s3.1,s3.2,s4.1,s4.2,s5.1,s5.2,s6.1,s6.2,n7].getD i 0,aa,al,ac⟩,cal,l,?_,hc,r1.le (.refl _) λ _ _ h=>h.1,r2,λ s hs=>Nat.lt_of_lt_of_le (hnm s hs) (by decide)⟩;rw[<- Array.toArray_toList (xs:=c),hcl];rfl
end
end Go.Proofs
end
