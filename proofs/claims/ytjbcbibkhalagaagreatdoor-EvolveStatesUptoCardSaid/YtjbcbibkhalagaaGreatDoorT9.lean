/- EvolveStates. -/
import Derived.Test.YtjbcbibkhalagaaGreatDoorT8
import Derived.Lib.LaidTab
namespace Go.Proofs.YtjbcbibkhalagaaGreatDoor
set_option maxRecDepth 100000
set_option maxHeartbeats 16000000
open Proofs.Tryz Go.RowKit Go.Deep
set_option linter.unusedVariables false
theorem lI {α:Type}{f:α->Nat}{l:List α}{x}(h:x∈l):f x<=(l.map f).sum:=by
 induction l with
 |nil=>cases h
 |cons a l ih=>
  cases h with
  |head=>simp
  |tail _ h=>have:=ih h;simp;omega
theorem iQ {α:Type}{f}(hf:∀x,1<=f x)(l:List α):l.length<=(l.map f).sum:=by
 induction l with
 |nil=>simp
 |cons a l ih=>have:=hf a;simp;omega
theorem Fits.szS {d N}(h:Fits (.sl [.str]) d N)(hN:N<=1048576):∃l:List ByteArray,d=.sl l.length (l.flatMap aG)/\Xw l:=by
 obtain⟨l,h1,_,h3⟩:=h.strs;refine⟨l,h1,?_,λa ha=>?_⟩
 .have:=iQ (f:=λs:ByteArray=>s.size+1) (λ_=>by omega) l;omega
 .have:=lI (f:=λs:ByteArray=>s.size+1) ha;omega
def RU (t:Td):Nat:=t.name.size+1+((t.attrs.map λs=>s.size+1).sum+1)
theorem NH (ds g)(h:dZ [.str,.sl [.str]] ds g):∃t:Td,ds=fj t/\True/\RU t<=sumTo g [Ty.str,Ty.sl [Ty.str]].length:=by
 obtain⟨d0,r,rfl,h0,h⟩:=h.cons;obtain⟨d1,r,rfl,h1,h⟩:=h.cons;have:=h.nil;subst this;obtain⟨a,rfl,_,ha⟩:=h0.jB;obtain⟨l,rfl,_,hl⟩:=h1.strs;refine⟨⟨a,l⟩,rfl,trivial,?_⟩;have ha':a.size+1<=g 0:=ha;have RT:(l.map λs:ByteArray=>s.size+1).sum+1<=g (0+1):=hl;simp[sumTo,RU]at*;omega
theorem Gm {l N}(h:(l.map λs:ByteArray=>s.size+1).sum<=N)(hN:N<=1048576):Xw l:=by
 refine⟨?_,λa ha=>?_⟩
 .have:=iQ (f:=λs:ByteArray=>s.size+1) (λ_=>by omega) l;omega
 .have:=lI (f:=λs:ByteArray=>s.size+1) ha;omega
theorem Wp {l N}(h:(l.map RU).sum<=N)(hN:N<=1048576):iI l:=by
 refine⟨?_,λt ht=>?_⟩
 .have:=iQ (f:=RU) (λ_=>by unfold RU;omega) l;omega
 .have h1:=lI (f:=RU) ht;have h2:RU t=t.name.size+1+((t.attrs.map λs=>s.size+1).sum+1):=rfl;exact⟨oQ,Gm (N:=1048576) oQ nR⟩
def TE (c:Cg):Nat:=c.ty.size+1+(c.at_.size+1)+(c.nm.size+1)+((c.ats.map λs=>s.size+1).sum+1)
theorem RV (ds g)(h:dZ [.int .i64,.str,.str,.str,.sl [.str],.int .i64] ds g):∃t:Cg,ds=pB t/\True/\TE t<=sumTo g [Ty.int .i64,Ty.str,Ty.str,Ty.str,Ty.sl [Ty.str],Ty.int .i64].length:=by
 obtain⟨d0,r,rfl,h0,h⟩:=h.cons;obtain⟨d1,r,rfl,h1,h⟩:=h.cons;obtain⟨d2,r,rfl,h2,h⟩:=h.cons;obtain⟨d3,r,rfl,h3,h⟩:=h.cons;obtain⟨d4,r,rfl,h4,h⟩:=h.cons;obtain⟨d5,r,rfl,h5,h⟩:=h.cons;have:=h.nil;subst this;obtain⟨kd,rfl,_⟩:=h0.bp;obtain⟨ty,rfl,_,ha⟩:=h1.jB;obtain⟨at_,rfl,_,hb⟩:=h2.jB;obtain⟨nm,rfl,_,hc⟩:=h3.jB;obtain⟨l,rfl,_,hl⟩:=h4.strs;obtain⟨n,rfl,_⟩:=h5.bp;refine⟨⟨kd,ty,at_,nm,l,n⟩,rfl,trivial,?_⟩;have ha':ty.size+1<=g (0+1):=ha;have fA:at_.size+1<=g (0+1+1):=hb;have hc':nm.size+1<=g (0+1+1+1):=hc;have RT:(l.map λs:ByteArray=>s.size+1).sum+1<=g (0+1+1+1+1):=hl;simp[sumTo,TE]at*;omega
theorem Wq {l:List Cg}{N}(h:(l.map TE).sum<=N)(hN:N<=1048576):l.length<=1048576/\∀c∈l,ED c:=by
 refine⟨?_,λt ht=>?_⟩
 .have:=iQ (f:=TE) (λ_=>by unfold TE;omega) l;omega
 .have h1:=lI (f:=TE) ht;have h2:TE t=t.ty.size+1+(t.at_.size+1)+(t.nm.size+1)+((t.ats.map λs=>s.size+1).sum+1):=rfl;exact⟨oQ,oQ,Gm (N:=1048576) oQ nR⟩
def vR:List Ty:=[.int .i64,.int .i64,.str,.str,.int .i64,.int .i64]
def HP (x:Nd):Nat:=x.v.size+1+(x.at_.size+1)
theorem HQ (ds g)(h:dZ vR ds g):∃x:Nd,ds=b9 x/\True/\HP x<=sumTo g vR.length:=by
 obtain⟨d0,r,rfl,h0,h⟩:=h.cons;obtain⟨d1,r,rfl,h1,h⟩:=h.cons;obtain⟨d2,r,rfl,h2,h⟩:=h.cons;obtain⟨d3,r,rfl,h3,h⟩:=h.cons;obtain⟨d4,r,rfl,h4,h⟩:=h.cons;obtain⟨d5,r,rfl,h5,h⟩:=h.cons;have:=h.nil;subst this;obtain⟨op,rfl,_⟩:=h0.bp;obtain⟨n,rfl,_⟩:=h1.bp;obtain⟨v,rfl,_,hv⟩:=h2.jB;obtain⟨at_,rfl,_,ha⟩:=h3.jB;obtain⟨a,rfl,_⟩:=h4.bp;obtain⟨b,rfl,_⟩:=h5.bp;refine⟨⟨op,n,v,at_,a,b⟩,rfl,trivial,?_⟩;have hv':v.size+1<=g (0+1+1):=hv;have ha':at_.size+1<=g (0+1+1+1):=ha;simp[sumTo,HP,vR]at*;omega
theorem NI {l N}(h:(l.map HP).sum<=N)(hN:N<=1048576):tT l:=by
 refine⟨?_,λx hx=>?_⟩
 .have:=iQ (f:=HP) (λ_=>by unfold HP;omega) l;omega
 .have h1:=lI (f:=HP) hx;have h2:HP x=x.v.size+1+(x.at_.size+1):=rfl;omega
def Pq (x:It):Nat:=(x.ah.map λs=>s.size+1).sum+1+(x.v.size+1)
theorem RX (ds g)(h:dZ [.bool,.sl [.str],.str,.int .i64,.int .i64] ds g):∃x:It,ds=SV x/\True/\Pq x<=sumTo g [Ty.bool,.sl [.str],.str,.int .i64,.int .i64].length:=by
 obtain⟨d0,r,rfl,h0,h⟩:=h.cons;obtain⟨d1,r,rfl,h1,h⟩:=h.cons;obtain⟨d2,r,rfl,h2,h⟩:=h.cons;obtain⟨d3,r,rfl,h3,h⟩:=h.cons;obtain⟨d4,r,rfl,h4,h⟩:=h.cons;have:=h.nil;subst this;obtain⟨neg,rfl⟩:=h0.qU;obtain⟨ah,rfl,_,ht⟩:=h1.strs;obtain⟨v,rfl,_,hv⟩:=h2.jB;obtain⟨lo,rfl,_⟩:=h3.bp;obtain⟨hi,rfl,_⟩:=h4.bp;refine⟨⟨neg,ah,v,lo,hi⟩,rfl,trivial,?_⟩;have XT:(ah.map λs:ByteArray=>s.size+1).sum+1<=g (0+1):=ht;have hv':v.size+1<=g (0+1+1):=hv;simp[sumTo,Pq]at*;omega
def Pr (t:List Nd):Nat:=(t.map HP).sum+1
theorem RY (ds g)(h:dZ [.sl vR] ds g):∃t:List Nd,ds=Xv t/\True/\Pr t<=sumTo g [Ty.sl vR].length:=by
 obtain⟨d0,r,rfl,h0,h⟩:=h.cons;have:=h.nil;subst this;obtain⟨t,rfl,_,ht⟩:=h0.conv (b:=HP) HQ;refine⟨t,rfl,trivial,?_⟩;simp[sumTo,Pr];omega
theorem NJ {α:Type}{f g:α->Nat}(h:∀x,f x<=g x)(l:List α):(l.map f).sum<=(l.map g).sum:=by
 induction l with
 |nil=>simp
 |cons a l ih=>have:=h a;simp;omega
def TF:List Ty:=[.sl [.bool,.sl [.str],.str,.int .i64,.int .i64],.int .i64,.int .i64,.sl vR,.int .i64,.str,.sl [.sl vR]]
theorem RZ {ds g}{c:Array Value}{W N}(sz:c.size=7)(h:dZ TF ds g)(rd:∀(k:Nat)(d:D),ds[k]? =some d->∃u,c[k]? =some u/\Rd W (λb=>b<W.heap.size) u d)(hN:sumTo g 7<=N)(hB:N<=1048576):
  ∃(q:Qy)(s:fV),c=⟨qV q s⟩/\QR W (λb=>b<W.heap.size) q s/\jE q/\Cc q:=by
 obtain⟨d0,r,rfl,h0,h⟩:=h.cons;obtain⟨d1,r,rfl,h1,h⟩:=h.cons;obtain⟨d2,r,rfl,h2,h⟩:=h.cons;obtain⟨d3,r,rfl,h3,h⟩:=h.cons;obtain⟨d4,r,rfl,h4,h⟩:=h.cons;obtain⟨d5,r,rfl,h5,h⟩:=h.cons;obtain⟨d6,r,rfl,h6,h⟩:=h.cons;have:=h.nil;subst this;obtain⟨items,rfl,_,b0⟩:=h0.conv (b:=Pq) RX;obtain⟨mode,rfl,_⟩:=h1.bp;obtain⟨after,rfl,_⟩:=h2.bp;obtain⟨wh,rfl,_,b3⟩:=h3.conv (b:=HP) HQ;obtain⟨within,rfl,_⟩:=h4.bp;obtain⟨au,rfl,_,b5⟩:=h5.jB;obtain⟨ret,rfl,_,b6⟩:=h6.conv (b:=Pr) RY;obtain⟨u0,c0,r0⟩:=rd 0 _ rfl;obtain⟨A1,k1,rfl,_,_⟩:=r0.cU;obtain⟨u1,c1,r1⟩:=rd 1 _ rfl;obtain rfl:=r1.bH;obtain⟨u2,c2,r2⟩:=rd 2 _ rfl;obtain rfl:=r2.bH;obtain⟨u3,c3,r3⟩:=rd 3 _ rfl;obtain⟨A2,k2,rfl,_,_⟩:=r3.cU;obtain⟨u4,c4,r4⟩:=rd 4 _ rfl;obtain rfl:=r4.bH;obtain⟨u5,c5,r5⟩:=rd 5 _ rfl;obtain rfl:=r5.bH;obtain⟨u6,c6,r6⟩:=rd 6 _ rfl;obtain⟨A3,k3,rfl,_,_⟩:=r6.cU;have e0:(items.map Pq).sum+1<=g 0:=b0;have e3:(wh.map HP).sum+1<=g (0+1+1+1):=b3;have e5:au.size+1<=g (0+1+1+1+1+1):=b5;have e6:(ret.map Pr).sum+1<=g (0+1+1+1+1+1+1):=b6;have wZ:g 0+g (0+1+1+1)+g (0+1+1+1+1+1)+g (0+1+1+1+1+1+1)<=N:=by simp[sumTo]at hN |-;omega
 refine⟨⟨items,mode,after,wh,within,au,ret⟩,⟨A1,k1,A2,k2,A3,k3⟩,?_,⟨r0,r3,r6,λb h=>h⟩,⟨?_,λx hx=>?_,(show tT wh from NI (l:=wh) (N:=1048576) oQ nR),(show au.size<=1048576 by omega),?_,λt ht=>?_⟩,?_,?_⟩
 .obtain⟨l⟩:=c;simp only[List.size_toArray]at sz;simp only[List.getElem?_toArray]at c0 c1 c2 c3 c4 c5 c6;show(⟨l⟩:Array Value)=⟨[.slice A1 items.length k1,.int .i64 mode,.int .i64 after,.slice A2 wh.length k2,.int .i64 within,.string au,.slice A3 ret.length k3]⟩
  congr 1
  match l,sz with
  | [x0,x1,x2,x3,x4,x5,x6],_=>
   obtain rfl:=eO c0;obtain rfl:=eO c1;obtain rfl:=eO c2;obtain rfl:=eO c3;obtain rfl:=eO c4;obtain rfl:=eO c5;obtain rfl:=eO c6;rfl
 .have:=iQ (f:=Pq) (λ_=>by unfold Pq;omega) items;show items.length<=_;omega
 .have h1:=lI (f:=Pq) (show x∈items from hx);have h2:Pq x=(x.ah.map λs=>s.size+1).sum+1+(x.v.size+1):=rfl;exact⟨Gm (N:=1048576) oQ nR,oQ⟩
 .have:=iQ (f:=Pr) (λ_=>by unfold Pr;omega) ret;show ret.length<=_;omega
 .have h1:=lI (f:=Pr) (show t∈ret from ht);have h2:Pr t=(t.map HP).sum+1:=rfl;exact NI (N:=1048576) oQ nR
 .have h1:=NJ (f:=λx:It=>x.ah.length) (g:=Pq) (λx=>by
   have:=iQ (f:=λs:ByteArray=>s.size+1) (λ_=>by omega) x.ah;unfold Pq;omega) items
  show(items.map λx=>x.ah.length).sum<=_;omega
 .have h1:=NJ (f:=λt:List Nd=>t.length) (g:=Pr) (λt=>by
   have:=iQ (f:=HP) (λ_=>by unfold HP;omega) t;unfold Pr;omega) ret
  show(ret.map λt=>t.length).sum<=_;omega
theorem dZ.take {a b ds g}(h:dZ (a++b) ds g):∃d1 d2,ds=d1++d2/\d1.length=a.length/\dZ a d1 g/\dZ b d2 (λk=>g (k+a.length)):=by
 obtain⟨hl,hk⟩:=h;rw[zH]at hl;have e1:(ds.take a.length).length=a.length:=by rw[zO];omega
 refine⟨ds.take a.length,ds.drop a.length,(List.take_append_drop _ _).symm,e1,⟨e1,λk d ty h1 h2=>?_⟩,by rw[List.length_drop];omega,λk d ty h1 h2=>?_⟩
 .have gC:=(zC.1 h2).1;rw[List.getElem?_take_of_lt gC]at h1;exact hk k d ty h1 (by rw[zS gC];exact h2)
 .rw[xT,Nat.add_comm]at h1;exact hk _ d ty h1 (by rw[zP (Nat.le_add_left _ _),Nat.add_sub_cancel];exact h2)
def Ea:List Ty:=[.int .i64,.int .u64]
theorem HR (ds g)(h:dZ Ea ds g):∃x:RG,ds=qi x/\True/\1<=sumTo g Ea.length:=by
 obtain⟨d0,r,rfl,h0,h⟩:=h.cons;obtain⟨d1,r,rfl,h1,h⟩:=h.cons;have:=h.nil;subst this;obtain⟨a,rfl,_⟩:=h0.bp;obtain⟨b,rfl,_⟩:=h1.bp;exact⟨⟨a,b⟩,rfl,trivial,by have:=h0.pos;simp[sumTo,Ea];omega⟩
def HT:List Ty:=[.bool,.int .i64]
theorem R1 (ds g)(h:dZ HT ds g):∃x:XU,ds=uh x/\True/\1<=sumTo g HT.length:=by
 obtain⟨d0,r,rfl,h0,h⟩:=h.cons;obtain⟨d1,r,rfl,h1,h⟩:=h.cons;have:=h.nil;subst this;obtain⟨a,rfl⟩:=h0.qU;obtain⟨b,rfl,_⟩:=h1.bp;exact⟨⟨a,b⟩,rfl,trivial,by have:=h0.pos;simp[sumTo,HT];omega⟩
def HU:List Ty:=[.int .i64,.sl Ea,.sl [.int .i64],.sl HT]
def Ws (m:Mt):Nat:=m.iE.length+1+(m.lens.length+1)+(m.vals.length+1)
theorem R2 (ds g)(h:dZ HU ds g):∃m:Mt,ds=Pk m/\True/\Ws m<=sumTo g HU.length:=by
 obtain⟨d0,r,rfl,h0,h⟩:=h.cons;obtain⟨d1,r,rfl,h1,h⟩:=h.cons;obtain⟨d2,r,rfl,h2,h⟩:=h.cons;obtain⟨d3,r,rfl,h3,h⟩:=h.cons;have:=h.nil;subst this;obtain⟨a,rfl,hw⟩:=h0.bp;obtain⟨l1,rfl,_,b1⟩:=h1.conv (b:=λ_=>1) HR;obtain⟨l2,rfl,_,b2⟩:=h2.ints;obtain⟨l3,rfl,_,b3⟩:=h3.conv (b:=λ_=>1) R1;rw[uo]at b1 b3;refine⟨⟨a,l1,l2,l3⟩,rfl,trivial,?_⟩;have b1':l1.length+1<=g (0+1):=b1;have b2':l2.length+1<=g (0+1+1):=b2;have b3':l3.length+1<=g (0+1+1+1):=b3;show l1.length+1+(l2.length+1)+(l3.length+1)<=_
 simp[sumTo,HU]at*;omega
def Eb:List Ty:=[.int .i64,.int .u64,.int .i64,.int .i64,.int .i64,.int .i64,.int .i64,.int .i64,.int .i64,.int .i64,.int .i64]
theorem HV (ds g)(h:dZ Eb ds g):∃e:Ev,ds=oc e/\True/\1<=sumTo g Eb.length:=by
 obtain⟨d0,r,rfl,h0,h⟩:=h.cons;obtain⟨d1,r,rfl,h1,h⟩:=h.cons;obtain⟨d2,r,rfl,h2,h⟩:=h.cons;obtain⟨d3,r,rfl,h3,h⟩:=h.cons;obtain⟨d4,r,rfl,h4,h⟩:=h.cons;obtain⟨d5,r,rfl,h5,h⟩:=h.cons;obtain⟨d6,r,rfl,h6,h⟩:=h.cons;obtain⟨d7,r,rfl,h7,h⟩:=h.cons;obtain⟨d8,r,rfl,h8,h⟩:=h.cons;obtain⟨d9,r,rfl,h9,h⟩:=h.cons;obtain⟨d10,r,rfl,h10,h⟩:=h.cons;have:=h.nil;subst this;obtain⟨ts,rfl,_⟩:=h0.bp;obtain⟨id,rfl,_⟩:=h1.bp;obtain⟨ty,rfl,_⟩:=h2.bp;obtain⟨a0,rfl,_⟩:=h3.bp;obtain⟨a1,rfl,_⟩:=h4.bp;obtain⟨a2,rfl,_⟩:=h5.bp;obtain⟨a3,rfl,_⟩:=h6.bp;obtain⟨a4,rfl,_⟩:=h7.bp;obtain⟨a5,rfl,_⟩:=h8.bp;obtain⟨a6,rfl,_⟩:=h9.bp;obtain⟨a7,rfl,_⟩:=h10.bp;exact⟨⟨ts,id,ty,a0,a1,a2,a3,a4,a5,a6,a7⟩,rfl,trivial,by have:=h0.pos;simp[sumTo,Eb];omega⟩
def NK:List Ty:=.sl [.str,.sl [.str]]::(TF++[.int .i64,.int .i64,.bool,.sl Eb,.sl Eb,.sl HU,.sl Ea])
theorem R3 {ds g}{c:Array Value}{W N}(sz:c.size=15)(h:dZ NK ds g)(rd:∀(k:Nat)(d:D),ds[k]? =some d->∃u,c[k]? =some u/\Rd W (λb=>b<W.heap.size) u d)(hN:sumTo g 15<=N)(hB:N<=1048576):
  ∃(x:tg)(z:JA),c=⟨jP x z⟩/\SR W (λb=>b<W.heap.size) x z/\Gg x/\Cc x.q:=by
 obtain⟨l⟩:=c;simp only[List.size_toArray]at sz;match l,sz with
 | [y0,y1,y2,y3,y4,y5,y6,y7,y8,y9,kU,kP,kJ,kK,kL],_=>
  obtain⟨d0,r,rfl,h0,h⟩:=h.cons;obtain⟨dq,r,rfl,lq,hq,h⟩:=h.take;have lq':dq.length=7:=lq;obtain⟨d8,r,rfl,h8,h⟩:=h.cons;obtain⟨d9,r,rfl,h9,h⟩:=h.cons;obtain⟨d10,r,rfl,h10,h⟩:=h.cons;obtain⟨d11,r,rfl,h11,h⟩:=h.cons;obtain⟨d12,r,rfl,h12,h⟩:=h.cons;obtain⟨d13,r,rfl,h13,h⟩:=h.cons;obtain⟨d14,r,rfl,h14,h⟩:=h.cons;have:=h.nil;subst this;have rq:∀(k:Nat)(d:D),dq[k]? =some d->∃u,(#[y1,y2,y3,y4,y5,y6,y7]:Array Value)[k]? =some u/\Rd W (λb=>b<W.heap.size) u d:=by
   intro k d hd;have hk:k<7:=by rw[<-lq'];exact(zC.1 hd).1
   obtain⟨u,e,hu⟩:=rd (k+1) d (by rw[xA,zS oQ];exact hd);refine⟨u,?_,hu⟩;match k,hk with
   |0,_=>exact e
   |1,_=>exact e
   |2,_=>exact e
   |3,_=>exact e
   |4,_=>exact e
   |5,_=>exact e
   |6,_=>exact e
  have at_:∀(k:Nat)(d:D),[d8,d9,d10,d11,d12,d13,d14][k]? =some d->∃u,[y8,y9,kU,kP,kJ,kK,kL][k]? =some u/\Rd W (λb=>b<W.heap.size) u d:=by
   intro k d hd;obtain⟨u,e,hu⟩:=rd (k+7+1) d (by rw[xA,zP oQ,lq',Nat.add_sub_cancel];exact hd);have hk:k<7:=(zC.1 hd).1;refine⟨u,?_,hu⟩;match k,hk with
   |0,_=>exact e
   |1,_=>exact e
   |2,_=>exact e
   |3,_=>exact e
   |4,_=>exact e
   |5,_=>exact e
   |6,_=>exact e
  have bd:sumTo g 15=g 0+sumTo (λk=>g (k+1)) 7+(g 8+g 9+g 10+g 11+g 12+g 13+g 14):=by simp[sumTo];omega
  obtain⟨q,s,eq,hQ,hs,mF⟩:=RZ (c:=#[y1,y2,y3,y4,y5,y6,y7]) rfl hq rq (N:=1048576) oQ nR;have eq':=congrArg Array.toList eq;simp only[qV,List.cons.injEq,and_true]at eq';obtain⟨rfl,rfl,rfl,rfl,rfl,rfl,rfl⟩:=eq';obtain⟨S,rfl,_,b0⟩:=h0.conv (b:=RU) NH;obtain⟨cap,rfl,_⟩:=h8.bp;obtain⟨mark,rfl,_⟩:=h9.bp;obtain⟨closed,rfl⟩:=h10.qU;obtain⟨held,rfl,_,b11⟩:=h11.conv (b:=λ_=>1) HV;obtain⟨kept,rfl,_,b12⟩:=h12.conv (b:=λ_=>1) HV;obtain⟨wait,rfl,_,Wj⟩:=h13.conv (b:=Ws) R2;obtain⟨used,rfl,_,b14⟩:=h14.conv (b:=λ_=>1) HR;rw[uo]at b11 b12 b14;have b0:(S.map RU).sum+1<=g 0:=b0;have b11:held.length+1<=g 11:=b11;have b12:kept.length+1<=g 12:=b12;have Wj:(wait.map Ws).sum+1<=g 13:=Wj;have b14:used.length+1<=g 14:=b14;obtain⟨u0,c0,r0⟩:=rd 0 _ rfl;obtain rfl:=eO c0;obtain⟨u8,c8,r8⟩:=at_ 0 _ rfl;obtain rfl:=eO c8;obtain⟨u9,c9,r9⟩:=at_ 1 _ rfl;obtain rfl:=eO c9;obtain⟨u10,c10,r10⟩:=at_ 2 _ rfl;obtain rfl:=eO c10;obtain⟨u11,c11,r11⟩:=at_ 3 _ rfl;obtain rfl:=eO c11;obtain⟨u12,c12,r12⟩:=at_ 4 _ rfl;obtain rfl:=eO c12;obtain⟨u13,c13,r13⟩:=at_ 5 _ rfl;obtain rfl:=eO c13;obtain⟨u14,c14,r14⟩:=at_ 6 _ rfl;obtain rfl:=eO c14;clear rd rq at_;obtain⟨A0,k0,rfl,_,_⟩:=r0.cU;obtain rfl:=r8.bH;obtain rfl:=r9.bH;obtain rfl:=r10.bH;obtain⟨A5,k5,rfl,_,_⟩:=r11.cU;obtain⟨A6,k6,rfl,_,_⟩:=r12.cU;obtain⟨A7,k7,rfl,_,_⟩:=r13.cU;obtain⟨A8,k8,rfl,_,_⟩:=r14.cU;refine⟨⟨S,q,cap,mark,closed,held,kept,wait,used⟩,⟨A0,k0,s,A5,k5,A6,k6,A7,k7,A8,k8⟩,rfl,⟨r0,hQ,r11,r12,r13,r14⟩,⟨(show iI S from Wp (l:=S) (N:=1048576) oQ nR),hs,(show held.length<=_ by omega),(show kept.length<=_ by omega),(show used.length<=_ by omega),?_,λt ht=>?_⟩,mF⟩
  .have:=iQ (f:=Ws) (λ_=>by unfold Ws;omega) wait;show wait.length<=_;omega
  .have h1:=lI (f:=Ws) (show t∈wait from ht);have h2:Ws t=t.iE.length+1+(t.lens.length+1)+(t.vals.length+1):=rfl;omega
namespace qj
theorem walk {c0 x0 g0 N0 N1 B m d x1}(W)(hK:cW W)(sz0:c0.size=15)(ft0:dZ NK x0 g0)(rd0:∀(k:Nat)(d:D),x0[k]? =some d->∃u,c0[k]? =some u/\Rd W (λb=>b<W.heap.size) u d)(bk0:sumTo g0 15<=N0)(XC:Rd W (λb=>b<W.heap.size) (.slice B m d) x1)(ft1:Fits (.sl [.int .i64,.str,.str,.str,.sl [.str],.int .i64]) x1 N1)(hN:N0+N1<=1048576):
  Cl 3 #[.agg c0,.slice B m d] W λe w'=>e=.returned (.bool true)/\Bw W w':=by
 obtain⟨x,z,rfl,hR,hs,mF⟩:=R3 sz0 ft0 rd0 bk0 oQ;obtain⟨L,rfl,_,hb⟩:=ft1.conv (b:=TE) RV;obtain⟨B',d',e',_⟩:=XC.cU;injection e' with e1 e2 e3
 subst e1 e2 e3;obtain⟨hL,hC⟩:=Wq (l:=L) (N:=1048576) oQ nR;exact rS.Wn _ _ _ _ x z L hL hC hs mF W hK (λ_ h=>h) hR XC
end qj
theorem R5 {W rest t e n}(hg:prog.globalNamed "sluice/api.Keywords" =some 0)(hty:(prog.globals[0]?).map (·.type)=some t)(ht:prog.underlying t=some (.array n e))(he:prog.underlying e=some .string)(hce:prog.cellsOf e=1)(xy:prog.cellsOf t=n)(h:laidMet prog (("sluice/api.Keywords",.agg (jL.map λs=>.lit (.string s.data.toList)))::rest) W):cW W:=by
 obtain⟨ps,⟨g',t',cs,fuel,p,q,Xu,XT,aeU,hd,_,_⟩,_⟩:=h;obtain rfl:=eO (hg.symm.trans Xu);obtain rfl:=eO (hty.symm.trans XT);cases fuel with
 |zero=>simp[DataW.trod]at hd
 |succ fuel=>
  simp only[DataW.trod,ht,hce,xy,Nat.mul_one]at hd;split at hd
  .obtain⟨xs,hm,hx⟩:=xG.1 hd;have wK:xs.map (·.1)=jL.map λs=>(DataW.lit (.string s.data.toList):DataW Unit):=by
    have:=congrArg Prod.fst hx;simpa using this
   have xx:xs.length=n:=by simpa using Lib.mapM_length hm
   intro i k hk;have C9:i<n:=by
    have h1:=(zC.1 hk).1;have h2:=congrArg List.length wK;simp at h2;omega
   obtain⟨b,hb,hf⟩:=Lib.mapM_at hm i i (by simp[C9]);obtain⟨s,hc,Lt,_⟩:=DataW.trod_string he hf;have h1:cs[i]? =some (.string s):=by
    have:=congrArg (·[0]?) hc;simpa[zZ,xT] using this
   have h2:(xs.map (·.1))[i]? =some (DataW.lit (.string s.data.toList):DataW Unit):=by simp[hb,Lt]
   rw[wK]at h2;simp only[zG,hk,Option.map_some,Option.some.injEq,DataW.lit.injEq,Lit.string.injEq]at h2;obtain rfl:k=s:=ByteArray.ext (Array.ext' h2);have:=World.var?_cell hg aeU i;rw[this];simpa using h1
  .cases hd
