/- Check in plain Lean. -/
import Derived.Test.YtjbcbibkhalagaaGreatDoorD5
import Derived.Maps.OwnSet
import Derived.Deep.AppendLies
namespace Go.Proofs.YtjbcbibkhalagaaGreatDoor
set_option maxRecDepth 100000
set_option maxHeartbeats 16000000
open Proofs.Tryz Go.RowKit Go.Deep
set_option linter.unusedVariables false
set_option linter.unusedSimpArgs false
def fz:List Int->Int
 | []=>0
 |c::r=>if c=0 then fz r else c
theorem zi (a b):fz (a++b)=if fz a=0 then fz b else fz a:=by
 induction a with
 |nil=>simp[fz]
 |cons c r ih=>
  show(if c=0 then fz (r++b)else c)=if(if c=0 then fz r else c)=0 then fz b else(if c=0 then fz r else c)
  by_cases h:c=0
  .simp only[h,if_true];exact ih
  .simp[h]
theorem EY (c):fz [c]=c:=by
 unfold fz;by_cases h:c=0
 .rw[if_pos h,h];rfl
 .rw[if_neg h]
theorem PN {a}(h:∀c∈a,c=0):fz a=0:=by
 induction a with
 |nil=>rfl
 |cons c r ih=>unfold fz;rw[if_pos (h c sJ)];exact ih λd hd=>h d (by simp[hd])
structure Fg where
 rule:Int
 pL:Int
 code:Int
 part:Int
 idx:Int
 sub:Int
def pO (a b:Fg):Prop:=if a.rule≠b.rule then a.rule<b.rule else if a.idx≠b.idx then a.idx<b.idx else if a.sub≠b.sub then a.sub<b.sub else a.pL<b.pL
instance (a b:Fg):Decidable (pO a b):=by unfold pO;infer_instance
theorem mg {a b}(h:a.rule<b.rule):¬pO b a:=by
 unfold pO;rw[if_pos oQ];omega
theorem zj {a b}(h:a.rule=b.rule)(h2:a.idx<b.idx):¬pO b a:=by
 unfold pO;rw[if_neg oQ,if_pos oQ];omega
theorem ri {a b}(h:a.rule=b.rule)(h2:a.idx=b.idx)(h3:a.sub<b.sub\/(a.sub=b.sub/\a.pL<=b.pL)):¬pO b a:=by
 unfold pO;rw[if_neg oQ,if_neg oQ];by_cases e:a.sub=b.sub
 .rw[if_neg oQ];omega
 .rw[if_pos oQ];omega
def cX:Fg->List Fg->Fg
 |b,[]=>b
 |b,x::r=>cX (if pO x b then x else b) r
def dI:List Fg->Int
 | []=>0
 |x::r=>(cX x r).code
theorem yc (b l m):cX b (l++m)=cX (cX b l) m:=by
 induction l generalizing b with
 |nil=>rfl
 |cons x r ih=>exact ih _
theorem sF (b l):cX b l=b\/cX b l∈l:=by
 induction l generalizing b with
 |nil=>exact .inl rfl
 |cons x r ih=>
  show cX (if pO x b then x else b) r=b\/cX (if pO x b then x else b) r∈x::r
  rcases ih (if pO x b then x else b)with h |h
  .rw[h];by_cases hk:pO x b
   .rw[if_pos hk];exact .inr sJ
   .rw[if_neg hk];exact .inl rfl
  .exact .inr (by simp[h])
theorem CO (b l)(h:∀y∈l,¬pO y b):cX b l=b:=by
 induction l with
 |nil=>rfl
 |cons x r ih=>show cX (if pO x b then x else b) r=b;rw[if_neg (h x sJ)];exact ih λy hy=>h y (by simp[hy])
theorem dD {l m}(hz:∀x∈l,x.code≠0)(h:∀x∈l,∀y∈m,¬pO y x):dI (l++m)=if dI l=0 then dI m else dI l:=by
 cases l with
 |nil=>rfl
 |cons x r=>
  have hm:cX x r∈x::r:=by rcases sF x r with e |e<;>simp[e]
  show(cX x (r++m)).code=_
  rw[yc,CO _ _ (h _ hm)];exact(if_neg (hz _ hm)).symm
theorem uU {l c}(h:∀x∈l,x.code=c):dI l=if l=[]then 0 else c:=by
 cases l with
 |nil=>rfl
 |cons x r=>
  rw[if_neg sJ];show(cX x r).code=c
  apply h;rcases sF x r with e |e<;>simp[e]
theorem iV (p)[Decidable p](x):dI (if p then [x]else [])=if p then x.code else 0:=by
 by_cases h:p
 .rw[if_pos h,if_pos h];rfl
 .rw[if_neg h,if_neg h];rfl
def aO {α β:Type}(f:Nat->α->List β):Nat->List α->List β
 |_,[]=>[]
 |n,x::r=>f n x++aO f (n+1) r
theorem Ir {α β}(f:Nat->α->List β)(l x):∀n,aO f n (l++[x])=aO f n l++f (n+l.length) x:=by
 induction l with
 |nil=>intro n;simp[aO]
 |cons y r ih=>intro n;simp only[List.cons_append,aO,ih (n+1),zR,List.length_cons];congr 3;omega
theorem iu {α β}(f:Nat->α->List β){l:List α}{j x}(h:l[j]? =some x):aO f 0 (l.take (j+1))=aO f 0 (l.take j)++f j x:=by
 have hj:=(zC.1 h).1;rw[zJ,h];show aO f 0 (l.take j++[x])=_
 rw[Ir,zO,Nat.min_eq_left oQ,Nat.zero_add]
theorem eD {α β f l n}{b:β}(h:b∈aO f n l):∃(i:Nat)(x:α),l[i]? =some x/\b∈f (n+i) x:=by
 induction l generalizing n with
 |nil=>cases h
 |cons x r ih=>
  rcases zM.1 h with h |h
  .exact⟨0,x,rfl,h⟩
  .obtain⟨i,y,h1,h2⟩:=ih h;exact⟨i+1,y,h1,by rw[show n+(i+1)=n+1+i by omega];exact h2⟩
theorem mX {α f}{g:Nat->α->Int}{l}(hf:∀(i:Nat) x,l[i]? =some x->dI (f i x)=g i x/\∀y∈f i x,y.code≠0)(hk:∀(i j:Nat) x y,i<j->l[i]? =some x->l[j]? =some y->∀a∈f i x,∀b∈f j y,¬pO b a):dI (aO f 0 l)=fz (aO (λi x=>[g i x]) 0 l):=by
 suffices hs:∀(m:List α)(n:Nat),(∀(i:Nat) x,m[i]? =some x->l[n+i]? =some x)->dI (aO f n m)=fz (aO (λi x=>[g i x]) n m)from hs l 0 (λi x h=>by rwa [Nat.zero_add])
 intro m;induction m with
 |nil=>intro n _;rfl
 |cons x r ih=>
  intro n hm;have hx:=hm 0 x rfl;have K0:=ih (n+1) (λi y h=>by rw[show n+1+i=n+(i+1) by omega];exact hm (i+1) y h);show dI (f n x++aO f (n+1) r)=fz (g n x::aO (λi x=>[g i x]) (n+1) r)
  rw[dD (hf n x hx).2,K0,(hf n x hx).1]
  .rfl
  .intro a ha b hb;obtain⟨i,y,h1,h2⟩:=eD hb;exact hk n (n+1+i) x y oQ hx (by rw[show n+1+i=n+(i+1) by omega];exact hm (i+1) y h1) a ha b h2
def lJ (l:List Td)(n:ByteArray):Prop:=aj (aY l) n<0
instance (l:List Td)(n:ByteArray):Decidable (lJ l n):=by unfold lJ;infer_instance
def jl (x:It):Prop:=x.lo<1\/x.hi<x.lo\/4<x.hi
instance (x:It):Decidable (jl x):=by unfold jl;infer_instance
def fN (l:List Td)(x:It):Int:=if x.ah.any (λn=>decide (lJ l n))=true then 61 else if¬x.ah.Nodup then 62 else if jl x then 63 else 0
def bM (l:List Td)(q:Qy):Int:=if 10<q.items.length then 60 else
 fz (aO (λi x=>[if fN l x≠0 then fN l x else if aM q x.v<(i:Int)then 64 else 0]) 0 q.items++[if q.items.all (·.neg)=true then 65 else 0])
def Iu (i:Nat)(n m:ByteArray):List Fg:=if n=m then [⟨4,2,62,1,i,0⟩]else []
def yd (l:List Td)(ah:List ByteArray)(i j:Nat)(n:ByteArray):List Fg:=(if lJ l n then [⟨4,1,61,1,i,0⟩]else [])++(ah.take j).flatMap (Iu i n)
def BU (l:List Td)(q:Qy)(i:Nat)(x:It):List Fg:=aO (yd l x.ah i) 0 x.ah++((if jl x then [⟨4,3,63,1,i,0⟩]else [])++(if aM q x.v<(i:Int)then [⟨4,4,64,1,i,0⟩]else []))
def gO (l:List Td)(q:Qy):List Fg:=(if 10<q.items.length then [⟨3,0,60,1,10,0⟩]else [])++(aO (BU l q) 0 q.items++(if q.items.all (·.neg)=true then [⟨5,0,65,1,0,0⟩]else []))
theorem bD {p}[Decidable p]{x y:Fg}(h:y∈(if p then [x]else [])):y=x/\p:=by
 by_cases hp:p
 .rw[if_pos hp]at h;exact⟨by simpa using h,hp⟩
 .rw[if_neg hp]at h;cases h
theorem zl {l ah i j n y}(h:y∈yd l ah i j n):y=⟨4,1,61,1,i,0⟩\/y=⟨4,2,62,1,i,0⟩:=by
 rcases zM.1 h with h |h
 .exact .inl (bD h).1
 .obtain⟨m,_,h⟩:=xF.1 h;exact .inr (bD h).1
theorem Iv {L}{i:Nat}(h:∀y∈L,y=⟨4,1,61,1,i,0⟩\/y=⟨4,2,62,1,i,0⟩):dI L=if(∃y∈L,y.code=61)then 61 else if L=[]then 0 else 62:=by
 have key:∀(r:List Fg)(b:Fg),(b=⟨4,1,61,1,i,0⟩\/b=⟨4,2,62,1,i,0⟩)->(∀y∈r,y=⟨4,1,61,1,i,0⟩\/y=⟨4,2,62,1,i,0⟩)->(cX b r).code=if(b.code=61\/∃y∈r,y.code=61)then 61 else 62:=by
  intro r;induction r with
  |nil=>intro b hb _;rcases hb with rfl |rfl<;>simp[cX]
  |cons x r ih=>
   intro b hb hr;have hx:=hr x sJ;have qZ:∀y∈r,y=⟨4,1,61,1,i,0⟩\/y=⟨4,2,62,1,i,0⟩:=λy hy=>hr y (by simp[hy])
   show(cX (if pO x b then x else b) r).code=_
   rcases hx with rfl |rfl<;>rcases hb with rfl |rfl
   .rw[if_neg (by simp[pO]),ih _ (.inl rfl) qZ];simp
   .rw[if_pos (by simp[pO]),ih _ (.inl rfl) qZ];simp
   .rw[if_neg (by simp[pO]),ih _ (.inl rfl) qZ];simp
   .rw[if_neg (by simp[pO]),ih _ (.inr rfl) qZ];simp
 cases L with
 |nil=>simp[dI]
 |cons x r=>
  show(cX x r).code=_
  rw[key r x (h x sJ) (λy hy=>h y (by simp[hy]))];simp
theorem j5 (ah:List ByteArray):ah.Nodup<->∀(j:Nat) n,ah[j]? =some n->n∉ah.take j:=by
 rw[List.nodup_iff_pairwise_ne,List.pairwise_iff_getElem];constructor
 .intro h j n hj hm;obtain⟨h1,rfl⟩:=zC.1 hj;obtain⟨k,hk,e⟩:=List.mem_take_iff_getElem.1 hm;exact h k j oQ h1 oQ e
 .intro h i j hi hj hlt e;exact h j _ (zI hj) (List.mem_take_iff_getElem.2 ⟨i,oQ,e⟩)
theorem Iw (l ah i):dI (aO (yd l ah i) 0 ah)=if ah.any (λn=>decide (lJ l n))=true then 61 else if¬ah.Nodup then 62 else 0:=by
 rw[Iv (i:=i) (λy hy=>by obtain⟨j,n,_,h⟩:=eD hy;exact zl h)];have pP:∀(j:Nat) n y,ah[j]? =some n->y∈yd l ah i j n->y∈aO (yd l ah i) 0 ah:=by
  intro j n y hj hy;suffices hs:∀(m:List ByteArray)(k j:Nat) n,m[j]? =some n->y∈yd l ah i (k+j) n->y∈aO (yd l ah i) k m from hs ah 0 j n hj (by rwa [Nat.zero_add])
  intro m;induction m with
  |nil=>intro k j n h;cases h
  |cons x r ih=>
   intro k j n h h2;cases j with
   |zero=>injection h with h;subst h;exact List.mem_append_left _ h2
   |succ j=>exact xN _ (ih (k+1) j n h (by rw[show k+1+j=k+(j+1) by omega];exact h2))
 have e1:(∃y∈aO (yd l ah i) 0 ah,y.code=61)<->ah.any (λn=>decide (lJ l n))=true:=by
  constructor
  .rintro⟨y,hy,hc⟩;obtain⟨j,n,hj,h⟩:=eD hy;rcases zM.1 h with h |h
   .exact xM.2 ⟨n,zA hj,zW (bD h).2⟩
   .obtain⟨m,_,h⟩:=xF.1 h;rw[(bD h).1]at hc;cases hc
  .intro h;obtain⟨n,hn,hd⟩:=xM.1 h;obtain⟨j,hj⟩:=List.mem_iff_getElem?.1 hn;have hp:lJ l n:=of_decide_eq_true hd;exact⟨⟨4,1,61,1,i,0⟩,pP j n _ hj (List.mem_append_left _ (by rw[if_pos hp];simp)),rfl⟩
 by_cases h1:ah.any (λn=>decide (lJ l n))=true
 .rw[if_pos (e1.2 h1),if_pos h1]
 .rw[if_neg (λh=>h1 (e1.1 h)),if_neg h1];by_cases h2:ah.Nodup
  .have e2:(if¬ah.Nodup then(62:Int)else 0)=0:=if_neg (λh=>h h2);rw[e2];refine if_pos ?_;apply List.eq_nil_iff_forall_not_mem.2;intro y hy;obtain⟨j,n,hj,h⟩:=eD hy;rcases zM.1 h with h |h
   .exact h1 (xM.2 ⟨n,zA hj,zW (bD h).2⟩)
   .obtain⟨m,hm,h⟩:=xF.1 h;rw[Nat.zero_add]at hm;rw[<-(bD h).2]at hm;exact(j5 ah).1 h2 j n hj hm
  .have e2:(if¬ah.Nodup then(62:Int)else 0)=62:=if_pos h2;rw[e2];refine if_neg λhe=>h2 ((j5 ah).2 λj n hj hm=>?_)
   have:=pP j n ⟨4,2,62,1,i,0⟩ hj (xN _ (xF.2 ⟨n,hm,by unfold Iu;rw[if_pos rfl];simp⟩));rw[he]at this;cases this
theorem rj {l q i x y}(h:y∈BU l q i x):y.rule=4/\y.idx=i/\y.sub=0/\y.code=60+y.pL/\1<=y.pL:=by
 rcases zM.1 h with h |h
 .obtain⟨j,n,_,h⟩:=eD h;rcases zl h with rfl |rfl<;>exact⟨rfl,rfl,rfl,rfl,sJ⟩
 .rcases zM.1 h with h |h<;>(rw[(bD h).1];exact⟨rfl,rfl,rfl,rfl,sJ⟩)
theorem K1 (l q i x):dI (BU l q i x)=if fN l x≠0 then fN l x else if aM q x.v<(i:Int)then 64 else 0:=by
 have ht:∀y∈aO (yd l x.ah i) 0 x.ah,y.code≠0/\y.rule=4/\y.idx=i/\y.sub=0/\y.pL<=2:=λy hy=>by
  obtain⟨j,n,_,h⟩:=eD hy;rcases zl h with rfl |rfl<;>exact⟨sJ,rfl,rfl,rfl,sJ⟩
 unfold BU;rw[dD (λy hy=>(ht y hy).1) (λa ha b hb=>?_),Iw,dD (λy hy=>?_) (λa ha b hb=>?_),iV,iV]
 .unfold fN;by_cases h1:x.ah.any (λn=>decide (lJ l n))=true
  .simp[h1]
  .by_cases h2:x.ah.Nodup
   .by_cases h3:jl x<;>simp[h1,h2,h3]
   .simp[h1,h2]
 .rw[(bD hy).1];simp
 .rw[(bD ha).1,(bD hb).1];simp[pO]
 .obtain⟨_,a1,a2,a3,a4⟩:=ht a ha;rcases zM.1 hb with h |h<;>(rw[(bD h).1];unfold pO;simp only[a1,a2,a3];simp;omega)
theorem oy (l q):dI (gO l q)=bM l q:=by
 have hm:∀y∈aO (BU l q) 0 q.items,y.code≠0/\y.rule=4:=λy hy=>by
  obtain⟨i,x,_,h⟩:=eD hy;obtain⟨h1,_,_,h2,h3⟩:=rj h;exact⟨oQ,h1⟩
 unfold gO;rw[dD (λy hy=>?_) (λa ha b hb=>?_),iV,dD (λy hy=>(hm y hy).1) (λa ha b hb=>?_),iV,mX (g:=λi x=>if fN l x≠0 then fN l x else if aM q x.v<(i:Int)then 64 else 0)]
 .unfold bM;by_cases h1:10<q.items.length
  .rw[if_pos h1,if_pos h1];rfl
  .rw[if_neg h1,if_neg h1,zi,EY];rfl
 .intro i x _;exact⟨K1 l q i x,λy hy=>by obtain⟨_,_,_,h2,h3⟩:=rj hy;omega⟩
 .intro i j x y dE _ _ a ha b hb;obtain⟨a1,a2,_⟩:=rj ha;obtain⟨b1,b2,_⟩:=rj hb;exact zj oQ oQ
 .rw[(bD hb).1];unfold pO;simp[(hm a ha).2]
 .rw[(bD hy).1];simp
 .rw[(bD ha).1];have l4:4<=b.rule:=by
   rcases zM.1 hb with h |h
   .rw[(hm b h).2];omega
   .rw[(bD h).1];show(4:Int)<=5;omega
  unfold pO;have:b.rule≠3:=oQ;simp only[this,ne_eq,not_false_iff,if_true];omega
def mY (q:Qy)(v:ByteArray):Option It:=if aM q v<0 then none else q.items[(aM q v).toNat]?
def fG (x:Nd)(it:It)(res:Bool):Prop:=(dm x.op=true/\it.neg=true)\/(x.op=11/\ld it=false)\/(res=true/\bC x.op=true/\(it.neg=true\/ld it=true))
instance (x:Nd)(it:It)(res:Bool):Decidable (fG x it res):=by unfold fG;infer_instance
def j6 (l:List Td)(q:Qy)(res:Bool)(x:Nd):Int:=if bC x.op=false/\dm x.op=false then 0 else match mY q x.v with
 |none=>68
 |some it=>if x.op≠5/\hasB l it.ah x.at_=false then 69 else if fG x it res then 76 else 0
def GU (l:List Td)(q:Qy)(t:List Nd)(res:Bool)(x:Nd):Int:=fz [j6 l q res x,if cF t x=true then 0 else 75]
def fC (l:List Td)(q:Qy)(t:List Nd)(res:Bool):Int:=fz (t.map (GU l q t res))
def dA (l:List Td)(q:Qy)(t:List Nd)(res:Bool)(x:Nd):List Int:=if bC x.op=false/\dm x.op=false then [0,0,0,if cF t x=true then 0 else 75]else match mY q x.v with
 |none=>[68,0,0,0]
 |some it=>[0,if x.op≠5/\hasB l it.ah x.at_=false then 69 else 0,if fG x it res then 76 else 0,0]
open Classical in
noncomputable def bg (t:List Nd)(r:Nat):Nat:=if h:∃b,Sp t b r then h.choose else 0
theorem SZ {t b r}(h:Sp t b r):bg t r=b:=by
 unfold bg;rw[dif_pos ⟨b,h⟩];exact Sp.Pz (Exists.choose_spec (p:=λb=>Sp t b r) ⟨b,h⟩) h
noncomputable def oz (t:List Nd)(r:Nat):List Nd:=dW t (bg t r) r
def dn (q:Qy)(t:List Nd):List Nat:=(List.range q.items.length).filter λi=>t.any λx=>decide (aM q x.v=(i:Int))&&bC x.op
def mZ (q:Qy)(i:Nat):Bool:=match q.items[i]? with |some x=>x.neg||decide (1<x.hi)|none=>false
def iw (q:Qy)(t:List Nd):Bool:=decide (1<((dn q t).filter (mZ q)).length)
noncomputable def cA (l:List Td)(q:Qy):Int:=if q.wh=[]then 0 else fz [fC l q q.wh false,if aE q.wh=true then 0 else 75,if(cI q.wh).any (λr=>iw q (oz q.wh r))=true then 77 else 0]
def ll (q:Qy):Int:=if 1099511627776<q.within then 66 else 0
def mh (l:List Td)(q:Qy):Bool:= !decide (q.au=jk)&&q.items.all λx=>hasB l x.ah q.au
def mj (l:List Td)(q:Qy):Int:=if q.au=emp then 0 else if mh l q=true then 0 else 67
def mq (l:List Td)(q:Qy):Int:=if 8<q.ret.length then 78 else fz (q.ret.map λt=>fz [fC l q t true,if aE t=true then 75 else 0])
noncomputable def bf (sc:Int)(l:List Td)(q:Qy):Int:=fz [sc,if aL q=true then 0 else 50,bM l q,cA l q,ll q,mj l q,mq l q]
def eF (rule part idx sub:Int)(e:List Int):List Fg:=aO (λr c=>if c≠0 then [⟨rule,(r:Int)+1,c,part,idx,sub⟩]else []) 0 e
noncomputable def gP (l:List Td)(q:Qy):List Fg:=aO (λi x=>eF 6 4 i 0 (dA l q q.wh false x)) 0 q.wh++(if q.wh=[]then []else
 (if aE q.wh=false then [⟨7,0,75,4,(q.wh.length:Int) -1,0⟩]else [])++(cI q.wh).flatMap (λr=>if iw q (oz q.wh r)=true then [⟨8,0,77,4,r,0⟩]else []))
def mr (l:List Td)(q:Qy)(k:Nat)(t:List Nd):List Fg:=aO (λi x=>eF 12 5 k i (dA l q t true x)) 0 t++(if aE t=true then [⟨12,5,75,5,k,(t.length:Int) -1⟩]else [])
def mv (l:List Td)(q:Qy):List Fg:=(if 1099511627776<q.within then [⟨9,0,66,2,0,0⟩]else [])++((if q.au=emp then []else q.items.flatMap (λx=>if hasB l x.ah q.au=false\/q.au=jk then [⟨10,0,67,3,0,0⟩]else []))++
 ((if 8<q.ret.length then [⟨11,0,78,5,8,0⟩]else [])++aO (mr l q) 0 q.ret))
theorem zn {rule part idx sub e y}(h:y∈eF rule part idx sub e):y.rule=rule/\y.idx=idx/\y.sub=sub/\y.code≠0/\y.pL<=e.length:=by
 obtain⟨i,c,hc,h⟩:=eD h;obtain⟨rfl,hp⟩:=bD h;have:=(zC.1 hc).1;refine⟨rfl,rfl,rfl,hp,?_⟩;show((0+i:Nat):Int)+1<=_
 omega
theorem oC {α β}(g:α->β)(l):∀n,aO (λ_ x=>[g x]) n l=l.map g:=by
 induction l with
 |nil=>intro n;rfl
 |cons x r ih=>intro n;show g x::aO _ (n+1) r=_;rw[ih];rfl
theorem PO (rule part idx sub e):dI (eF rule part idx sub e)=fz e:=by
 unfold eF;rw[mX (g:=λ_ c=>c),oC]
 .simp
 .intro i c _;refine⟨?_,λy hy=>?_⟩
  .by_cases h:c=0<;>simp[h,dI,cX]
  .obtain⟨rfl,hp⟩:=bD hy;exact hp
 .intro i j x y dE _ _ a ha b hb;obtain⟨rfl,_⟩:=bD ha;obtain⟨rfl,_⟩:=bD hb;exact ri rfl rfl (.inr ⟨rfl,by simp;omega⟩)
theorem GV {rule part}{f:Nat->Int×Int}{e:Nd->List Int}{t y}(he:∀x∈t,(e x).length=4)(h:y∈aO (λi x=>eF rule part (f i).1 (f i).2 (e x)) 0 t):y.rule=rule/\y.code≠0/\y.pL<=4/\∃i:Nat,i<t.length/\y.idx=(f i).1/\y.sub=(f i).2:=by
 obtain⟨i,x,hx,h⟩:=eD h;obtain⟨h1,h2,h3,h4,h5⟩:=zn h;rw[he x (zA hx)]at h5;rw[Nat.zero_add]at h2 h3;exact⟨h1,h4,h5,i,(zC.1 hx).1,h2,h3⟩
theorem my (l q t res x):(dA l q t res x).length=4:=by
 unfold dA;split
 .rfl
 .split<;>rfl
theorem EZ {t}(h:aW t=true){x}(hx:x∈t)(ho:dg x.op=true):x.a= -1/\x.b= -1:=by
 obtain⟨_,ha,_⟩:=dF h;obtain⟨i,hi⟩:=List.mem_iff_getElem?.1 hx;obtain⟨b,hb⟩:=ha i (zC.1 hi).1;cases hb with
 |lf hy h1 h2 h3=>rw[hi]at hy;injection hy with hy;subst hy;exact⟨h2,h3⟩
 |un hy h1=>rw[hi]at hy;injection hy with hy;subst hy;exact(KD ho h1).elim
 |bi hy h1=>rw[hi]at hy;injection hy with hy;subst hy;exact(KE ho h1).elim
theorem PQ {l q t}(h:aW t=true){x}(hx:x∈t)(res):fz (dA l q t res x)=GU l q t res x:=by
 unfold dA GU j6;by_cases hb:bC x.op=false/\dm x.op=false
 .rw[if_pos hb,if_pos hb];simp[fz]
 .rw[if_neg hb,if_neg hb];have pG:dg x.op=true:=by
   simp[bC,dm]at hb;simp[dg];omega
  obtain⟨h1,h2⟩:=EZ h hx pG;have hk:cF t x=true:=by unfold cF mU;rw[h1,h2];simp
  rw[if_pos hk];cases mY q x.v with
  |none=>simp[fz]
  |some it=>
   simp only;by_cases h3:x.op≠5/\hasB l it.ah x.at_=false
   .simp only[if_pos h3];simp[fz]
   .simp only[if_neg h3];by_cases h4:fG x it res
    .simp only[if_pos h4];simp[fz]
    .simp only[if_neg h4];simp[fz]
theorem ye {l q t}(h:aW t=true)(res rule part)(f:Nat->Int×Int)(hf:∀i j:Nat,i<j->(f i).1<(f j).1\/((f i).1=(f j).1/\(f i).2<(f j).2)):dI (aO (λi x=>eF rule part (f i).1 (f i).2 (dA l q t res x)) 0 t)=fC l q t res:=by
 rw[mX (g:=λ_ x=>fz (dA l q t res x))]
 .rw[oC];unfold fC;congr 1;exact List.map_congr_left λx hx=>PQ h hx res
 .intro i x _;exact⟨PO _ _ _ _ _,λy hy=>(zn hy).2.2.2.1⟩
 .intro i j x y dE _ _ a ha b hb;obtain⟨a1,a2,a3,_⟩:=zn ha;obtain⟨b1,b2,b3,_⟩:=zn hb;have:=hf i j dE;rcases this with h |⟨h,h2⟩
  .exact zj oQ oQ
  .exact ri oQ oQ (.inl oQ)
theorem CP {l q}(h:q.wh=[]\/aW q.wh=true):dI (gP l q)=cA l q/\∀y∈gP l q,y.code≠0/\y.rule<=8:=by
 unfold gP cA;by_cases h0:q.wh=[]
 .rw[if_pos h0,if_pos h0,h0];exact⟨rfl,λy hy=>by cases hy⟩
 .rw[if_neg h0,if_neg h0];have ht:=h.resolve_left h0;have hm:∀y∈aO (λi x=>eF 6 4 i 0 (dA l q q.wh false x)) 0 q.wh,y.code≠0/\y.rule=6:=λy hy=>by
   obtain⟨h1,h2,_⟩:=GV (f:=λi=>((i:Int),0)) (λx _=>my l q q.wh false x) hy;exact⟨h2,h1⟩
  have hc:∀y∈(cI q.wh).flatMap (λr=>if iw q (oz q.wh r)=true then [(⟨8,0,77,4,r,0⟩:Fg)]else []),y.code=77/\y.rule=8:=λy hy=>by
   obtain⟨r,_,hy⟩:=xF.1 hy;rw[(bD hy).1];exact⟨rfl,rfl⟩
  have S3:((cI q.wh).flatMap (λr=>if iw q (oz q.wh r)=true then [(⟨8,0,77,4,r,0⟩:Fg)]else [])=[])<->¬(cI q.wh).any (λr=>iw q (oz q.wh r))=true:=by
   rw[List.flatMap_eq_nil_iff];constructor
   .intro h hx;obtain⟨r,hr,hb⟩:=xM.1 hx;have:=h r hr;rw[if_pos hb]at this;cases this
   .intro h r hr;refine if_neg λhb=>h (xM.2 ⟨r,hr,hb⟩)
  constructor
  .rw[dD (λy hy=>(hm y hy).1) (λa ha b hb=>?_),dD (λy hy=>?_) (λa ha b hb=>?_),iV,uU (λy hy=>(hc y hy).1),ye ht false 6 4 (λi=>((i:Int),0)) (λi j dE=>by left;simpa using dE)]
   .by_cases h1:aE q.wh=true
    .by_cases h2:(cI q.wh).any (λr=>iw q (oz q.wh r))=true
     .rw[if_neg (λe=>S3.1 e h2),if_pos h2];simp[fz,h1]
     .rw[if_pos (S3.2 h2),if_neg h2];simp[fz,h1]
    .have SK:aE q.wh=false:=(by simpa using h1);simp[fz,SK]
   .rw[(bD hy).1];simp
   .exact mg (by rw[(bD ha).1,(hc b hb).2];simp)
   .have:b.rule=7\/b.rule=8:=by
     rcases zM.1 hb with h |h
     .rw[(bD h).1];exact .inl rfl
     .exact .inr (hc b h).2
    have:=(hm a ha).2;exact mg oQ
  .intro y hy;rcases zM.1 hy with h |h
   .exact⟨(hm y h).1,by rw[(hm y h).2];decide⟩
   .rcases zM.1 h with h |h
    .rw[(bD h).1];exact⟨sJ,sJ⟩
    .exact⟨by rw[(hc y h).1];decide,by rw[(hc y h).2];decide⟩
theorem mA {l q k t}(h:aW t=true):dI (mr l q k t)=fz [fC l q t true,if aE t=true then 75 else 0]/\∀y∈mr l q k t,y.code≠0/\y.rule=12/\y.idx=k:=by
 have hm:∀y∈aO (λi x=>eF 12 5 k i (dA l q t true x)) 0 t,y.code≠0/\y.rule=12/\y.idx=k/\y.pL<=4/\y.sub<=(t.length:Int) -1:=λy hy=>by
  obtain⟨h1,h2,h3,i,h4,h5,h6⟩:=GV (f:=λi=>((k:Int),(i:Int))) (λx _=>my l q t true x) hy;exact⟨h2,h1,h5,h3,by simp only at h6;omega⟩
 unfold mr;constructor
 .rw[dD (λy hy=>(hm y hy).1) (λa ha b hb=>?_),iV,ye h true 12 5 (λi=>((k:Int),(i:Int))) (λi j dE=>by right;simpa using dE)]
  .by_cases h1:aE t=true<;>simp[fz,h1]
  .obtain⟨_,a1,a2,a3,a4⟩:=hm a ha;rw[(bD hb).1];by_cases e:a.sub<(t.length:Int) -1
   .exact ri a1 a2 (.inl e)
   .exact ri a1 a2 (.inr ⟨by show a.sub=(t.length:Int) -1;omega,by show a.pL<=5;omega⟩)
 .intro y hy;rcases zM.1 hy with h |h
  .obtain⟨a1,a2,a3,_⟩:=hm y h;exact⟨a1,a2,a3⟩
  .rw[(bD h).1];exact⟨sJ,rfl,rfl⟩
theorem E0 {l q}(h:∀t∈q.ret,aW t=true)(hi:q.items≠ []):dI (mv l q)=fz [ll q,mj l q,mq l q]/\∀y∈mv l q,9<=y.rule:=by
 have hp:∀y∈(if q.au=emp then []else q.items.flatMap (λx=>if hasB l x.ah q.au=false\/q.au=jk then [(⟨10,0,67,3,0,0⟩:Fg)]else [])),y.code=67/\y.rule=10:=λy hy=>by
  by_cases hb:q.au=emp
  .rw[if_pos hb]at hy;cases hy
  .rw[if_neg hb]at hy;obtain⟨x,_,hy⟩:=xF.1 hy;rw[(bD hy).1];exact⟨rfl,rfl⟩
 have hpn:dI (if q.au=emp then []else q.items.flatMap (λx=>if hasB l x.ah q.au=false\/q.au=jk then [(⟨10,0,67,3,0,0⟩:Fg)]else []))=mj l q:=by
  rw[uU (λy hy=>(hp y hy).1)];unfold mj;by_cases hb:q.au=emp
  .rw[if_pos hb,if_pos hb];rfl
  .rw[if_neg hb,if_neg hb];have e:(q.items.flatMap (λx=>if hasB l x.ah q.au=false\/q.au=jk then [(⟨10,0,67,3,0,0⟩:Fg)]else [])=[])<->mh l q=true:=by
    rw[List.flatMap_eq_nil_iff];unfold mh;rw[xK,xP,Bool.not_eq_true',decide_eq_false_iff_not];constructor
    .intro h;have h':∀x∈q.items,¬(hasB l x.ah q.au=false\/q.au=jk):=λx hx hb=>by
      have:=h x hx;rw[if_pos hb]at this;cases this
     obtain⟨x,r,hxr⟩:=List.exists_cons_of_ne_nil hi;exact⟨λe=>h' x (by rw[hxr];simp) (.inr e),λx hx=>by have:=h' x hx;simpa using λhh=>this (.inl hh)⟩
    .rintro⟨h1,h2⟩ x hx;exact if_neg (by rw[h2 x hx];simp[h1])
   by_cases hB:mh l q=true
   .rw[if_pos (e.2 hB),if_pos hB]
   .rw[if_neg (λhe=>hB (e.1 he)),if_neg hB]
 have hr:∀y∈aO (mr l q) 0 q.ret,y.code≠0/\y.rule=12:=λy hy=>by
  obtain⟨k,t,ht,hy⟩:=eD hy;obtain⟨h1,h2,_⟩:=(mA (h t (zA ht))).2 y hy;exact⟨h1,h2⟩
 have wI:dI (aO (mr l q) 0 q.ret)=fz (q.ret.map λt=>fz [fC l q t true,if aE t=true then 75 else 0]):=by
  rw[mX (g:=λ_ t=>fz [fC l q t true,if aE t=true then 75 else 0]),oC]
  .intro i t ht;exact⟨(mA (h t (zA ht))).1,λy hy=>((mA (h t (zA ht))).2 y hy).1⟩
  .intro i j x y dE hx hy a ha b hb;obtain⟨_,a1,a2⟩:=(mA (h x (zA hx))).2 a ha;obtain⟨_,b1,b2⟩:=(mA (h y (zA hy))).2 b hb;exact zj oQ oQ
 have h3:∀b∈(if 8<q.ret.length then [(⟨11,0,78,5,8,0⟩:Fg)]else [])++aO (mr l q) 0 q.ret,b.rule=11\/b.rule=12:=λb hb=>by
  rcases zM.1 hb with h |h
  .rw[(bD h).1];exact .inl rfl
  .exact .inr (hr b h).2
 unfold mv;constructor
 .rw[dD (λy hy=>?_) (λa ha b hb=>?_),iV,dD (λy hy=>?_) (λa ha b hb=>?_),hpn,dD (λy hy=>?_) (λa ha b hb=>?_),iV,wI]
  .unfold ll mq;by_cases h1:1099511627776<q.within
   .simp[fz,h1]
   .simp only[if_neg h1];by_cases h2:mj l q=0
    .simp only[h2];by_cases h4:8<q.ret.length
     .simp[fz,h4]
     .simp[fz,h4]
    .simp[fz,h2]
  .rw[(bD hy).1];simp
  .exact mg (by rw[(bD ha).1,(hr b hb).2];simp)
  .rw[(hp y hy).1];decide
  .have h2:=(hp a ha).2;have:=h3 b hb;exact mg oQ
  .rw[(bD hy).1];simp
  .have:b.rule=10\/b.rule=11\/b.rule=12:=by
    rcases zM.1 hb with h |h
    .exact .inl (hp b h).2
    .exact .inr (h3 b h)
   rw[(bD ha).1];exact mg (by show(9:Int)<b.rule;omega)
 .intro y hy;rcases zM.1 hy with h |h
  .rw[(bD h).1];simp
  .rcases zM.1 h with h |h
   .rw[(hp y h).2];decide
   .rcases h3 y h with h |h<;>omega
noncomputable def Uc (l:List Td)(q:Qy):Int:=if gO l q=[]then dI (gP l q++mv l q)else dI (gO l q)
theorem PR {l q}(h:aL q=true):Uc l q=fz [bM l q,cA l q,ll q,mj l q,mq l q]:=by
 unfold aL at h;simp only[xK,Bool.or_eq_true,decide_eq_true_eq]at h;obtain⟨h1,_,_,_,_,_,_,h2,_,h3⟩:=h;have hi:q.items≠ []:=λe=>by rw[e]at h1;simp at h1
 have hw:=CP (l:=l) (q:=q) (h2.imp (λe=>List.eq_nil_of_length_eq_zero e) id);have hr:=E0 (l:=l) (q:=q) (λt ht=>xP.1 h3 t ht) hi;have hwr:dI (gP l q++mv l q)=fz [cA l q,ll q,mj l q,mq l q]:=by
  rw[dD (λy hy=>(hw.2 y hy).1) (λa ha b hb=>?_),hw.1,hr.1]
  .rfl
  .have h4:=(hw.2 a ha).2;have h5:=hr.2 b hb;exact mg oQ
 unfold Uc;by_cases h0:gO l q=[]
 .rw[if_pos h0,hwr];have:bM l q=0:=by rw[<-oy,h0];rfl
  rw[this];simp[fz]
 .rw[if_neg h0,oy];have hne:bM l q≠0:=by
   rw[<-oy];obtain⟨x,r,hxr⟩:=List.exists_cons_of_ne_nil h0;have hz:∀y∈gO l q,y.code≠0:=λy hy=>by
    rcases zM.1 hy with h |h
    .rw[(bD h).1];simp
    .rcases zM.1 h with h |h
     .obtain⟨i,x,_,h⟩:=eD h;obtain⟨_,_,_,h2,h3⟩:=rj h;omega
     .rw[(bD h).1];simp
   rw[hxr]at hz |-;apply hz;rcases sF x r with e |e<;>simp[e]
  conv=>rhs;unfold fz
  rw[if_neg hne]
open Go.Maps
theorem Yp:Keyed prog 9:=string_keyed underlying9
theorem Yq:Keyed prog 3:=int_keyed underlying3
theorem Yr (w):(zeroValue 3).run prog w=.ok (.int .i64 0) w:=kQ
theorem zp (n w):(Instr.makeMap 134 (some (.int .i64 n))).run prog w=.ok (.map (some w.heap.size)) (w.alloc (.map #[] 0)):=by
 simp[Instr.makeMap,run_underlying underlying134,asInt,asIntOf,Result.andThen]
def kl (s:ByteArray):Lit:=.string s.data.toList
theorem K2 {s}(h:s.size<=1048576):keyOf prog 9 (.string s)=some (kl s):=WideMaps.keyOf_string_mk underlying9 (by unfold maxLen;omega)
theorem Ys {s t}(h:s≠t):kl s≠kl t:=λe=>h (by unfold kl at e;injection e with e;exact ByteArray.ext (Array.ext' e))
def cV (k:TypeId)(w:World)(m n:Nat)(f:Lit->Option Int):Prop:=
 ∃D:DataW Unit,w.ownsMap prog k (plainElem prog 3) m n D/\∀x,Maps.has D x=(f x).isSome/\D.atKey x (.lit (.int .i64 0))=.lit (.int .i64 ((f x).getD 0))
theorem cV.made (k)(w:World):cV k (w.alloc (.map #[] 0)) w.heap.size 0 (λ_=>none):=
 ⟨.map [],World.ownsMap_made _ _ _ _,λs=>⟨rfl,rfl⟩⟩
theorem cV.GX {k}{w:World}{g}(hg:w.heap.size=g):cV k (w.alloc (.map #[] 0)) g 0 (λ_=>none):=hg▸cV.made k w
theorem cV.lt {k w m n f}(h:cV k w m n f):m<w.heap.size:=let ⟨_,h1,_⟩:=h;h1.lt
theorem cV.mono {k w m n n' f}(h:cV k w m n f)(hn:n<=n'):cV k w m n' f:=let ⟨D,h1,h2⟩:=h;⟨D,h1.mono hn,h2⟩
theorem cV.kept {k w w' m n f row}(h:cV k w m n f)(hg:w.grownBy w' row)(hne:some m≠row):cV k w' m n f:=
 let ⟨D,h1,h2⟩:=h;⟨D,h1.kept hg hne,h2⟩
theorem cV.stay {k w w' m n f}(h:cV k w m n f)(hb:Bw w w'):cV k w' m n f:=h.kept (row:=none) (Below.jU hb) sJ
theorem cV.setCell {k w m n f}(h:cV k w m n f){a}(ha:m≠a.block)(u):cV k (w.setCell a u) m n f:=
 let ⟨D,h1,h2⟩:=h;⟨D,h1.setCell ha u,h2⟩
theorem cV.look {w m n f}(h:cV 9 w m n f){s}(hs:s.size<=1048576):
  (Instr.lookup 134 (.map (some m)) (.string s) true).run prog w=.ok (.tuple #[.int .i64 ((f (kl s)).getD 0),.bool (f (kl s)).isSome]) w:=by
 obtain⟨D,h1,h2⟩:=h;obtain⟨v,ps,hrun,hv⟩:=h1.look_ok Yp underlying134 (Yr w) (plainElem_int underlying3 dQ) (K2 hs);obtain⟨c,rfl,hc,_⟩:=plainElem_int_inv underlying3 hv;have e:DataW.lit (.int .i64 ((f (kl s)).getD 0))=(DataW.lit (.int .i64 c):DataW Unit):=(h2 (kl s)).2.symm.trans (congrArg Prod.fst hc);have e2:(f (kl s)).getD 0=c:=by
  exact(Lit.int.inj (DataW.lit.inj e)).2
 rw[hrun,(h2 _).1,e2]
open Classical in
noncomputable def E4 (f:Lit->Option Int)(x:Lit)(k:Int):Lit->Option Int:=λy=>if y=x then some k else f y
theorem px (f x k):E4 f x k x=some k:=if_pos rfl
theorem nh {f x y k}(h:y≠x):E4 f x k y=f y:=if_neg h
theorem oD {w ops rest o a Q}(hg:o.guard=none)(m x v)(hop:o.op=Op.mapUpdate 134 m x v){b n f s k}(hm:a.eval m=.map (some b))(h:cV 9 w b n f)(hn:n<=1048576)(hx:a.eval x=.string s)(hv:a.eval v=.int .i64 k)(hs:s.size<=1048576)(hk:(Lit.int .i64 k).wf=true)(hK:∀w',cV 9 w' b (n+1) (E4 f (kl s) k)->w.grownBy w' (some b)->wpList prog ops Q rest (a.put o.dst undef) w'):wpList prog ops Q (o::rest) a w:=by
 obtain⟨D,h1,h2⟩:=h;refine wpList_mapUpdate_own w hg m x v _ hop 9 3 Yp underlying134 _ b n D hm h1 (by unfold maxLen;omega) _ _ (kl s) hx hv (K2 hs) _ [] (plainElem_int underlying3 hk) λw' h3 h4=>hK w' ⟨_,h3,λt=>?_⟩ h4
 by_cases e:t=kl s
 .subst e;rw[has_put_same h1.isMap (by unfold kl;trivial),atKey_put_same h1.isMap (by unfold kl;trivial),px];exact⟨rfl,rfl⟩
 .rw[has_put_other e,atKey_put_other e,nh e];exact h2 t
def Ix (p:Int):Option Int:=if p<0 then none else some p
theorem fW (p):(Ix p).isSome=decide (0<=p):=by
 unfold Ix;by_cases h:p<0
 .rw[if_pos h,zV oQ];rfl
 .rw[if_neg h,zW oQ];rfl
theorem yf {p}(h:0<=p):(Ix p).getD 0=p:=by unfold Ix;rw[if_neg oQ];rfl
theorem yg (l s):aj l s<l.length:=by
 unfold aj;split
 .rename_i i h;rw[List.findIdx?_eq_some_iff_getElem]at h;obtain⟨hi,_⟩:=h;omega
 .omega
theorem yh (l s): -1<=aj l s:=by unfold aj;split<;>omega
theorem tw (l y s):aj (l++[y]) s=if aj l s<0 then(if y=s then(l.length:Int)else -1)else aj l s:=by
 unfold aj;rw[List.findIdx?_append];cases h:l.findIdx? (λa=>decide (a=s))with
 |some i=>simp;omega
 |none=>
  by_cases e:y=s
  .simp[e,List.findIdx?_cons]
  .simp[e,List.findIdx?_cons]
theorem CQ {q j x}(h:q.items[j]? =some x):(lZ q).take (j+1)=(lZ q).take j++[x.v]:=by
 unfold lZ;rw[zJ,zG,h];rfl
theorem uu (q):(lZ q).length=q.items.length:=by unfold lZ;simp
def ni (l:List ByteArray)(f:Lit->Option Int):Prop:=∀v,f (kl v)=Ix (aj l v)
theorem ni.old {l f y}(h:ni l f)(hy:0<=aj l y):ni (l++[y]) f:=λv=>by
 rw[h v,tw];by_cases e:y=v
 .subst e;rw[if_neg oQ]
 .rw[if_neg e];by_cases h2:aj l v<0
  .rw[if_pos h2];have:=yh l v;congr 1;omega
  .rw[if_neg h2]
theorem ni.put {l f y}(h:ni l f)(hy:aj l y<0):ni (l++[y]) (E4 f (kl y) l.length):=λv=>by
 rw[tw];by_cases e:y=v
 .subst e;rw[px,if_pos hy,if_pos rfl];unfold Ix;rw[if_neg oQ]
 .rw[nh (λh=>Ys e h.symm),if_neg e,h v];by_cases h2:aj l v<0
  .rw[if_pos h2];have:=yh l v;congr 1;omega
  .rw[if_neg h2]
structure BN (q:Qy)(s:fV)(w wr:World)(j:Nat):Prop where
 qb:QB q s w wr
 mp:∃f,cV 9 wr (w.heap.size+1) j f/\ni ((lZ q).take j) f
theorem BN.stay {q s w wr W j}(h:BN q s w wr j)(hb:Bw wr W):BN q s w W j:=⟨h.qb.stay hb,let ⟨f,h1,h2⟩:=h.mp;⟨f,h1.stay hb,h2⟩⟩
namespace dR
open cH
theorem CS (q s F)(hl:q.items.length<=1048576)(hv:∀x∈q.items,x.v.size<=1048576)(w)(hF:∀b,F b->b<w.heap.size)(r:Rd w F (.slice s.a1 q.items.length s.c1) (.sl q.items.length (q.items.flatMap SV))):
  Cl 54 #[.agg ⟨qV q s⟩] w λe w'=>e=.returned (.map (some (w.heap.size+1)))/\(∃f,cV 9 w' (w.heap.size+1) q.items.length f/\ni (lZ q) f)/\Bw w w':=by
 have h0:=QB.new q s w;obtain⟨A1,c1,A2,c2,A3,c3⟩:=s;have JY:BN q ⟨A1,c1,A2,c2,A3,c3⟩ w ((w.alloc (.cells ⟨qV q ⟨A1,c1,A2,c2,A3,c3⟩⟩ 31)).alloc (.map #[] 0)) 0:=⟨h0.stay bA,_,cV.GX sJ,λv=>rfl⟩;simp only[qV]at h0 r JY |-;replace⟨r,hF,h0,JY,hv⟩:=H5 r hF h0 JY hv;have SL:=zp;go_enter func54,ntmps54;go_wp2;go_loopw [15] (λi wr=>∃j:Nat,j<=q.items.length/\i=.int .i64 j/\BN q ⟨A1,c1,A2,c2,A3,c3⟩ w wr j) (λi _=>q.items.length- (intOf i).toNat)
 .exact⟨0,zE _,rfl,JY.o⟩
 clear h0 JY;obtain⟨j,hj,rfl,hI⟩:=hrel;obtain⟨hQ,f,hM,hN⟩:=hI;obtain⟨y0,_⟩:=hQ.cells;simp only at y0;by_cases hlt:j<q.items.length
 .obtain⟨x,hx⟩:=av hlt;obtain⟨g,off,B2,d2,rfl,_,_,a0,a1,a2,a3,a4⟩:=eV (r.o.under hQ.1 hF.o) hx;have g0:=aH j;have g1:=aV j q.items.length;have wN:=hv.o x (zA hx);have hsz:=hM.lt;have ch:Bw wr (wr.alloc (.cells ⟨dX x (.slice B2 x.ah.length d2)⟩ 60)):=bA;have lk:=(hM.stay ch).look wN;have E5:=hM.stay ch;have qm:=hQ.stay ch;rw[hN x.v]at lk;rw[fW]at lk;simp only[dX]at lk ch E5 qm;have GY:=Hd (CQ hx);have hwf:(Lit.int .i64 (j:Int)).wf=true:=WalkArith.wf_i64 oQ;replace⟨ch,qm,hQ,hx⟩:=H4 ch qm hQ hx;have hlen:((lZ q).take j).length=j:=by rw[zO,uu];omega
  by_cases hu:0<=aj ((lZ q).take j) x.v
  .have p9:=hN.old hu;rw[<-GY.o]at p9;rw[zW hu]at lk;replace⟨hM,E5,hN,p9⟩:=H4 hM E5 hN p9;clear hlen hu;go_wp2_with fail;go_roundw
   .exact⟨j+1,oQ,gQ,qm.o,f,E5.o.mono oQ,p9.o⟩
   exact mQ
  .have p9:=hN.put (Int.not_le.1 hu);rw[<-GY.o,hlen]at p9;rw[zV hu]at lk;replace hM:=Hd hM;have Ud:=Hd E5;replace⟨hN,p9⟩:=H2 hN p9;clear hlen hu;have hjj:j<=1048576:=oQ;go_wp2_with (at_mapUpdate;refine oD rfl (.tmp 29) (.tmp 31) (.tmp 32) rfl rfl Ud.o hjj rfl rfl wN hwf ?_;intro w1 uv aw);have Er:BN q ⟨some ⟨g,off,none⟩,c1,A2,c2,A3,c3⟩ w w1 (j+1):=by
    refine⟨⟨?_,?_⟩,_,uv,p9.o⟩
    .exact qm.o.1.grown aw qm.o.1.size (λq hq=>by injection hq with hq;omega)
    .exact qm.o.2.grown aw sJ
   replace Er:=Hd Er;clear uv aw;go_wp2_with fail;go_roundw
   .exact⟨j+1,oQ,gQ,Er.o⟩
   exact mQ
 .have g1:=jS j q.items.length;obtain rfl:j=q.items.length:=oQ;rw[<-uu q,zL]at hN;replace⟨hQ,hM,hN⟩:=H3 hQ hM hN;go_wp2;go_ret;exact⟨rfl,⟨f,hM.o,hN.o⟩,hQ.o.1⟩
end dR
