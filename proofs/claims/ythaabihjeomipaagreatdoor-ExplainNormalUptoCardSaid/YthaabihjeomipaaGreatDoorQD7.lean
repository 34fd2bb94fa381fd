/- Check in plain Lean. -/
import Derived.Test.YthaabihjeomipaaGreatDoorQD6
namespace Go.Proofs.YthaabihjeomipaaGreatDoor
set_option maxRecDepth 100000
set_option maxHeartbeats 16000000
open Go.RowKit Go.Deep
set_option linter.unusedVariables false
set_option linter.unusedSimpArgs false
def fz:List Int→Int
 | []=>0
 |c::r=>if c=0 then fz r else c
theorem fz_app (a b:List Int):fz (a++b)=if fz a=0 then fz b else fz a:=by
 induction a with
 |nil=>simp[fz]
 |cons c r ih=>
  show(if c=0 then fz (r++b)else c)=if(if c=0 then fz r else c)=0 then fz b else(if c=0 then fz r else c)
  by_cases h:c=0
  ·simp only[h,if_true];exact ih
  ·simp[h]
theorem fz_one (c:Int):fz [c]=c:=by
 unfold fz;by_cases h:c=0
 ·rw[if_pos h,h];rfl
 ·rw[if_neg h]
theorem fz_zero {a:List Int}(h:∀c∈a,c=0):fz a=0:=by
 induction a with
 |nil=>rfl
 |cons c r ih=>unfold fz;rw[if_pos (h c sJ)];exact ih fun d hd=>h d (by simp[hd])
structure Fg where
 rule:Int
 rank:Int
 code:Int
 part:Int
 idx:Int
 sub:Int
def Klt (a b:Fg):Prop:=if a.rule≠b.rule then a.rule<b.rule else if a.idx≠b.idx then a.idx<b.idx else if a.sub≠b.sub then a.sub<b.sub else a.rank<b.rank
instance (a b:Fg):Decidable (Klt a b):=by unfold Klt;infer_instance
theorem klt_rule {a b:Fg}(h:a.rule<b.rule):¬Klt b a:=by
 unfold Klt;rw[if_pos oQ];omega
theorem klt_idx {a b:Fg}(h:a.rule=b.rule)(h2:a.idx<b.idx):¬Klt b a:=by
 unfold Klt;rw[if_neg oQ,if_pos oQ];omega
theorem klt_rank {a b:Fg}(h:a.rule=b.rule)(h2:a.idx=b.idx)(h3:a.sub<b.sub∨(a.sub=b.sub∧a.rank≤b.rank)):¬Klt b a:=by
 unfold Klt;rw[if_neg oQ,if_neg oQ];by_cases e:a.sub=b.sub
 ·rw[if_neg oQ];omega
 ·rw[if_pos oQ];omega
def bestF:Fg→List Fg→Fg
 |b,[]=>b
 |b,x::r=>bestF (if Klt x b then x else b) r
def bestC:List Fg→Int
 | []=>0
 |x::r=>(bestF x r).code
theorem bestF_app (b:Fg)(l m:List Fg):bestF b (l++m)=bestF (bestF b l) m:=by
 induction l generalizing b with
 |nil=>rfl
 |cons x r ih=>exact ih _
theorem bestF_mem (b:Fg)(l:List Fg):bestF b l=b∨bestF b l∈l:=by
 induction l generalizing b with
 |nil=>exact .inl rfl
 |cons x r ih=>
  show bestF (if Klt x b then x else b) r=b∨bestF (if Klt x b then x else b) r∈x::r
  rcases ih (if Klt x b then x else b)with h |h
  ·rw[h];by_cases hk:Klt x b
   ·rw[if_pos hk];exact .inr sJ
   ·rw[if_neg hk];exact .inl rfl
  ·exact .inr (by simp[h])
theorem bestF_stays (b:Fg)(l:List Fg)(h:∀y∈l,¬Klt y b):bestF b l=b:=by
 induction l with
 |nil=>rfl
 |cons x r ih=>show bestF (if Klt x b then x else b) r=b;rw[if_neg (h x sJ)];exact ih fun y hy=>h y (by simp[hy])
theorem bestC_app {l m:List Fg}(hz:∀x∈l,x.code≠0)(h:∀x∈l,∀y∈m,¬Klt y x):bestC (l++m)=if bestC l=0 then bestC m else bestC l:=by
 cases l with
 |nil=>rfl
 |cons x r=>
  have hm:bestF x r∈x::r:=by rcases bestF_mem x r with e |e<;>simp[e]
  show(bestF x (r++m)).code=_
  rw[bestF_app,bestF_stays _ _ (h _ hm)];exact(if_neg (hz _ hm)).symm
theorem bestC_same {l:List Fg}{c:Int}(h:∀x∈l,x.code=c):bestC l=if l=[]then 0 else c:=by
 cases l with
 |nil=>rfl
 |cons x r=>
  rw[if_neg sJ];show(bestF x r).code=c
  apply h;rcases bestF_mem x r with e |e<;>simp[e]
theorem bestC_if (p:Prop) [Decidable p] (x:Fg):bestC (if p then [x]else [])=if p then x.code else 0:=by
 by_cases h:p
 ·rw[if_pos h,if_pos h];rfl
 ·rw[if_neg h,if_neg h];rfl
def mapI {α β:Type}(f:Nat→α→List β):Nat→List α→List β
 |_,[]=>[]
 |n,x::r=>f n x++mapI f (n+1) r
theorem mapI_snoc {α β:Type}(f:Nat→α→List β)(l:List α)(x:α):∀n,mapI f n (l++[x])=mapI f n l++f (n+l.length) x:=by
 induction l with
 |nil=>intro n;simp[mapI]
 |cons y r ih=>intro n;simp only[List.cons_append,mapI,ih (n+1),zR,List.length_cons];congr 3;omega
theorem mapI_take {α β:Type}(f:Nat→α→List β){l:List α}{j:Nat}{x:α}(h:l[j]? =some x):mapI f 0 (l.take (j+1))=mapI f 0 (l.take j)++f j x:=by
 have hj:=(zC.1 h).1;rw[zJ,h];show mapI f 0 (l.take j++[x])=_
 rw[mapI_snoc,zO,Nat.min_eq_left oQ,Nat.zero_add]
theorem mem_mapI {α β:Type}{f:Nat→α→List β}{l:List α}{n:Nat}{b:β}(h:b∈mapI f n l):∃(i:Nat)(x:α),l[i]? =some x∧b∈f (n+i) x:=by
 induction l generalizing n with
 |nil=>cases h
 |cons x r ih=>
  rcases zM.1 h with h |h
  ·exact⟨0,x,rfl,h⟩
  ·obtain⟨i,y,h1,h2⟩:=ih h;exact⟨i+1,y,h1,by rw[show n+(i+1)=n+1+i by omega];exact h2⟩
theorem bestC_mapI {α:Type}{f:Nat→α→List Fg}{g:Nat→α→Int}{l:List α}(hf:∀(i:Nat) x,l[i]? =some x→bestC (f i x)=g i x∧∀y∈f i x,y.code≠0)
  (hk:∀(i j:Nat) x y,i<j→l[i]? =some x→l[j]? =some y→∀a∈f i x,∀b∈f j y,¬Klt b a):bestC (mapI f 0 l)=fz (mapI (fun i x=>[g i x]) 0 l):=by
 suffices hs:∀(m:List α)(n:Nat),(∀(i:Nat) x,m[i]? =some x→l[n+i]? =some x)→bestC (mapI f n m)=fz (mapI (fun i x=>[g i x]) n m)from hs l 0 (fun i x h=>by rwa [Nat.zero_add])
 intro m;induction m with
 |nil=>intro n _;rfl
 |cons x r ih=>
  intro n hm;have hx:=hm 0 x rfl;have ih':=ih (n+1) (fun i y h=>by rw[show n+1+i=n+(i+1) by omega];exact hm (i+1) y h);show bestC (f n x++mapI f (n+1) r)=fz (g n x::mapI (fun i x=>[g i x]) (n+1) r)
  rw[bestC_app (hf n x hx).2,ih',(hf n x hx).1]
  ·rfl
  ·intro a ha b hb;obtain⟨i,y,h1,h2⟩:=mem_mapI hb;exact hk n (n+1+i) x y oQ hx (by rw[show n+1+i=n+(i+1) by omega];exact hm (i+1) y h1) a ha b h2
def noTy (l:List Td)(n:ByteArray):Prop:=placeI (nmsT l) n<0
instance (l:List Td)(n:ByteArray):Decidable (noTy l n):=by unfold noTy;infer_instance
def repBad (x:It):Prop:=x.lo<1∨x.hi<x.lo∨4<x.hi
instance (x:It):Decidable (repBad x):=by unfold repBad;infer_instance
def itemC (l:List Td)(x:It):Int:=if x.tys.any (fun n=>decide (noTy l n))=true then 61 else if¬x.tys.Nodup then 62 else if repBad x then 63 else 0
def itemsC (l:List Td)(q:Qy):Int:=if 10<q.items.length then 60 else
 fz (mapI (fun i x=>[if itemC l x≠0 then itemC l x else if itemI q x.v<(i:Int)then 64 else 0]) 0 q.items++[if q.items.all (·.neg)=true then 65 else 0])
def twF (i:Nat)(n m:ByteArray):List Fg:=if n=m then [⟨4,2,62,1,i,0⟩]else []
def tyF (l:List Td)(tys:List ByteArray)(i j:Nat)(n:ByteArray):List Fg:=(if noTy l n then [⟨4,1,61,1,i,0⟩]else [])++(tys.take j).flatMap (twF i n)
def itF (l:List Td)(q:Qy)(i:Nat)(x:It):List Fg:=mapI (tyF l x.tys i) 0 x.tys++((if repBad x then [⟨4,3,63,1,i,0⟩]else [])++(if itemI q x.v<(i:Int)then [⟨4,4,64,1,i,0⟩]else []))
def itemsF (l:List Td)(q:Qy):List Fg:=(if 10<q.items.length then [⟨3,0,60,1,10,0⟩]else [])++(mapI (itF l q) 0 q.items++(if q.items.all (·.neg)=true then [⟨5,0,65,1,0,0⟩]else []))
theorem mem_if {p:Prop} [Decidable p]{x y:Fg}(h:y∈(if p then [x]else [])):y=x∧p:=by
 by_cases hp:p
 ·rw[if_pos hp]at h;exact⟨by simpa using h,hp⟩
 ·rw[if_neg hp]at h;cases h
theorem mem_tyF {l:List Td}{tys:List ByteArray}{i j:Nat}{n:ByteArray}{y:Fg}(h:y∈tyF l tys i j n):y=⟨4,1,61,1,i,0⟩∨y=⟨4,2,62,1,i,0⟩:=by
 rcases zM.1 h with h |h
 ·exact .inl (mem_if h).1
 ·obtain⟨m,_,h⟩:=xF.1 h;exact .inr (mem_if h).1
theorem bestC_two {L:List Fg}{i:Nat}(h:∀y∈L,y=⟨4,1,61,1,i,0⟩∨y=⟨4,2,62,1,i,0⟩):bestC L=if(∃y∈L,y.code=61)then 61 else if L=[]then 0 else 62:=by
 have key:∀(r:List Fg)(b:Fg),(b=⟨4,1,61,1,i,0⟩∨b=⟨4,2,62,1,i,0⟩)→(∀y∈r,y=⟨4,1,61,1,i,0⟩∨y=⟨4,2,62,1,i,0⟩)→(bestF b r).code=if(b.code=61∨∃y∈r,y.code=61)then 61 else 62:=by
  intro r;induction r with
  |nil=>intro b hb _;rcases hb with rfl |rfl<;>simp[bestF]
  |cons x r ih=>
   intro b hb hr;have hx:=hr x sJ;have hr':∀y∈r,y=⟨4,1,61,1,i,0⟩∨y=⟨4,2,62,1,i,0⟩:=fun y hy=>hr y (by simp[hy])
   show(bestF (if Klt x b then x else b) r).code=_
   rcases hx with rfl |rfl<;>rcases hb with rfl |rfl
   ·rw[if_neg (by simp[Klt]),ih _ (.inl rfl) hr'];simp
   ·rw[if_pos (by simp[Klt]),ih _ (.inl rfl) hr'];simp
   ·rw[if_neg (by simp[Klt]),ih _ (.inl rfl) hr'];simp
   ·rw[if_neg (by simp[Klt]),ih _ (.inr rfl) hr'];simp
 cases L with
 |nil=>simp[bestC]
 |cons x r=>
  show(bestF x r).code=_
  rw[key r x (h x sJ) (fun y hy=>h y (by simp[hy]))];simp
theorem nodup_iff_take (tys:List ByteArray):tys.Nodup↔∀(j:Nat) n,tys[j]? =some n→n∉tys.take j:=by
 rw[List.nodup_iff_pairwise_ne,List.pairwise_iff_getElem];constructor
 ·intro h j n hj hm;obtain⟨h1,rfl⟩:=zC.1 hj;obtain⟨k,hk,e⟩:=List.mem_take_iff_getElem.1 hm;exact h k j oQ h1 oQ e
 ·intro h i j hi hj hlt e;exact h j _ (zI hj) (List.mem_take_iff_getElem.2 ⟨i,oQ,e⟩)
theorem tysF_best (l:List Td)(tys:List ByteArray)(i:Nat):bestC (mapI (tyF l tys i) 0 tys)=if tys.any (fun n=>decide (noTy l n))=true then 61 else if¬tys.Nodup then 62 else 0:=by
 rw[bestC_two (i:=i) (fun y hy=>by obtain⟨j,n,_,h⟩:=mem_mapI hy;exact mem_tyF h)];have hmem:∀(j:Nat) n y,tys[j]? =some n→y∈tyF l tys i j n→y∈mapI (tyF l tys i) 0 tys:=by
  intro j n y hj hy;suffices hs:∀(m:List ByteArray)(k j:Nat) n,m[j]? =some n→y∈tyF l tys i (k+j) n→y∈mapI (tyF l tys i) k m from hs tys 0 j n hj (by rwa [Nat.zero_add])
  intro m;induction m with
  |nil=>intro k j n h;cases h
  |cons x r ih=>
   intro k j n h h2;cases j with
   |zero=>injection h with h;subst h;exact List.mem_append_left _ h2
   |succ j=>exact xN _ (ih (k+1) j n h (by rw[show k+1+j=k+(j+1) by omega];exact h2))
 have e1:(∃y∈mapI (tyF l tys i) 0 tys,y.code=61)↔tys.any (fun n=>decide (noTy l n))=true:=by
  constructor
  ·rintro⟨y,hy,hc⟩;obtain⟨j,n,hj,h⟩:=mem_mapI hy;rcases zM.1 h with h |h
   ·exact xM.2 ⟨n,zA hj,zW (mem_if h).2⟩
   ·obtain⟨m,_,h⟩:=xF.1 h;rw[(mem_if h).1]at hc;cases hc
  ·intro h;obtain⟨n,hn,hd⟩:=xM.1 h;obtain⟨j,hj⟩:=List.mem_iff_getElem?.1 hn;have hp:noTy l n:=of_decide_eq_true hd;exact⟨⟨4,1,61,1,i,0⟩,hmem j n _ hj (List.mem_append_left _ (by rw[if_pos hp];simp)),rfl⟩
 by_cases h1:tys.any (fun n=>decide (noTy l n))=true
 ·rw[if_pos (e1.2 h1),if_pos h1]
 ·rw[if_neg (fun h=>h1 (e1.1 h)),if_neg h1];by_cases h2:tys.Nodup
  ·have e2:(if¬tys.Nodup then(62:Int)else 0)=0:=if_neg (fun h=>h h2);rw[e2];refine if_pos ?_;apply List.eq_nil_iff_forall_not_mem.2;intro y hy;obtain⟨j,n,hj,h⟩:=mem_mapI hy;rcases zM.1 h with h |h
   ·exact h1 (xM.2 ⟨n,zA hj,zW (mem_if h).2⟩)
   ·obtain⟨m,hm,h⟩:=xF.1 h;rw[Nat.zero_add]at hm;rw[←(mem_if h).2]at hm;exact(nodup_iff_take tys).1 h2 j n hj hm
  ·have e2:(if¬tys.Nodup then(62:Int)else 0)=62:=if_pos h2;rw[e2];refine if_neg fun he=>h2 ((nodup_iff_take tys).2 fun j n hj hm=>?_)
   have:=hmem j n ⟨4,2,62,1,i,0⟩ hj (xN _ (xF.2 ⟨n,hm,by unfold twF;rw[if_pos rfl];simp⟩));rw[he]at this;cases this
theorem mem_itF {l:List Td}{q:Qy}{i:Nat}{x:It}{y:Fg}(h:y∈itF l q i x):y.rule=4∧y.idx=i∧y.sub=0∧y.code=60+y.rank∧1≤y.rank:=by
 rcases zM.1 h with h |h
 ·obtain⟨j,n,_,h⟩:=mem_mapI h;rcases mem_tyF h with rfl |rfl<;>exact⟨rfl,rfl,rfl,rfl,sJ⟩
 ·rcases zM.1 h with h |h<;>(rw[(mem_if h).1];exact⟨rfl,rfl,rfl,rfl,sJ⟩)
theorem itF_best (l:List Td)(q:Qy)(i:Nat)(x:It):bestC (itF l q i x)=if itemC l x≠0 then itemC l x else if itemI q x.v<(i:Int)then 64 else 0:=by
 have ht:∀y∈mapI (tyF l x.tys i) 0 x.tys,y.code≠0∧y.rule=4∧y.idx=i∧y.sub=0∧y.rank≤2:=fun y hy=>by
  obtain⟨j,n,_,h⟩:=mem_mapI hy;rcases mem_tyF h with rfl |rfl<;>exact⟨sJ,rfl,rfl,rfl,sJ⟩
 unfold itF;rw[bestC_app (fun y hy=>(ht y hy).1) (fun a ha b hb=>?_),tysF_best,bestC_app (fun y hy=>?_) (fun a ha b hb=>?_),bestC_if,bestC_if]
 ·unfold itemC;by_cases h1:x.tys.any (fun n=>decide (noTy l n))=true
  ·simp[h1]
  ·by_cases h2:x.tys.Nodup
   ·by_cases h3:repBad x<;>simp[h1,h2,h3]
   ·simp[h1,h2]
 ·rw[(mem_if hy).1];simp
 ·rw[(mem_if ha).1,(mem_if hb).1];simp[Klt]
 ·obtain⟨_,a1,a2,a3,a4⟩:=ht a ha;rcases zM.1 hb with h |h<;>(rw[(mem_if h).1];unfold Klt;simp only[a1,a2,a3];simp;omega)
theorem itemsF_best (l:List Td)(q:Qy):bestC (itemsF l q)=itemsC l q:=by
 have hm:∀y∈mapI (itF l q) 0 q.items,y.code≠0∧y.rule=4:=fun y hy=>by
  obtain⟨i,x,_,h⟩:=mem_mapI hy;obtain⟨h1,_,_,h2,h3⟩:=mem_itF h;exact⟨oQ,h1⟩
 unfold itemsF;rw[bestC_app (fun y hy=>?_) (fun a ha b hb=>?_),bestC_if,bestC_app (fun y hy=>(hm y hy).1) (fun a ha b hb=>?_),bestC_if,bestC_mapI (g:=fun i x=>if itemC l x≠0 then itemC l x else if itemI q x.v<(i:Int)then 64 else 0)]
 ·unfold itemsC;by_cases h1:10<q.items.length
  ·rw[if_pos h1,if_pos h1];rfl
  ·rw[if_neg h1,if_neg h1,fz_app,fz_one];rfl
 ·intro i x _;exact⟨itF_best l q i x,fun y hy=>by obtain⟨_,_,_,h2,h3⟩:=mem_itF hy;omega⟩
 ·intro i j x y hij _ _ a ha b hb;obtain⟨a1,a2,_⟩:=mem_itF ha;obtain⟨b1,b2,_⟩:=mem_itF hb;exact klt_idx oQ oQ
 ·rw[(mem_if hb).1];unfold Klt;simp[(hm a ha).2]
 ·rw[(mem_if hy).1];simp
 ·rw[(mem_if ha).1];have hb3:4≤b.rule:=by
   rcases zM.1 hb with h |h
   ·rw[(hm b h).2];omega
   ·rw[(mem_if h).1];show(4:Int)≤5;omega
  unfold Klt;have:b.rule≠3:=oQ;simp only[this,ne_eq,not_false_iff,if_true];omega
def itemAt (q:Qy)(v:ByteArray):Option It:=if itemI q v<0 then none else q.items[(itemI q v).toNat]?
def useBad (x:Nd)(it:It)(res:Bool):Prop:=(aggO x.op=true∧it.neg=true)∨(x.op=11∧manyB it=false)∨(res=true∧bareO x.op=true∧(it.neg=true∨manyB it=true))
instance (x:Nd)(it:It)(res:Bool):Decidable (useBad x it res):=by unfold useBad;infer_instance
def mentC (l:List Td)(q:Qy)(res:Bool)(x:Nd):Int:=if bareO x.op=false∧aggO x.op=false then 0 else match itemAt q x.v with
 |none=>68
 |some it=>if x.op≠5∧hasB l it.tys x.at_=false then 69 else if useBad x it res then 76 else 0
def nodeC (l:List Td)(q:Qy)(t:List Nd)(res:Bool)(x:Nd):Int:=fz [mentC l q res x,if kindsB t x=true then 0 else 75]
def walkC (l:List Td)(q:Qy)(t:List Nd)(res:Bool):Int:=fz (t.map (nodeC l q t res))
def errs (l:List Td)(q:Qy)(t:List Nd)(res:Bool)(x:Nd):List Int:=if bareO x.op=false∧aggO x.op=false then [0,0,0,if kindsB t x=true then 0 else 75]else match itemAt q x.v with
 |none=>[68,0,0,0]
 |some it=>[0,if x.op≠5∧hasB l it.tys x.at_=false then 69 else 0,if useBad x it res then 76 else 0,0]
open Classical in
noncomputable def bg (t:List Nd)(r:Nat):Nat:=if h:∃b,Sp t b r then h.choose else 0
theorem bg_sp {t:List Nd}{b r:Nat}(h:Sp t b r):bg t r=b:=by
 unfold bg;rw[dif_pos ⟨b,h⟩];exact Sp.det (Exists.choose_spec (p:=fun b=>Sp t b r) ⟨b,h⟩) h
noncomputable def subT (t:List Nd)(r:Nat):List Nd:=subL t (bg t r) r
def bares (q:Qy)(t:List Nd):List Nat:=(List.range q.items.length).filter fun i=>t.any fun x=>decide (itemI q x.v=(i:Int))&&bareO x.op
def touchy (q:Qy)(i:Nat):Bool:=match q.items[i]? with |some x=>x.neg||decide (1<x.hi)|none=>false
def mixB (q:Qy)(t:List Nd):Bool:=decide (1<((bares q t).filter (touchy q)).length)
noncomputable def whereC (l:List Td)(q:Qy):Int:=if q.wh=[]then 0 else fz [walkC l q q.wh false,if isTruthB q.wh=true then 0 else 75,if(conjs q.wh).any (fun r=>mixB q (subT q.wh r))=true then 77 else 0]
def withinC (q:Qy):Int:=if 1099511627776<q.within then 66 else 0
def partB (l:List Td)(q:Qy):Bool:= !decide (q.by_=tsB)&&q.items.all fun x=>hasB l x.tys q.by_
def partC (l:List Td)(q:Qy):Int:=if q.by_=emp then 0 else if partB l q=true then 0 else 67
def retC (l:List Td)(q:Qy):Int:=if 8<q.ret.length then 78 else fz (q.ret.map fun t=>fz [walkC l q t true,if isTruthB t=true then 75 else 0])
noncomputable def checkC (sc:Int)(l:List Td)(q:Qy):Int:=fz [sc,if shapedB q=true then 0 else 50,itemsC l q,whereC l q,withinC q,partC l q,retC l q]
def eF (rule part idx sub:Int)(e:List Int):List Fg:=mapI (fun r c=>if c≠0 then [⟨rule,(r:Int)+1,c,part,idx,sub⟩]else []) 0 e
noncomputable def whereF (l:List Td)(q:Qy):List Fg:=mapI (fun i x=>eF 6 4 i 0 (errs l q q.wh false x)) 0 q.wh++(if q.wh=[]then []else
 (if isTruthB q.wh=false then [⟨7,0,75,4,(q.wh.length:Int) -1,0⟩]else [])++(conjs q.wh).flatMap (fun r=>if mixB q (subT q.wh r)=true then [⟨8,0,77,4,r,0⟩]else []))
def retF (l:List Td)(q:Qy)(k:Nat)(t:List Nd):List Fg:=mapI (fun i x=>eF 12 5 k i (errs l q t true x)) 0 t++(if isTruthB t=true then [⟨12,5,75,5,k,(t.length:Int) -1⟩]else [])
def restF (l:List Td)(q:Qy):List Fg:=(if 1099511627776<q.within then [⟨9,0,66,2,0,0⟩]else [])++((if q.by_=emp then []else q.items.flatMap (fun x=>if hasB l x.tys q.by_=false∨q.by_=tsB then [⟨10,0,67,3,0,0⟩]else []))++
 ((if 8<q.ret.length then [⟨11,0,78,5,8,0⟩]else [])++mapI (retF l q) 0 q.ret))
theorem mem_eF {rule part idx sub:Int}{e:List Int}{y:Fg}(h:y∈eF rule part idx sub e):y.rule=rule∧y.idx=idx∧y.sub=sub∧y.code≠0∧y.rank≤e.length:=by
 obtain⟨i,c,hc,h⟩:=mem_mapI h;obtain⟨rfl,hp⟩:=mem_if h;have:=(zC.1 hc).1;refine⟨rfl,rfl,rfl,hp,?_⟩;show((0+i:Nat):Int)+1≤_
 omega
theorem mapI_map {α β:Type}(g:α→β)(l:List α):∀n,mapI (fun _ x=>[g x]) n l=l.map g:=by
 induction l with
 |nil=>intro n;rfl
 |cons x r ih=>intro n;show g x::mapI _ (n+1) r=_;rw[ih];rfl
theorem eF_best (rule part idx sub:Int)(e:List Int):bestC (eF rule part idx sub e)=fz e:=by
 unfold eF;rw[bestC_mapI (g:=fun _ c=>c),mapI_map]
 ·simp
 ·intro i c _;refine⟨?_,fun y hy=>?_⟩
  ·by_cases h:c=0<;>simp[h,bestC,bestF]
  ·obtain⟨rfl,hp⟩:=mem_if hy;exact hp
 ·intro i j x y hij _ _ a ha b hb;obtain⟨rfl,_⟩:=mem_if ha;obtain⟨rfl,_⟩:=mem_if hb;exact klt_rank rfl rfl (.inr ⟨rfl,by simp;omega⟩)
theorem mem_eFs {rule part:Int}{f:Nat→Int×Int}{e:Nd→List Int}{t:List Nd}{y:Fg}(he:∀x∈t,(e x).length=4)(h:y∈mapI (fun i x=>eF rule part (f i).1 (f i).2 (e x)) 0 t):y.rule=rule∧y.code≠0∧y.rank≤4∧∃i:Nat,i<t.length∧y.idx=(f i).1∧y.sub=(f i).2:=by
 obtain⟨i,x,hx,h⟩:=mem_mapI h;obtain⟨h1,h2,h3,h4,h5⟩:=mem_eF h;rw[he x (zA hx)]at h5;rw[Nat.zero_add]at h2 h3;exact⟨h1,h4,h5,i,(zC.1 hx).1,h2,h3⟩
theorem errs_len (l:List Td)(q:Qy)(t:List Nd)(res:Bool)(x:Nd):(errs l q t res x).length=4:=by
 unfold errs;split
 ·rfl
 ·split<;>rfl
theorem treeB_leaf {t:List Nd}(h:treeB t=true){x:Nd}(hx:x∈t)(ho:isLf x.op=true):x.a= -1∧x.b= -1:=by
 obtain⟨_,ha,_⟩:=treeB_sp h;obtain⟨i,hi⟩:=List.mem_iff_getElem?.1 hx;obtain⟨b,hb⟩:=ha i (zC.1 hi).1;cases hb with
 |lf hy h1 h2 h3=>rw[hi]at hy;injection hy with hy;subst hy;exact⟨h2,h3⟩
 |un hy h1=>rw[hi]at hy;injection hy with hy;subst hy;exact(op_lu ho h1).elim
 |bi hy h1=>rw[hi]at hy;injection hy with hy;subst hy;exact(op_lb ho h1).elim
theorem errs_fz {l:List Td}{q:Qy}{t:List Nd}(h:treeB t=true){x:Nd}(hx:x∈t)(res:Bool):fz (errs l q t res x)=nodeC l q t res x:=by
 unfold errs nodeC mentC;by_cases hb:bareO x.op=false∧aggO x.op=false
 ·rw[if_pos hb,if_pos hb];simp[fz]
 ·rw[if_neg hb,if_neg hb];have hlf:isLf x.op=true:=by
   simp[bareO,aggO]at hb;simp[isLf];omega
  obtain⟨h1,h2⟩:=treeB_leaf h hx hlf;have hk:kindsB t x=true:=by unfold kindsB okK;rw[h1,h2];simp
  rw[if_pos hk];cases itemAt q x.v with
  |none=>simp[fz]
  |some it=>
   simp only;by_cases h3:x.op≠5∧hasB l it.tys x.at_=false
   ·simp only[if_pos h3];simp[fz]
   ·simp only[if_neg h3];by_cases h4:useBad x it res
    ·simp only[if_pos h4];simp[fz]
    ·simp only[if_neg h4];simp[fz]
theorem tree_best {l:List Td}{q:Qy}{t:List Nd}(h:treeB t=true)(res:Bool)(rule part:Int)(f:Nat→Int×Int)(hf:∀i j:Nat,i<j→(f i).1<(f j).1∨((f i).1=(f j).1∧(f i).2<(f j).2)):bestC (mapI (fun i x=>eF rule part (f i).1 (f i).2 (errs l q t res x)) 0 t)=walkC l q t res:=by
 rw[bestC_mapI (g:=fun _ x=>fz (errs l q t res x))]
 ·rw[mapI_map];unfold walkC;congr 1;exact List.map_congr_left fun x hx=>errs_fz h hx res
 ·intro i x _;exact⟨eF_best _ _ _ _ _,fun y hy=>(mem_eF hy).2.2.2.1⟩
 ·intro i j x y hij _ _ a ha b hb;obtain⟨a1,a2,a3,_⟩:=mem_eF ha;obtain⟨b1,b2,b3,_⟩:=mem_eF hb;have:=hf i j hij;rcases this with h |⟨h,h2⟩
  ·exact klt_idx oQ oQ
  ·exact klt_rank oQ oQ (.inl oQ)
theorem whereF_best {l:List Td}{q:Qy}(h:q.wh=[]∨treeB q.wh=true):bestC (whereF l q)=whereC l q∧∀y∈whereF l q,y.code≠0∧y.rule≤8:=by
 unfold whereF whereC;by_cases h0:q.wh=[]
 ·rw[if_pos h0,if_pos h0,h0];exact⟨rfl,fun y hy=>by cases hy⟩
 ·rw[if_neg h0,if_neg h0];have ht:=h.resolve_left h0;have hm:∀y∈mapI (fun i x=>eF 6 4 i 0 (errs l q q.wh false x)) 0 q.wh,y.code≠0∧y.rule=6:=fun y hy=>by
   obtain⟨h1,h2,_⟩:=mem_eFs (f:=fun i=>((i:Int),0)) (fun x _=>errs_len l q q.wh false x) hy;exact⟨h2,h1⟩
  have hc:∀y∈(conjs q.wh).flatMap (fun r=>if mixB q (subT q.wh r)=true then [(⟨8,0,77,4,r,0⟩:Fg)]else []),y.code=77∧y.rule=8:=fun y hy=>by
   obtain⟨r,_,hy⟩:=xF.1 hy;rw[(mem_if hy).1];exact⟨rfl,rfl⟩
  have hcn:((conjs q.wh).flatMap (fun r=>if mixB q (subT q.wh r)=true then [(⟨8,0,77,4,r,0⟩:Fg)]else [])=[])↔¬(conjs q.wh).any (fun r=>mixB q (subT q.wh r))=true:=by
   rw[List.flatMap_eq_nil_iff];constructor
   ·intro h hx;obtain⟨r,hr,hb⟩:=xM.1 hx;have:=h r hr;rw[if_pos hb]at this;cases this
   ·intro h r hr;refine if_neg fun hb=>h (xM.2 ⟨r,hr,hb⟩)
  constructor
  ·rw[bestC_app (fun y hy=>(hm y hy).1) (fun a ha b hb=>?_),bestC_app (fun y hy=>?_) (fun a ha b hb=>?_),bestC_if,bestC_same (fun y hy=>(hc y hy).1),tree_best ht false 6 4 (fun i=>((i:Int),0)) (fun i j hij=>by left;simpa using hij)]
   ·by_cases h1:isTruthB q.wh=true
    ·by_cases h2:(conjs q.wh).any (fun r=>mixB q (subT q.wh r))=true
     ·rw[if_neg (fun e=>hcn.1 e h2),if_pos h2];simp[fz,h1]
     ·rw[if_pos (hcn.2 h2),if_neg h2];simp[fz,h1]
    ·have h1':isTruthB q.wh=false:=(by simpa using h1);simp[fz,h1']
   ·rw[(mem_if hy).1];simp
   ·exact klt_rule (by rw[(mem_if ha).1,(hc b hb).2];simp)
   ·have:b.rule=7∨b.rule=8:=by
     rcases zM.1 hb with h |h
     ·rw[(mem_if h).1];exact .inl rfl
     ·exact .inr (hc b h).2
    have:=(hm a ha).2;exact klt_rule oQ
  ·intro y hy;rcases zM.1 hy with h |h
   ·exact⟨(hm y h).1,by rw[(hm y h).2];decide⟩
   ·rcases zM.1 h with h |h
    ·rw[(mem_if h).1];exact⟨sJ,sJ⟩
    ·exact⟨by rw[(hc y h).1];decide,by rw[(hc y h).2];decide⟩
theorem retF_best {l:List Td}{q:Qy}{k:Nat}{t:List Nd}(h:treeB t=true):bestC (retF l q k t)=fz [walkC l q t true,if isTruthB t=true then 75 else 0]∧∀y∈retF l q k t,y.code≠0∧y.rule=12∧y.idx=k:=by
 have hm:∀y∈mapI (fun i x=>eF 12 5 k i (errs l q t true x)) 0 t,y.code≠0∧y.rule=12∧y.idx=k∧y.rank≤4∧y.sub≤(t.length:Int) -1:=fun y hy=>by
  obtain⟨h1,h2,h3,i,h4,h5,h6⟩:=mem_eFs (f:=fun i=>((k:Int),(i:Int))) (fun x _=>errs_len l q t true x) hy;exact⟨h2,h1,h5,h3,by simp only at h6;omega⟩
 unfold retF;constructor
 ·rw[bestC_app (fun y hy=>(hm y hy).1) (fun a ha b hb=>?_),bestC_if,tree_best h true 12 5 (fun i=>((k:Int),(i:Int))) (fun i j hij=>by right;simpa using hij)]
  ·by_cases h1:isTruthB t=true<;>simp[fz,h1]
  ·obtain⟨_,a1,a2,a3,a4⟩:=hm a ha;rw[(mem_if hb).1];by_cases e:a.sub<(t.length:Int) -1
   ·exact klt_rank a1 a2 (.inl e)
   ·exact klt_rank a1 a2 (.inr ⟨by show a.sub=(t.length:Int) -1;omega,by show a.rank≤5;omega⟩)
 ·intro y hy;rcases zM.1 hy with h |h
  ·obtain⟨a1,a2,a3,_⟩:=hm y h;exact⟨a1,a2,a3⟩
  ·rw[(mem_if h).1];exact⟨sJ,rfl,rfl⟩
theorem restF_best {l:List Td}{q:Qy}(h:∀t∈q.ret,treeB t=true)(hi:q.items≠ []):bestC (restF l q)=fz [withinC q,partC l q,retC l q]∧∀y∈restF l q,9≤y.rule:=by
 have hp:∀y∈(if q.by_=emp then []else q.items.flatMap (fun x=>if hasB l x.tys q.by_=false∨q.by_=tsB then [(⟨10,0,67,3,0,0⟩:Fg)]else [])),y.code=67∧y.rule=10:=fun y hy=>by
  by_cases hb:q.by_=emp
  ·rw[if_pos hb]at hy;cases hy
  ·rw[if_neg hb]at hy;obtain⟨x,_,hy⟩:=xF.1 hy;rw[(mem_if hy).1];exact⟨rfl,rfl⟩
 have hpn:bestC (if q.by_=emp then []else q.items.flatMap (fun x=>if hasB l x.tys q.by_=false∨q.by_=tsB then [(⟨10,0,67,3,0,0⟩:Fg)]else []))=partC l q:=by
  rw[bestC_same (fun y hy=>(hp y hy).1)];unfold partC;by_cases hb:q.by_=emp
  ·rw[if_pos hb,if_pos hb];rfl
  ·rw[if_neg hb,if_neg hb];have e:(q.items.flatMap (fun x=>if hasB l x.tys q.by_=false∨q.by_=tsB then [(⟨10,0,67,3,0,0⟩:Fg)]else [])=[])↔partB l q=true:=by
    rw[List.flatMap_eq_nil_iff];unfold partB;rw[xK,xP,Bool.not_eq_true',decide_eq_false_iff_not];constructor
    ·intro h;have h':∀x∈q.items,¬(hasB l x.tys q.by_=false∨q.by_=tsB):=fun x hx hb=>by
      have:=h x hx;rw[if_pos hb]at this;cases this
     obtain⟨x,r,hxr⟩:=List.exists_cons_of_ne_nil hi;exact⟨fun e=>h' x (by rw[hxr];simp) (.inr e),fun x hx=>by have:=h' x hx;simpa using fun hh=>this (.inl hh)⟩
    ·rintro⟨h1,h2⟩ x hx;exact if_neg (by rw[h2 x hx];simp[h1])
   by_cases hB:partB l q=true
   ·rw[if_pos (e.2 hB),if_pos hB]
   ·rw[if_neg (fun he=>hB (e.1 he)),if_neg hB]
 have hr:∀y∈mapI (retF l q) 0 q.ret,y.code≠0∧y.rule=12:=fun y hy=>by
  obtain⟨k,t,ht,hy⟩:=mem_mapI hy;obtain⟨h1,h2,_⟩:=(retF_best (h t (zA ht))).2 y hy;exact⟨h1,h2⟩
 have hr2:bestC (mapI (retF l q) 0 q.ret)=fz (q.ret.map fun t=>fz [walkC l q t true,if isTruthB t=true then 75 else 0]):=by
  rw[bestC_mapI (g:=fun _ t=>fz [walkC l q t true,if isTruthB t=true then 75 else 0]),mapI_map]
  ·intro i t ht;exact⟨(retF_best (h t (zA ht))).1,fun y hy=>((retF_best (h t (zA ht))).2 y hy).1⟩
  ·intro i j x y hij hx hy a ha b hb;obtain⟨_,a1,a2⟩:=(retF_best (h x (zA hx))).2 a ha;obtain⟨_,b1,b2⟩:=(retF_best (h y (zA hy))).2 b hb;exact klt_idx oQ oQ
 have h3:∀b∈(if 8<q.ret.length then [(⟨11,0,78,5,8,0⟩:Fg)]else [])++mapI (retF l q) 0 q.ret,b.rule=11∨b.rule=12:=fun b hb=>by
  rcases zM.1 hb with h |h
  ·rw[(mem_if h).1];exact .inl rfl
  ·exact .inr (hr b h).2
 unfold restF;constructor
 ·rw[bestC_app (fun y hy=>?_) (fun a ha b hb=>?_),bestC_if,bestC_app (fun y hy=>?_) (fun a ha b hb=>?_),hpn,bestC_app (fun y hy=>?_) (fun a ha b hb=>?_),bestC_if,hr2]
  ·unfold withinC retC;by_cases h1:1099511627776<q.within
   ·simp[fz,h1]
   ·simp only[if_neg h1];by_cases h2:partC l q=0
    ·simp only[h2];by_cases h4:8<q.ret.length
     ·simp[fz,h4]
     ·simp[fz,h4]
    ·simp[fz,h2]
  ·rw[(mem_if hy).1];simp
  ·exact klt_rule (by rw[(mem_if ha).1,(hr b hb).2];simp)
  ·rw[(hp y hy).1];decide
  ·have h2:=(hp a ha).2;have:=h3 b hb;exact klt_rule oQ
  ·rw[(mem_if hy).1];simp
  ·have:b.rule=10∨b.rule=11∨b.rule=12:=by
    rcases zM.1 hb with h |h
    ·exact .inl (hp b h).2
    ·exact .inr (h3 b h)
   rw[(mem_if ha).1];exact klt_rule (by show(9:Int)<b.rule;omega)
 ·intro y hy;rcases zM.1 hy with h |h
  ·rw[(mem_if h).1];simp
  ·rcases zM.1 h with h |h
   ·rw[(hp y h).2];decide
   ·rcases h3 y h with h |h<;>omega
noncomputable def refC (l:List Td)(q:Qy):Int:=if itemsF l q=[]then bestC (whereF l q++restF l q)else bestC (itemsF l q)
theorem refC_eq {l:List Td}{q:Qy}(h:shapedB q=true):refC l q=fz [itemsC l q,whereC l q,withinC q,partC l q,retC l q]:=by
 unfold shapedB at h;simp only[xK,Bool.or_eq_true,decide_eq_true_eq]at h;obtain⟨h1,_,_,_,_,_,_,h2,_,h3⟩:=h;have hi:q.items≠ []:=fun e=>by rw[e]at h1;simp at h1
 have hw:=whereF_best (l:=l) (q:=q) (h2.imp (fun e=>List.eq_nil_of_length_eq_zero e) id);have hr:=restF_best (l:=l) (q:=q) (fun t ht=>xP.1 h3 t ht) hi;have hwr:bestC (whereF l q++restF l q)=fz [whereC l q,withinC q,partC l q,retC l q]:=by
  rw[bestC_app (fun y hy=>(hw.2 y hy).1) (fun a ha b hb=>?_),hw.1,hr.1]
  ·rfl
  ·have h4:=(hw.2 a ha).2;have h5:=hr.2 b hb;exact klt_rule oQ
 unfold refC;by_cases h0:itemsF l q=[]
 ·rw[if_pos h0,hwr];have:itemsC l q=0:=by rw[←itemsF_best,h0];rfl
  rw[this];simp[fz]
 ·rw[if_neg h0,itemsF_best];have hne:itemsC l q≠0:=by
   rw[←itemsF_best];obtain⟨x,r,hxr⟩:=List.exists_cons_of_ne_nil h0;have hz:∀y∈itemsF l q,y.code≠0:=fun y hy=>by
    rcases zM.1 hy with h |h
    ·rw[(mem_if h).1];simp
    ·rcases zM.1 h with h |h
     ·obtain⟨i,x,_,h⟩:=mem_mapI h;obtain⟨_,_,_,h2,h3⟩:=mem_itF h;omega
     ·rw[(mem_if h).1];simp
   rw[hxr]at hz ⊢;apply hz;rcases bestF_mem x r with e |e<;>simp[e]
  conv=>rhs;unfold fz
  rw[if_neg hne]
end Go.Proofs.YthaabihjeomipaaGreatDoor
