/- Trees in plain Lean. -/
import Derived.Test.YtjbcbibkhalagaaGreatDoorSc4
namespace Go.Proofs.YtjbcbibkhalagaaGreatDoor
set_option maxRecDepth 100000
set_option maxHeartbeats 16000000
open Proofs.Tryz Go.RowKit Go.Deep
set_option linter.unusedVariables false
set_option linter.unusedSimpArgs false
theorem KD {o}(h:dg o=true)(h2:fm o=true):False:=by
 simp[dg,fm]at h h2;omega
theorem KE {o}(h:dg o=true)(h2:gD o=true):False:=by
 simp[dg,gD]at h h2;omega
theorem SM {o}(h:fm o=true)(h2:gD o=true):False:=by
 simp[fm,gD]at h h2;omega
theorem Sp.Pz {t b r}(h:Sp t b r):∀{b':Nat},Sp t b' r->b=b':=by
 induction h with
 |lf hx h1 h2 h3=>
  intro b' h';cases h' with
  |lf=>rfl
  |un jW g1=>rw[hx]at jW;injection jW with jW;subst jW;exact(KD h1 g1).elim
  |bi jW g1=>rw[hx]at jW;injection jW with jW;subst jW;exact(KE h1 g1).elim
 |un hx h1 h2 h3 _ ih=>
  intro b' h';cases h' with
  |lf jW g1=>rw[hx]at jW;injection jW with jW;subst jW;exact(KD g1 h1).elim
  |un jW g1 _ _ g4=>exact ih g4
  |bi jW g1=>rw[hx]at jW;injection jW with jW;subst jW;exact(SM h1 g1).elim
 |bi hx h1 h2 h3 _ _ Im zd=>
  intro b' h';cases h' with
  |lf jW g1=>rw[hx]at jW;injection jW with jW;subst jW;exact(KE g1 h1).elim
  |un jW g1=>rw[hx]at jW;injection jW with jW;subst jW;exact(SM g1 h1).elim
  |bi jW g1 g2 g3 g4 g5=>
   rw[hx]at jW;injection jW with jW
   subst jW;have e:(_:Int)=_:=h2.symm.trans g2;have e':=Int.ofNat.inj e;subst e';exact Im g4
theorem Sp.inner {t B R}(h:Sp t B R):∀{b r:Nat},Sp t b r->B<=r->r<=R->B<=b:=by
 induction h with
 |lf hx h1 h2 h3=>
  intro b r h' g1 g2;obtain rfl:r=_:=Nat.le_antisymm g2 g1;exact Nat.le_of_eq (Sp.Pz (.lf hx h1 h2 h3) h')
 |un hx h1 h2 h3 hs ih=>
  intro b r h' g1 g2;rename_i B j x;by_cases e:r=j+1
  .subst e;exact Nat.le_of_eq (Sp.Pz (.un hx h1 h2 h3 hs) h')
  .exact ih h' g1 oQ
 |bi hx h1 h2 h3 eC ia Im zd=>
  intro b r h' g1 g2;rename_i B m j x;have h4:=eC.le;by_cases e:r=j+1
  .subst e;exact Nat.le_of_eq (Sp.Pz (.bi hx h1 h2 h3 eC ia) h')
  .by_cases e2:r<=m
   .exact Im h' g1 e2
   .have:=zd h' oQ oQ;omega
def SN (t:List Nd)(i j:Nat):Prop:=∃x,t[i]? =some x/\(x.a=(j:Int)\/x.b=(j:Int))
theorem Sp.kids {t b r}(h:Sp t b r){j}(hk:SN t r j):b<=j/\j<r:=by
 obtain⟨y,hy,hk⟩:=hk;cases h with
 |lf hx h1 h2 h3=>rw[hx]at hy;injection hy with hy;subst hy;omega
 |un hx h1 h2 h3 hs=>
  rw[hx]at hy;injection hy with hy;subst hy
  have:=hs.le;omega
 |bi hx h1 h2 h3 eC ia=>
  rw[hx]at hy;injection hy with hy;subst hy
  have:=eC.le;have:=ia.le;omega
theorem Sp.SP {t b r}(h:Sp t b r)(ha:iR t t.length){i j}(h1:b<=i)(h2:i<=r)(hk:SN t i j):b<=j/\j<i:=by
 have hl:=h.lt;obtain⟨b',fA⟩:=ha i oQ;have:=fA.kids hk;have:=h.inner fA h1 h2;omega
theorem Sp.TW {t b r}(h:Sp t b r)(ha:iR t t.length){i j}(hi:r<i)(iT:i<t.length)(hk:SN t i j):j<b\/r<=j:=by
 obtain⟨b',fA⟩:=ha i iT;obtain⟨y,hy,hk⟩:=hk;cases fA with
 |lf hx h1 h2 h3=>rw[hx]at hy;injection hy with hy;subst hy;omega
 |un hx h1 h2 h3 hs=>rw[hx]at hy;injection hy with hy;subst hy;omega
 |bi hx h1 h2 h3 eC ia=>
  rename_i m k x;rw[hx]at hy;injection hy with hy;subst hy
  by_cases e:j=k
  .omega
  .have hj:j=m:=oQ;subst hj;by_cases e2:r<=j
   .exact .inr e2
   .have:=ia.inner h oQ oQ;omega
theorem Sp.parent {t b r}(h:Sp t b r):∀{j:Nat},b<=j->j<r->∃i,j<i/\i<=r/\SN t i j:=by
 induction h with
 |lf=>intro j h1 h2;omega
 |un hx h1 h2 h3 hs ih=>
  intro j' g1 g2;rename_i B j x;by_cases e:j'=j
  .subst e;exact⟨j'+1,oQ,nR,x,hx,.inl h2⟩
  .obtain⟨i,a1,a2,a3⟩:=ih g1 oQ;exact⟨i,a1,oQ,a3⟩
 |bi hx h1 h2 h3 eC ia Im zd=>
  intro j' g1 g2;rename_i B m j x;have l2:=ia.le;by_cases e:j'=j
  .subst e;exact⟨j'+1,oQ,nR,x,hx,.inr h3⟩
  .by_cases e2:j'=m
   .subst e2;exact⟨j+1,oQ,nR,x,hx,.inl h2⟩
   .by_cases e3:j'<m
    .obtain⟨i,a1,a2,a3⟩:=Im g1 e3;exact⟨i,a1,oQ,a3⟩
    .obtain⟨i,a1,a2,a3⟩:=zd (j:=j') oQ oQ;exact⟨i,a1,oQ,a3⟩
def nX (t:List Nd):Nat->Nat->Int
 |0,_=> -1
 |k+1,j=>match t[k]? with
  |some x=>if x.a=(j:Int)\/x.b=(j:Int)then(k:Int)else nX t k j
  |none=>nX t k j
theorem og {t k j}:∀{i:Nat},nX t k j=(i:Int)->i<k/\SN t i j/\∀i',i<i'->i'<k->¬SN t i' j:=by
 induction k with
 |zero=>intro i h;unfold nX at h;omega
 |succ k ih=>
  intro i h;unfold nX at h;cases hx:t[k]? with
  |none=>
   rw[hx]at h;obtain⟨a1,a2,a3⟩:=ih h;refine⟨oQ,a2,λi' b1 b2 hk=>?_⟩;by_cases e:i'=k
   .subst e;obtain⟨y,hy,_⟩:=hk;rw[hx]at hy;cases hy
   .exact a3 i' b1 oQ hk
  |some x=>
   rw[hx]at h;simp only at h;split at h
   .rename_i hc;have:k=i:=oQ;subst this;exact⟨oQ,⟨x,hx,hc⟩,λi' b1 b2=>by omega⟩
   .rename_i hc;obtain⟨a1,a2,a3⟩:=ih h;refine⟨oQ,a2,λi' b1 b2 hk=>?_⟩;by_cases e:i'=k
    .subst e;obtain⟨y,hy,hc'⟩:=hk;rw[hx]at hy;injection hy with hy;subst hy;exact hc hc'
    .exact a3 i' b1 oQ hk
theorem fq (t k j):(nX t k j= -1/\∀i,i<k->¬SN t i j)\/∃i:Nat,nX t k j=i:=by
 induction k with
 |zero=>exact .inl ⟨rfl,λi h=>by omega⟩
 |succ k ih=>
  unfold nX;cases hx:t[k]? with
  |none=>
   rcases ih with⟨h1,h2⟩|⟨i,h⟩
   .refine .inl ⟨h1,λi hi hk=>?_⟩;by_cases e:i=k
    .subst e;obtain⟨y,hy,_⟩:=hk;rw[hx]at hy;cases hy
    .exact h2 i oQ hk
   .exact .inr ⟨i,h⟩
  |some x=>
   simp only;by_cases hc:x.a=(j:Int)\/x.b=(j:Int)
   .rw[if_pos hc];exact .inr ⟨k,rfl⟩
   .rw[if_neg hc];rcases ih with⟨h1,h2⟩|⟨i,h⟩
    .refine .inl ⟨h1,λi hi hk=>?_⟩;by_cases e:i=k
     .subst e;obtain⟨y,hy,hc'⟩:=hk;rw[hx]at hy;injection hy with hy;subst hy;exact hc hc'
     .exact h2 i oQ hk
    .exact .inr ⟨i,h⟩
theorem Sp.KF {t b r}(h:Sp t b r)(ha:iR t t.length){j}(h1:b<=j)(h2:j<r):∃i:Nat,nX t t.length j=i/\j<i/\i<=r/\SN t i j:=by
 obtain⟨i0,a1,a2,a3⟩:=h.parent h1 h2;have hl:=h.lt;rcases fq t t.length j with⟨_,h4⟩|⟨i,hi⟩
 .exact absurd a3 (h4 i0 oQ)
 .obtain⟨c1,c2,c3⟩:=og hi;refine⟨i,hi,?_,?_,c2⟩
  .obtain⟨b',fA⟩:=ha i c1;exact(fA.kids c2).2
  .rcases Nat.lt_or_ge r i with Ye |Ye
   .rcases h.TW ha Ye c1 c2 with h5 |h5<;>omega
   .exact Ye
theorem Sp.SS {t b r}(h:Sp t b r)(ha:iR t t.length){j i:Nat}(hj:j<b\/r<=j)(hu:nX t t.length j=(i:Int)):j<i/\i<t.length/\(i<b\/r<i):=by
 obtain⟨c1,c2,c3⟩:=og hu;obtain⟨b',fA⟩:=ha i c1;have hk:=fA.kids c2;refine⟨hk.2,c1,?_⟩;by_cases e:b<=i/\i<=r
 .have:=h.SP ha e.1 e.2 c2;omega
 .omega
theorem Sp.aav {t:List Nd}{b r:Nat}(h:Sp t b r)(ha:iR t t.length){g:Nat->Bool}(hg:∀i,i<t.length->g i=(decide (i=r)||(match nX t t.length i with | .ofNat k=>g k | .negSucc _=>false))):
  ∀(n i:Nat),t.length-i<=n->i<t.length->g i=(decide (b<=i)&&decide (i<=r)):=by
 intro n;induction n with
 |zero=>intro i h1 h2;omega
 |succ n ih=>
  intro i h1 h2;rw[hg i h2];have Cw:=h.le;by_cases e:i=r
  .subst e;simp[Cw]
  .rw[zV e,Bool.false_or];rcases fq t t.length i with⟨hu,hno⟩|⟨k,hu⟩
   .rw[hu];show false=_
    by_cases e2:b<=i/\i<r
    .obtain⟨i0,a1,a2,a3⟩:=h.parent e2.1 e2.2;have hl:=h.lt;exact absurd a3 (hno i0 oQ)
    .symm
     rw[Bool.and_eq_false_iff];by_cases e3:b<=i
     .right;exact zV oQ
     .left;exact zV e3
   .rw[hu];show g k=_
    by_cases e2:b<=i/\i<r
    .obtain⟨k',a1,a2,a3,_⟩:=h.KF ha e2.1 e2.2;have pv:k=k':=by rw[hu]at a1;exact Int.ofNat.inj a1
     subst pv;have hl:=h.lt;rw[ih k oQ oQ];have x1:b<=k:=oQ;have x2:i<=r:=oQ;simp[x1,a3,e2.1,x2]
    .have hj:i<b\/r<=i:=oQ;obtain⟨c1,c2,c3⟩:=h.SS ha hj hu;rw[ih k oQ c2];have:¬(b<=k/\k<=r):=oQ;have:¬(b<=i/\i<=r):=oQ;simp only[Bool.and_eq_false_iff,decide_eq_false_iff_not,<-Bool.decide_and];rw[zV (by assumption),zV (by assumption)]
def opAt (t:List Nd)(i:Nat):Int:=match t[i]? with |some x=>x.op |none=>0
def wF (t:List Nd)(i:Nat):Nat:=match t[i]? with |some x=>x.a.toNat |none=>0
def wG (t:List Nd)(i:Nat):Nat:=match t[i]? with |some x=>x.b.toNat |none=>0
def pY (t:List Nd):Nat->Nat->List Nat
 |0,r=>[r]
 |n+1,r=>if opAt t r=25 then pY t n (wF t r)++pY t n (wG t r)else [r]
theorem Cx {t b r}(h:Sp t b r):∀{n m:Nat},r-b<=n->r-b<=m->pY t n r=pY t m r:=by
 induction h with
 |lf hx h1 h2 h3=>
  rename_i i x;intro n m _ _;have ho:opAt t i≠25:=by unfold opAt;rw[hx];simp[dg]at h1 |-;omega
  cases n<;>cases m<;>simp[pY,ho]
 |un hx h1 h2 h3 hs ih=>
  rename_i b j x;intro n m _ _;have ho:opAt t (j+1)≠25:=by unfold opAt;rw[hx];simp[fm]at h1 |-;omega
  cases n<;>cases m<;>simp[pY,ho]
 |bi hx h1 h2 h3 eC ia Im zd=>
  rename_i b m' j x;intro n m hn hm;have l1:=eC.le;have l2:=ia.le;have hA:wF t (j+1)=m':=by unfold wF;rw[hx];simp[h2]
  have hB:wG t (j+1)=j:=by unfold wG;rw[hx];simp[h3]
  cases n with
  |zero=>omega
  |succ n=>
   cases m with
   |zero=>omega
   |succ m=>
    simp only[pY,hA,hB];rw[Im (n:=n) (m:=m) oQ oQ,zd (n:=n) (m:=m) oQ oQ]
theorem mW (b m r)(h1:b<=m+1)(h2:m<=r):List.range' b (r+1-b)=List.range' b (m+1-b)++List.range' (m+1) (r-m):=by
 rw[show r+1-b=(m+1-b)+(r-m) by omega,<-List.range'_append_1,show b+(m+1-b)=m+1 by omega]
theorem Sp.ab8 {t:List Nd}{b r:Nat}(h:Sp t b r)(ha:iR t t.length){g:Nat->Bool}(hg:∀i,i<t.length->g i=(match nX t t.length i with | .ofNat k=>g k&&decide (opAt t k=25)| .negSucc _=>true)):
  ∀{n:Nat},r-b<=n->(List.range' b (r+1-b)).filter (λi=>g i&& !decide (opAt t i=25))=if g r=true then pY t n r else []:=by
 induction h with
 |lf hx h1 h2 h3=>
  rename_i i x;intro n _;have ho:opAt t i≠25:=by unfold opAt;rw[hx];simp[dg]at h1 |-;omega
  have e:i+1-i=1:=oQ;rw[e];cases n<;>cases Eo:g i<;>simp[List.range',pY,ho,Eo]
 |un hx h1 h2 h3 hs ih=>
  rename_i b j x;intro n hn;have hl:=hs.le;have ho:opAt t (j+1)≠25:=by unfold opAt;rw[hx];simp[fm]at h1 |-;omega
  have hsp:Sp t b (j+1):=.un hx h1 h2 h3 hs;have hlt:=hsp.lt;have cY:nX t t.length j=((j+1:Nat):Int):=by
   obtain⟨i,a1,a2,a3,_⟩:=hsp.KF ha (j:=j) oQ oQ;rw[a1];congr 1;omega
  have OW:g j=false:=by rw[hg j oQ,cY];show(g (j+1)&&decide (opAt t (j+1)=25))=false;rw[zV ho];simp
  rw[mW b j (j+1) oQ oQ,List.filter_append,ih (n:=n) oQ,OW];have e:j+1-j=1:=oQ;rw[e];cases n<;>cases Eo:g (j+1)<;>simp[List.range',pY,ho,Eo]
 |bi hx h1 h2 h3 eC ia Im zd=>
  rename_i b m j x;intro n hn;have l1:=eC.le;have l2:=ia.le;have hsp:Sp t b (j+1):=.bi hx h1 h2 h3 eC ia;have hlt:=hsp.lt;have hA:wF t (j+1)=m:=by unfold wF;rw[hx];simp[h2]
  have hB:wG t (j+1)=j:=by unfold wG;rw[hx];simp[h3]
  have ab9:nX t t.length j=((j+1:Nat):Int):=by
   obtain⟨i,a1,a2,a3,_⟩:=hsp.KF ha (j:=j) oQ oQ;rw[a1];congr 1;omega
  have aca:nX t t.length m=((j+1:Nat):Int):=by
   obtain⟨i,a1,a2,a3,a4⟩:=hsp.KF ha (j:=m) oQ oQ;rw[a1];congr 1;rcases Nat.lt_or_ge i (j+1)with h5 |h5
   .have:=ia.SP ha (i:=i) (j:=m) oQ oQ a4;omega
   .omega
  have OW:g j=(g (j+1)&&decide (opAt t (j+1)=25)):=by rw[hg j oQ,ab9]
  have hgm:g m=(g (j+1)&&decide (opAt t (j+1)=25)):=by rw[hg m oQ,aca]
  rw[mW b j (j+1) oQ oQ,mW b m j oQ oQ,List.filter_append,List.filter_append];have e1:j-m=j+1- (m+1):=oQ;have e2:j+1-j=1:=oQ;rw[e1,e2];cases n with
  |zero=>omega
  |succ n=>
   rw[Im (n:=n) oQ,zd (n:=n) oQ,OW,hgm];by_cases ho:opAt t (j+1)=25
   .cases Eo:g (j+1)<;>simp[List.range',pY,ho,Eo,hA,hB]
   .cases Eo:g (j+1)<;>simp[List.range',pY,ho,Eo]
def cI (t:List Nd):List Nat:=pY t t.length (t.length-1)
theorem KG {t:List Nd}(h:aW t=true){g:Nat->Bool}(hg:∀i,i<t.length->g i=(match nX t t.length i with | .ofNat k=>g k&&decide (opAt t k=25)| .negSucc _=>true)):
  (List.range t.length).filter (λi=>g i&& !decide (opAt t i=25))=cI t:=by
 obtain⟨⟨n,hn,hsp⟩,ha,_⟩:=dF h;have:=hsp.ab8 ha hg (n:=t.length) oQ;rw[hn]at this |-;have hr:g n=true:=by
  rw[hg n oQ,hn];rcases fq t (n+1) n with⟨h1,_⟩|⟨i,hi⟩
  .rw[h1];rfl
  .obtain⟨c1,c2,_⟩:=og hi;obtain⟨b',fA⟩:=ha i oQ;have:=(fA.kids c2).2;omega
 rw[if_pos hr]at this;rw[List.range_eq_range',cI,hn];simpa using this
def cE (b:Nat)(x:Nd):Nd:={x with a:=if 0<=x.a then x.a-b else x.a,b:=if 0<=x.b then x.b-b else x.b}
def dW (t:List Nd)(b r:Nat):List Nd:=((t.drop b).take (r+1-b)).map (cE b)
def KH (o:Int):Int:=if dg o=true then 0 else if fm o=true then 1 else if gD o=true then 2 else -1
theorem afK:jV prog 63 6:=⟨_,underlying63,rfl,kQ⟩
theorem aN (s):(s.toList==([]:List UInt8))=decide (s=emp):=by
 have:=cH.ji s emp;rwa [show emp.toList=[] by rw[ByteArray.toList_eq];rfl]at this
theorem pH {x}(h:(if x.op=1 then decide (0<=x.n)else decide (x.n=0))=false):bI x=false:=by unfold bI;rw[h];rfl
theorem pI {x}(h:(if isVar x.op=true then br x.v else decide (x.v=emp))=false):bI x=false:=by unfold bI;rw[h,Bool.and_false];rfl
theorem pJ {x}(h1:(if x.op=1 then decide (0<=x.n)else decide (x.n=0))=true)(h2:(if isVar x.op=true then br x.v else decide (x.v=emp))=true):bI x=(if qW x.op=true then br x.at_ else decide (x.at_=emp)):=by
 unfold bI;rw[h1,h2,xE,xE]
theorem cT {o}(h1:4<=o)(h2:o<=11):isVar o=true:=by simp[isVar,h1,h2]
theorem ep {o}(h1:o<4\/11<o):isVar o=false:=by simp[isVar];omega
theorem kY {o}(h1:4<=o)(h2:o<=11)(h3:o≠5):qW o=true:=by simp[qW,isVar,h1,h2,h3]
theorem jC {o}(h1:o<4\/11<o\/o=5):qW o=false:=by
 rcases h1 with h1 |h1 |h1
 .simp[qW,ep (.inl h1)]
 .simp[qW,ep (.inr h1)]
 .subst h1;rfl
namespace dR
open cH
theorem EM (o w):Cl 137 #[.int .i64 o] w λe w'=>e=.returned (.int .i64 (KH o))/\w'=w:=by
 have cs:o<1\/(1<=o/\o<=11)\/o=12\/o=13\/(14<=o/\o<=26)\/26<o:=oQ;generalize hr:KH o=r;rcases cs with h |⟨h,h2⟩|h |h |⟨h,h2⟩|h
 .obtain rfl:r= -1:=by rw[<-hr];simp[KH,dg,fm,gD];omega
  have f1:¬(1:Int)<=o:=oQ;have f2:(o==12)=false:=by rw[xV];omega
  have f3:(o==13)=false:=by rw[xV];omega
  have f4:¬(14:Int)<=o:=oQ;clear hr h;go_enter func137,ntmps137;go_wp2;go_ret;exact⟨rfl,rfl⟩
 .obtain rfl:r=0:=by rw[<-hr];simp[KH,dg,fm,gD,h,h2]
  clear hr;go_enter func137,ntmps137;go_wp2;go_ret;exact⟨rfl,rfl⟩
 .subst h;obtain rfl:r=1:=by rw[<-hr];rfl
  clear hr;go_enter func137,ntmps137;go_wp2;go_ret;exact⟨rfl,rfl⟩
 .subst h;obtain rfl:r=1:=by rw[<-hr];rfl
  clear hr;go_enter func137,ntmps137;go_wp2;go_ret;exact⟨rfl,rfl⟩
 .obtain rfl:r=2:=by rw[<-hr];simp[KH,dg,fm,gD];omega
  have f1:(1:Int)<=o:=oQ;have f0:¬o<=(11:Int):=oQ;have f2:(o==12)=false:=by rw[xV];omega
  have f3:(o==13)=false:=by rw[xV];omega
  clear hr;go_enter func137,ntmps137;go_wp2;go_ret;exact⟨rfl,rfl⟩
 .obtain rfl:r= -1:=by rw[<-hr];simp[KH,dg,fm,gD];omega
  have f1:(1:Int)<=o:=oQ;have f0:¬o<=(11:Int):=oQ;have f2:(o==12)=false:=by rw[xV];omega
  have f3:(o==13)=false:=by rw[xV];omega
  have f4:(14:Int)<=o:=oQ;have f5:¬o<=(26:Int):=oQ;clear hr h;go_enter func137,ntmps137;go_wp2;go_ret;exact⟨rfl,rfl⟩
theorem KJ (x w)(hK:cW w)(hv:x.v.size<=1048576)(ha:x.at_.size<=1048576):Cl 138 #[.agg ⟨cJ x⟩] w λe w'=>e=.returned (.bool (bI x))/\Bw w w':=by
 obtain⟨op,n,v,at_,a,b⟩:=x;have k1:=Hd qX;simp only at hv ha;generalize hF:bI ⟨op,n,v,at_,a,b⟩=F;have tu:∀m,ao ((w.alloc (.cells ⟨cJ ⟨op,n,v,at_,a,b⟩⟩ 63)).drewN m) w.heap.size 63 (cJ ⟨op,n,v,at_,a,b⟩):=λm=>(ao.new _ _ _).drewN m
 have cN:∀m,Bw w ((w.alloc (.cells ⟨cJ ⟨op,n,v,at_,a,b⟩⟩ 63)).drewN m):=λm=>below_drewN bA m
 simp only[cJ]at tu cN |-;replace⟨tu,cN,hK⟩:=H3 tu cN hK;have dh:=True.intro;have cs:op=1\/(op<4/\op≠1)\/11<op\/op=5\/(4<=op/\op<=11/\op≠5):=oQ;rcases cs with rfl |⟨h1,h2⟩|h1 |rfl |⟨h1,h2,h3⟩
 .by_cases hn:n<0
  .obtain rfl:F=false:=by rw[<-hF];exact pH (by simp;omega)
   clear hF;go_enter func138,ntmps138;go_upto_region 1 with fail
   go_quiet (fail);go_wp2;go_ret;exact⟨rfl,cN.o nq⟩
  by_cases fU:v=emp
  .have fv:(v.toList==([]:List UInt8))=true:=by rw[aN];exact zW fU
   have hF2:=(pJ (by simp;omega) (by simp only;rw[if_neg (by rw[(ep oQ)];decide)];exact zW fU)).symm.trans hF;clear hF;replace fU:=Hd fU;simp only at hF2;rw[if_neg (by rw[jC oQ];decide)]at hF2;have fa:(at_.toList==([]:List UInt8))=F:=by rw[aN];exact hF2
   clear hF2;go_enter func138,ntmps138;go_upto_region 1 with fail
   go_quiet (fail);go_wp2;go_ret;exact⟨rfl,cN.o nq⟩
  .have fv:(v.toList==([]:List UInt8))=false:=by rw[aN];exact zV fU
   obtain rfl:F=false:=by rw[<-hF];exact pI (by simp only;rw[if_neg (by rw[(ep oQ)];decide)];exact zV fU)
   clear hF;replace fU:=Hd fU;go_enter func138,ntmps138;go_upto_region 1 with fail
   go_quiet (fail);go_wp2;go_ret;exact⟨rfl,cN.o nq⟩
 .have f1:(op==1)=false:=by rw[xV];exact h2
  have f2:¬(4:Int)<=op:=oQ;by_cases hn:¬n=0
  .obtain rfl:F=false:=by rw[<-hF];exact pH (by simp only;rw[if_neg oQ];exact zV oQ)
   have fn:(n==0)=false:=by rw[xV];exact hn
   clear hF;go_enter func138,ntmps138;go_upto_region 1 with fail
   go_quiet (fail);go_wp2;go_ret;exact⟨rfl,cN.o nq⟩
  obtain rfl:n=0:=oQ;by_cases fU:v=emp
  .have fv:(v.toList==([]:List UInt8))=true:=by rw[aN];exact zW fU
   have hF2:=(pJ (by simp only;rw[if_neg oQ];first|exact zW trivial |simp) (by simp only;rw[if_neg (by rw[(ep oQ)];decide)];exact zW fU)).symm.trans hF;clear hF;replace fU:=Hd fU;simp only at hF2;rw[if_neg (by rw[jC oQ];decide)]at hF2;have fa:(at_.toList==([]:List UInt8))=F:=by rw[aN];exact hF2
   clear hF2;go_enter func138,ntmps138;go_upto_region 1 with fail
   go_quiet (fail);go_wp2;go_ret;exact⟨rfl,cN.o nq⟩
  .have fv:(v.toList==([]:List UInt8))=false:=by rw[aN];exact zV fU
   obtain rfl:F=false:=by rw[<-hF];exact pI (by simp only;rw[if_neg (by rw[(ep oQ)];decide)];exact zV fU)
   clear hF;replace fU:=Hd fU;go_enter func138,ntmps138;go_upto_region 1 with fail
   go_quiet (fail);go_wp2;go_ret;exact⟨rfl,cN.o nq⟩
 .have f1:(op==1)=false:=by rw[xV];omega
  have f2:(4:Int)<=op:=oQ;have f3:¬op<=(11:Int):=oQ;by_cases hn:¬n=0
  .obtain rfl:F=false:=by rw[<-hF];exact pH (by simp only;rw[if_neg oQ];exact zV oQ)
   have fn:(n==0)=false:=by rw[xV];exact hn
   clear hF;go_enter func138,ntmps138;go_upto_region 1 with fail
   go_quiet (fail);go_wp2;go_ret;exact⟨rfl,cN.o nq⟩
  obtain rfl:n=0:=oQ;by_cases fU:v=emp
  .have fv:(v.toList==([]:List UInt8))=true:=by rw[aN];exact zW fU
   have hF2:=(pJ (by simp only;rw[if_neg oQ];first|exact zW trivial |simp) (by simp only;rw[if_neg (by rw[(ep oQ)];decide)];exact zW fU)).symm.trans hF;clear hF;replace fU:=Hd fU;simp only at hF2;rw[if_neg (by rw[jC oQ];decide)]at hF2;have fa:(at_.toList==([]:List UInt8))=F:=by rw[aN];exact hF2
   clear hF2;go_enter func138,ntmps138;go_upto_region 1 with fail
   go_quiet (fail);go_wp2;go_ret;exact⟨rfl,cN.o nq⟩
  .have fv:(v.toList==([]:List UInt8))=false:=by rw[aN];exact zV fU
   obtain rfl:F=false:=by rw[<-hF];exact pI (by simp only;rw[if_neg (by rw[(ep oQ)];decide)];exact zV fU)
   clear hF;replace fU:=Hd fU;go_enter func138,ntmps138;go_upto_region 1 with fail
   go_quiet (fail);go_wp2;go_ret;exact⟨rfl,cN.o nq⟩
 .by_cases hn:¬n=0
  .obtain rfl:F=false:=by rw[<-hF];exact pH (by simp only;rw[if_neg oQ];exact zV oQ)
   have fn:(n==0)=false:=by rw[xV];exact hn
   clear hF;go_enter func138,ntmps138;go_upto_region 1 with fail
   go_quiet (fail);go_wp2;go_ret;exact⟨rfl,cN.o nq⟩
  obtain rfl:n=0:=oQ;cases hi:br v with
  |false=>
   obtain rfl:F=false:=by rw[<-hF];exact pI (by simp only;rw[if_pos (cT oQ oQ)];exact hi)
   replace hi:=Hd hi;clear hF;go_enter func138,ntmps138;go_upto_region 1 with fail
   go_quiet (fail);go_wp2_with (have _t:=dh;clear dh;go_at_call 65;refine(k1.o v _ (hK.o.stay (cN.o nq)) hv).mono ?_;rw[hi.o];rintro e W ⟨rfl,hW⟩;have az:Bw w W:=(cN.o nq).trans (hW.mono (cN.o nq).size);have uN:=(tu.o nq).stay hW;have y3:W.cell? ⟨w.heap.size,3,none⟩=some (.string at_):=uN.cell 3;replace⟨az,uN⟩:=H2 az uN;clear hW);go_ret;exact⟨rfl,az.o⟩
  |true=>
   have hF2:=(pJ (by simp only;rw[if_neg oQ];first|exact zW trivial |simp) (by simp only;rw[if_pos (cT oQ oQ)];exact hi)).symm.trans hF;clear hF;replace hi:=Hd hi;simp only at hF2;rw[if_neg (by rw[jC oQ];decide)]at hF2;have fa:(at_.toList==([]:List UInt8))=F:=by rw[aN];exact hF2
   clear hF2;go_enter func138,ntmps138;go_upto_region 1 with fail
   go_quiet (fail);go_wp2_with (have _t:=dh;clear dh;go_at_call 65;refine(k1.o v _ (hK.o.stay (cN.o nq)) hv).mono ?_;rw[hi.o];rintro e W ⟨rfl,hW⟩;have az:Bw w W:=(cN.o nq).trans (hW.mono (cN.o nq).size);have uN:=(tu.o nq).stay hW;have y3:W.cell? ⟨w.heap.size,3,none⟩=some (.string at_):=uN.cell 3;replace⟨az,uN⟩:=H2 az uN;clear hW);go_ret;exact⟨rfl,az.o⟩
 .have f1:(op==1)=false:=by rw[xV];omega
  have f2:(op==5)=false:=by rw[xV];exact h3
  by_cases hn:¬n=0
  .obtain rfl:F=false:=by rw[<-hF];exact pH (by simp only;rw[if_neg oQ];exact zV oQ)
   have fn:(n==0)=false:=by rw[xV];exact hn
   clear hF;go_enter func138,ntmps138;go_upto_region 1 with fail
   go_quiet (fail);go_wp2;go_ret;exact⟨rfl,cN.o nq⟩
  obtain rfl:n=0:=oQ;cases hi:br v with
  |false=>
   obtain rfl:F=false:=by rw[<-hF];exact pI (by simp only;rw[if_pos (cT oQ oQ)];exact hi)
   replace hi:=Hd hi;clear hF;go_enter func138,ntmps138;go_upto_region 1 with fail
   go_quiet (fail);go_wp2_with (have _t:=dh;clear dh;go_at_call 65;refine(k1.o v _ (hK.o.stay (cN.o nq)) hv).mono ?_;rw[hi.o];rintro e W ⟨rfl,hW⟩;have az:Bw w W:=(cN.o nq).trans (hW.mono (cN.o nq).size);have uN:=(tu.o nq).stay hW;have y3:W.cell? ⟨w.heap.size,3,none⟩=some (.string at_):=uN.cell 3;replace⟨az,uN⟩:=H2 az uN;clear hW);go_ret;exact⟨rfl,az.o⟩
  |true=>
   have hF2:=(pJ (by simp only;rw[if_neg oQ];first|exact zW trivial |simp) (by simp only;rw[if_pos (cT oQ oQ)];exact hi)).symm.trans hF;clear hF;replace hi:=Hd hi;simp only at hF2;rw[if_pos (kY oQ oQ oQ)]at hF2;cases Ep:br at_ with
   |false=>
    obtain rfl:F=false:=by rw[<-hF2,Ep]
    replace Ep:=Hd Ep;clear hF2;go_enter func138,ntmps138;go_upto_region 1 with fail
    go_quiet (fail);go_wp2_with first
     |(have _t:=dh;clear dh;go_at_call 65;refine(k1.o v _ (hK.o.stay (cN.o nq)) hv).mono ?_;rw[hi.o];rintro e W ⟨rfl,hW⟩;have az:Bw w W:=(cN.o nq).trans (hW.mono (cN.o nq).size);have uN:=(tu.o nq).stay hW;have y3:W.cell? ⟨w.heap.size,3,none⟩=some (.string at_):=uN.cell 3;replace⟨az,uN⟩:=H2 az uN;clear hW)
     |(go_at_call 65;refine(k1.o at_ _ (hK.o.stay az.o) ha).mono ?_;rw[Ep.o];rintro e W2 ⟨rfl,aX⟩;replace az:=Hd (az.o.trans (aX.mono az.o.size));clear aX)
    go_ret;exact⟨rfl,az.o⟩
   |true=>
    obtain rfl:F=true:=by rw[<-hF2,Ep]
    replace Ep:=Hd Ep;clear hF2;go_enter func138,ntmps138;go_upto_region 1 with fail
    go_quiet (fail);go_wp2_with first
     |(have _t:=dh;clear dh;go_at_call 65;refine(k1.o v _ (hK.o.stay (cN.o nq)) hv).mono ?_;rw[hi.o];rintro e W ⟨rfl,hW⟩;have az:Bw w W:=(cN.o nq).trans (hW.mono (cN.o nq).size);have uN:=(tu.o nq).stay hW;have y3:W.cell? ⟨w.heap.size,3,none⟩=some (.string at_):=uN.cell 3;replace⟨az,uN⟩:=H2 az uN;clear hW)
     |(go_at_call 65;refine(k1.o at_ _ (hK.o.stay az.o) ha).mono ?_;rw[Ep.o];rintro e W2 ⟨rfl,aX⟩;replace az:=Hd (az.o.trans (aX.mono az.o.size));clear aX)
    go_ret;exact⟨rfl,az.o⟩
end dR
abbrev eL:Nat->Prop:=λ_=>False
theorem dS:nW prog 52 3 1 8:=.of underlying52 kQ oQ
theorem qY:nW prog 28 63 6 64:=.of underlying28 kQ oQ
theorem OL.addr {w B e size n c n' F A ds}(h:OL w B F e size (.slice A n' c) n ds):A=none\/∃g,A=some ⟨g,0,none⟩:=by
 obtain⟨cells,h1,_⟩:=h;rcases h1.2 with⟨e,_⟩|⟨g,cap,cur,e,_⟩
 .injection e with e1;exact .inl e1
 .injection e with e1;exact .inr ⟨g,e1⟩
theorem OL.cap {w B e size n c n' F A ds}(h:OL w B F e size (.slice A n' c) n ds):n'=n/\n<=c:=by
 obtain⟨cells,h1,_⟩:=h;rcases h1.2 with⟨e,h0⟩|⟨g,cap,cur,e,_,_,Ct,_⟩
 .injection e with _ e2 e3;subst e2 e3;omega
 .injection e with _ e2 e3;subst e2 e3;exact⟨rfl,Ct⟩
theorem OL.KL {w B e size n c m F A ds}(h:OL w B F e size (.slice A n c) n ds)(hm:m<=n):OL w B F e size (.slice A m c) m (ds.take (m*size)):=by
 obtain⟨cells,h1,h2,h3⟩:=h;have Yf:m*size<=n*size:=Nat.mul_le_mul hm nR;refine⟨cells.take (m*size),⟨by rw[zO,h1.1];omega,?_⟩,by rw[zO,zO,h2],λk d hd=>?_⟩
 .rcases h1.2 with⟨e,h0⟩|⟨g,cap,cur,e,hB,hg,Ct,hx,hs,ht⟩
  .injection e with e1 e2 e3
   subst e1 e2 e3;obtain rfl:m=0:=oQ;exact .inl ⟨rfl,rfl⟩
  .injection e with e1 e2 e3
   subst e1 e3;refine .inr ⟨g,_,cur,rfl,hB,hg,oQ,hx,hs,?_⟩;rw[<-ht,List.take_take];congr 1;omega
 .rw[zZ]at hd |-;split at hd
  .rename_i hk;rw[if_pos hk];obtain⟨u,hu,hr⟩:=h3 k d hd;refine⟨u,hu,?_⟩;have eo:(Value.slice A m c).ownBlock=(Value.slice A n c).ownBlock:=by cases A<;>rfl
   rw[eo];exact hr
  .cases hd
theorem PA {P t e size bytes}(T:nW P t e size bytes){A}(hA:A=none\/∃g,A=some ⟨g,0,none⟩)(n cap m)(hm:m<=cap)(W):(Instr.slice t (.slice A n cap) none (some (.int .i64 m)) none).run P W=.ok (.slice A m cap) W:=by
 obtain⟨hs,⟨i,z,hi,hz,hsz,hb,EH⟩,hp⟩:=T;have h0:=aH m;have h1:(m:Int)<=(cap:Int):=oQ;rcases hA with rfl |⟨g,rfl⟩
 .simp[Instr.slice,run_underlying hs,Instr.sliceBounds,run_sliceBound,sizeOf,typeInfo,hi,h0,h1,hm]
 .simp[Instr.slice,run_underlying hs,Instr.sliceBounds,run_sliceBound,sizeOf,typeInfo,hi,h0,h1,hm,l9]
theorem dk {w F A c i}{t:List Nd}{x}(r:Rd w F (.slice A t.length c) (.sl t.length (t.flatMap b9)))(hp:t[i]? =some x):∃b off,A=some ⟨b,off,none⟩/\F b/\
  w.cell? ⟨b,off+i*6,none⟩=some (.int .i64 x.op)/\w.cell? ⟨b,off+i*6+1,none⟩=some (.int .i64 x.n)/\w.cell? ⟨b,off+i*6+2,none⟩=some (.string x.v)/\w.cell? ⟨b,off+i*6+3,none⟩=some (.string x.at_)/\
  w.cell? ⟨b,off+i*6+4,none⟩=some (.int .i64 x.a)/\w.cell? ⟨b,off+i*6+5,none⟩=some (.int .i64 x.b):=by
 obtain⟨b,off,rfl,hF,ha,_⟩:=r.cP (m:=6) (λ_=>rfl) hp oQ;exact⟨b,off,rfl,hF,ha 0 _ rfl,ha 1 _ rfl,ha 2 _ rfl,ha 3 _ rfl,ha 4 _ rfl,ha 5 _ rfl⟩
def tT (t:List Nd):Prop:=t.length<=1048576/\∀x∈t,x.v.size<=1048576/\x.at_.size<=1048576
def uO (p:Nat×Nat):D:=.v (.int .i64 (p.2:Nat))
structure TI (t:List Nd)(w wr:World)(i:Nat)(stk:List (Nat×Nat))(v:Value):Prop where
 hi:i<=t.length
 hl:stk.length<=i
 hb:Bw w wr
 ol:OL wr w.heap.size eL 3 1 v stk.length (stk.reverse.map uO)
 eq:runT 0 [] t=runT i stk (t.drop i)
def KM (t:List Nd)(w:World)(x y:Value)(wr:World):Prop:=∃i stk,y=.int .i64 (i:Nat)/\TI t w wr i stk x
theorem KM.mk {t w wr x y}(i stk)(h1:y=.int .i64 i)(h2:TI t w wr i stk x):KM t w x y wr:=⟨i,stk,h1,h2⟩
theorem TI.dead {t w wr i stk v x}(h:TI t w wr i stk v)(hx:t[i]? =some x)(hs:stepT i stk x=none):aW t=false:=by
 obtain⟨h1,h2⟩:=zC.1 hx;unfold aW;rw[h.eq,List.drop_eq_getElem_cons h1,h2];unfold runT;rw[hs]
theorem TI.live {t w wr i stk stk' v x}(h:TI t w wr i stk v)(hx:t[i]? =some x)(hs:stepT i stk x=some stk'):runT 0 [] t=runT (i+1) stk' (t.drop (i+1)):=by
 obtain⟨h1,h2⟩:=zC.1 hx;rw[h.eq,List.drop_eq_getElem_cons h1,h2];show runT i stk (x::_)=_
 rw[runT,hs]
theorem TI.push {t w wr w2 w3 i stk stk' A n c m v' o}(h:TI t w wr i stk (.slice A n c))(hi:i<t.length)(hb:Bw wr w2)(hm:m<=stk.length)(hg:(w2.alloc o).grownBy w3 (Value.slice A n c).ownBlock)(hO:OL w3 w.heap.size eL 3 1 v' (m+1) ((stk.reverse.map uO).take (m*1)++[uO (0,i)]))(hl:stk'.length=m+1)(hd:stk'.reverse.map uO=(stk.reverse.map uO).take m++[uO (0,i)])(eq:runT 0 [] t=runT (i+1) stk' (t.drop (i+1))):TI t w w3 (i+1) stk' v':=by
 have hs:=h.hb.size;have ia:=hb.size;refine⟨hi,by have:=h.hl;omega,((h.hb.trans (hb.mono hs)).alloc oQ o).grown hg (by simp;omega) (λq hq=>(h.ol.lt q hq).1),?_,eq⟩;rw[hl,hd];simpa using hO
