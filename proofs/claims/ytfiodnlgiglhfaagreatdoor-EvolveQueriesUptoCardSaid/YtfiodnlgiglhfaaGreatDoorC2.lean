/- Trees in plain Lean. -/
import Derived.Test.YtfiodnlgiglhfaaGreatDoorSc4
namespace Go.Proofs.YtfiodnlgiglhfaaGreatDoor
set_option maxRecDepth 100000
set_option maxHeartbeats 16000000
open Go.RowKit Go.Deep
set_option linter.unusedVariables false
set_option linter.unusedSimpArgs false
theorem op_lu {o:Int}(h:isLf o=true)(h2:isUn o=true):False:=by
 simp[isLf,isUn]at h h2;omega
theorem op_lb {o:Int}(h:isLf o=true)(h2:isBi o=true):False:=by
 simp[isLf,isBi]at h h2;omega
theorem op_ub {o:Int}(h:isUn o=true)(h2:isBi o=true):False:=by
 simp[isUn,isBi]at h h2;omega
theorem Sp.det {t:List Nd}{b r:Nat}(h:Sp t b r):∀{b':Nat},Sp t b' r→b=b':=by
 induction h with
 |lf hx h1 h2 h3=>
  intro b' h';cases h' with
  |lf=>rfl
  |un hx' g1=>rw[hx]at hx';injection hx' with hx';subst hx';exact(op_lu h1 g1).elim
  |bi hx' g1=>rw[hx]at hx';injection hx' with hx';subst hx';exact(op_lb h1 g1).elim
 |un hx h1 h2 h3 _ ih=>
  intro b' h';cases h' with
  |lf hx' g1=>rw[hx]at hx';injection hx' with hx';subst hx';exact(op_lu g1 h1).elim
  |un hx' g1 _ _ g4=>exact ih g4
  |bi hx' g1=>rw[hx]at hx';injection hx' with hx';subst hx';exact(op_ub h1 g1).elim
 |bi hx h1 h2 h3 _ _ ih1 ih2=>
  intro b' h';cases h' with
  |lf hx' g1=>rw[hx]at hx';injection hx' with hx';subst hx';exact(op_lb g1 h1).elim
  |un hx' g1=>rw[hx]at hx';injection hx' with hx';subst hx';exact(op_ub g1 h1).elim
  |bi hx' g1 g2 g3 g4 g5=>
   rw[hx]at hx';injection hx' with hx'
   subst hx';have e:(_:Int)=_:=h2.symm.trans g2;have e':=Int.ofNat.inj e;subst e';exact ih1 g4
theorem Sp.inner {t:List Nd}{B R:Nat}(h:Sp t B R):∀{b r:Nat},Sp t b r→B≤r→r≤R→B≤b:=by
 induction h with
 |lf hx h1 h2 h3=>
  intro b r h' g1 g2;obtain rfl:r=_:=Nat.le_antisymm g2 g1;exact Nat.le_of_eq (Sp.det (.lf hx h1 h2 h3) h')
 |un hx h1 h2 h3 hs ih=>
  intro b r h' g1 g2;rename_i B j x;by_cases e:r=j+1
  ·subst e;exact Nat.le_of_eq (Sp.det (.un hx h1 h2 h3 hs) h')
  ·exact ih h' g1 (by omega)
 |bi hx h1 h2 h3 hs1 hs2 ih1 ih2=>
  intro b r h' g1 g2;rename_i B m j x;have h4:=hs1.le;by_cases e:r=j+1
  ·subst e;exact Nat.le_of_eq (Sp.det (.bi hx h1 h2 h3 hs1 hs2) h')
  ·by_cases e2:r≤m
   ·exact ih1 h' g1 e2
   ·have:=ih2 h' (by omega) (by omega);omega
def Kid (t:List Nd)(i j:Nat):Prop:=∃x,t[i]? =some x∧(x.a=(j:Int)∨x.b=(j:Int))
theorem Sp.kids {t:List Nd}{b r:Nat}(h:Sp t b r){j:Nat}(hk:Kid t r j):b≤j∧j<r:=by
 obtain⟨y,hy,hk⟩:=hk;cases h with
 |lf hx h1 h2 h3=>rw[hx]at hy;injection hy with hy;subst hy;omega
 |un hx h1 h2 h3 hs=>
  rw[hx]at hy;injection hy with hy;subst hy
  have:=hs.le;omega
 |bi hx h1 h2 h3 hs1 hs2=>
  rw[hx]at hy;injection hy with hy;subst hy
  have:=hs1.le;have:=hs2.le;omega
theorem Sp.kidIn {t:List Nd}{b r:Nat}(h:Sp t b r)(ha:AllSp t t.length){i j:Nat}(h1:b≤i)(h2:i≤r)(hk:Kid t i j):b≤j∧j<i:=by
 have hl:=h.lt;obtain⟨b',hb'⟩:=ha i (by omega);have:=hb'.kids hk;have:=h.inner hb' h1 h2;omega
theorem Sp.kidOut {t:List Nd}{b r:Nat}(h:Sp t b r)(ha:AllSp t t.length){i j:Nat}(hi:r<i)(hil:i<t.length)(hk:Kid t i j):j<b∨r≤j:=by
 obtain⟨b',hb'⟩:=ha i hil;obtain⟨y,hy,hk⟩:=hk;cases hb' with
 |lf hx h1 h2 h3=>rw[hx]at hy;injection hy with hy;subst hy;omega
 |un hx h1 h2 h3 hs=>rw[hx]at hy;injection hy with hy;subst hy;omega
 |bi hx h1 h2 h3 hs1 hs2=>
  rename_i m k x;rw[hx]at hy;injection hy with hy;subst hy
  by_cases e:j=k
  ·omega
  ·have hj:j=m:=by omega
   subst hj;by_cases e2:r≤j
   ·exact .inr e2
   ·have:=hs2.inner h (by omega) (by omega);omega
theorem Sp.parent {t:List Nd}{b r:Nat}(h:Sp t b r):∀{j:Nat},b≤j→j<r→∃i,j<i∧i≤r∧Kid t i j:=by
 induction h with
 |lf=>intro j h1 h2;omega
 |un hx h1 h2 h3 hs ih=>
  intro j' g1 g2;rename_i B j x;by_cases e:j'=j
  ·subst e;exact⟨j'+1,by omega,nR,x,hx,.inl h2⟩
  ·obtain⟨i,a1,a2,a3⟩:=ih g1 (by omega);exact⟨i,a1,by omega,a3⟩
 |bi hx h1 h2 h3 hs1 hs2 ih1 ih2=>
  intro j' g1 g2;rename_i B m j x;have l2:=hs2.le;by_cases e:j'=j
  ·subst e;exact⟨j'+1,by omega,nR,x,hx,.inr h3⟩
  ·by_cases e2:j'=m
   ·subst e2;exact⟨j+1,by omega,nR,x,hx,.inl h2⟩
   ·by_cases e3:j'<m
    ·obtain⟨i,a1,a2,a3⟩:=ih1 g1 e3;exact⟨i,a1,by omega,a3⟩
    ·obtain⟨i,a1,a2,a3⟩:=ih2 (j:=j') (by omega) (by omega);exact⟨i,a1,by omega,a3⟩
def upF (t:List Nd):Nat→Nat→Int
 |0,_=> -1
 |k+1,j=>match t[k]? with
  |some x=>if x.a=(j:Int)∨x.b=(j:Int)then(k:Int)else upF t k j
  |none=>upF t k j
theorem upF_some {t:List Nd}{k j:Nat}:∀{i:Nat},upF t k j=(i:Int)→i<k∧Kid t i j∧∀i',i<i'→i'<k→¬Kid t i' j:=by
 induction k with
 |zero=>intro i h;unfold upF at h;omega
 |succ k ih=>
  intro i h;unfold upF at h;cases hx:t[k]? with
  |none=>
   rw[hx]at h;obtain⟨a1,a2,a3⟩:=ih h;refine⟨by omega,a2,fun i' b1 b2 hk=>?_⟩;by_cases e:i'=k
   ·subst e;obtain⟨y,hy,_⟩:=hk;rw[hx]at hy;cases hy
   ·exact a3 i' b1 (by omega) hk
  |some x=>
   rw[hx]at h;simp only at h;split at h
   ·rename_i hc;have:k=i:=by omega
    subst this;exact⟨by omega,⟨x,hx,hc⟩,fun i' b1 b2=>by omega⟩
   ·rename_i hc;obtain⟨a1,a2,a3⟩:=ih h;refine⟨by omega,a2,fun i' b1 b2 hk=>?_⟩;by_cases e:i'=k
    ·subst e;obtain⟨y,hy,hc'⟩:=hk;rw[hx]at hy;injection hy with hy;subst hy;exact hc hc'
    ·exact a3 i' b1 (by omega) hk
theorem upF_cases (t:List Nd)(k j:Nat):(upF t k j= -1∧∀i,i<k→¬Kid t i j)∨∃i:Nat,upF t k j=i:=by
 induction k with
 |zero=>exact .inl ⟨rfl,fun i h=>by omega⟩
 |succ k ih=>
  unfold upF;cases hx:t[k]? with
  |none=>
   rcases ih with⟨h1,h2⟩|⟨i,h⟩
   ·refine .inl ⟨h1,fun i hi hk=>?_⟩;by_cases e:i=k
    ·subst e;obtain⟨y,hy,_⟩:=hk;rw[hx]at hy;cases hy
    ·exact h2 i (by omega) hk
   ·exact .inr ⟨i,h⟩
  |some x=>
   simp only;by_cases hc:x.a=(j:Int)∨x.b=(j:Int)
   ·rw[if_pos hc];exact .inr ⟨k,rfl⟩
   ·rw[if_neg hc];rcases ih with⟨h1,h2⟩|⟨i,h⟩
    ·refine .inl ⟨h1,fun i hi hk=>?_⟩;by_cases e:i=k
     ·subst e;obtain⟨y,hy,hc'⟩:=hk;rw[hx]at hy;injection hy with hy;subst hy;exact hc hc'
     ·exact h2 i (by omega) hk
    ·exact .inr ⟨i,h⟩
theorem Sp.upIn {t:List Nd}{b r:Nat}(h:Sp t b r)(ha:AllSp t t.length){j:Nat}(h1:b≤j)(h2:j<r):∃i:Nat,upF t t.length j=i∧j<i∧i≤r∧Kid t i j:=by
 obtain⟨i0,a1,a2,a3⟩:=h.parent h1 h2;have hl:=h.lt;rcases upF_cases t t.length j with⟨_,h4⟩|⟨i,hi⟩
 ·exact absurd a3 (h4 i0 (by omega))
 ·obtain⟨c1,c2,c3⟩:=upF_some hi;refine⟨i,hi,?_,?_,c2⟩
  ·obtain⟨b',hb'⟩:=ha i c1;exact(hb'.kids c2).2
  ·rcases Nat.lt_or_ge r i with hri |hri
   ·rcases h.kidOut ha hri c1 c2 with h5 |h5<;>omega
   ·exact hri
theorem Sp.upOut {t:List Nd}{b r:Nat}(h:Sp t b r)(ha:AllSp t t.length){j i:Nat}(hj:j<b∨r≤j)(hu:upF t t.length j=(i:Int)):j<i∧i<t.length∧(i<b∨r<i):=by
 obtain⟨c1,c2,c3⟩:=upF_some hu;obtain⟨b',hb'⟩:=ha i c1;have hk:=hb'.kids c2;refine⟨hk.2,c1,?_⟩;by_cases e:b≤i∧i≤r
 ·have:=h.kidIn ha e.1 e.2 c2;omega
 ·omega
def opAt (t:List Nd)(i:Nat):Int:=match t[i]? with |some x=>x.op |none=>0
def kidA (t:List Nd)(i:Nat):Nat:=match t[i]? with |some x=>x.a.toNat |none=>0
def kidB (t:List Nd)(i:Nat):Nat:=match t[i]? with |some x=>x.b.toNat |none=>0
def cjF (t:List Nd):Nat→Nat→List Nat
 |0,r=>[r]
 |n+1,r=>if opAt t r=25 then cjF t n (kidA t r)++cjF t n (kidB t r)else [r]
theorem cjF_mono {t:List Nd}{b r:Nat}(h:Sp t b r):∀{n m:Nat},r-b≤n→r-b≤m→cjF t n r=cjF t m r:=by
 induction h with
 |lf hx h1 h2 h3=>
  rename_i i x;intro n m _ _;have ho:opAt t i≠25:=by unfold opAt;rw[hx];simp[isLf]at h1 ⊢;omega
  cases n<;>cases m<;>simp[cjF,ho]
 |un hx h1 h2 h3 hs ih=>
  rename_i b j x;intro n m _ _;have ho:opAt t (j+1)≠25:=by unfold opAt;rw[hx];simp[isUn]at h1 ⊢;omega
  cases n<;>cases m<;>simp[cjF,ho]
 |bi hx h1 h2 h3 hs1 hs2 ih1 ih2=>
  rename_i b m' j x;intro n m hn hm;have l1:=hs1.le;have l2:=hs2.le;have hA:kidA t (j+1)=m':=by unfold kidA;rw[hx];simp[h2]
  have hB:kidB t (j+1)=j:=by unfold kidB;rw[hx];simp[h3]
  cases n with
  |zero=>omega
  |succ n=>
   cases m with
   |zero=>omega
   |succ m=>
    simp only[cjF,hA,hB];rw[ih1 (n:=n) (m:=m) (by omega) (by omega),ih2 (n:=n) (m:=m) (by omega) (by omega)]
theorem range'_split (b m r:Nat)(h1:b≤m+1)(h2:m≤r):List.range' b (r+1-b)=List.range' b (m+1-b)++List.range' (m+1) (r-m):=by
 rw[show r+1-b=(m+1-b)+(r-m) by omega,←List.range'_append_1,show b+(m+1-b)=m+1 by omega]
theorem Sp.conj {t:List Nd}{b r:Nat}(h:Sp t b r)(ha:AllSp t t.length){g:Nat→Bool}(hg:∀i,i<t.length→g i=(match upF t t.length i with | .ofNat k=>g k&&decide (opAt t k=25)| .negSucc _=>true)):
  ∀{n:Nat},r-b≤n→(List.range' b (r+1-b)).filter (fun i=>g i&& !decide (opAt t i=25))=if g r=true then cjF t n r else []:=by
 induction h with
 |lf hx h1 h2 h3=>
  rename_i i x;intro n _;have ho:opAt t i≠25:=by unfold opAt;rw[hx];simp[isLf]at h1 ⊢;omega
  have e:i+1-i=1:=by omega
  rw[e];cases n<;>cases hgi:g i<;>simp[List.range',cjF,ho,hgi]
 |un hx h1 h2 h3 hs ih=>
  rename_i b j x;intro n hn;have hl:=hs.le;have ho:opAt t (j+1)≠25:=by unfold opAt;rw[hx];simp[isUn]at h1 ⊢;omega
  have hsp:Sp t b (j+1):=.un hx h1 h2 h3 hs;have hlt:=hsp.lt;have hup:upF t t.length j=((j+1:Nat):Int):=by
   obtain⟨i,a1,a2,a3,_⟩:=hsp.upIn ha (j:=j) (by omega) (by omega);rw[a1];congr 1;omega
  have hgj:g j=false:=by rw[hg j (by omega),hup];show(g (j+1)&&decide (opAt t (j+1)=25))=false;rw[zV ho];simp
  rw[range'_split b j (j+1) (by omega) (by omega),List.filter_append,ih (n:=n) (by omega),hgj];have e:j+1-j=1:=by omega
  rw[e];cases n<;>cases hgi:g (j+1)<;>simp[List.range',cjF,ho,hgi]
 |bi hx h1 h2 h3 hs1 hs2 ih1 ih2=>
  rename_i b m j x;intro n hn;have l1:=hs1.le;have l2:=hs2.le;have hsp:Sp t b (j+1):=.bi hx h1 h2 h3 hs1 hs2;have hlt:=hsp.lt;have hA:kidA t (j+1)=m:=by unfold kidA;rw[hx];simp[h2]
  have hB:kidB t (j+1)=j:=by unfold kidB;rw[hx];simp[h3]
  have hupj:upF t t.length j=((j+1:Nat):Int):=by
   obtain⟨i,a1,a2,a3,_⟩:=hsp.upIn ha (j:=j) (by omega) (by omega);rw[a1];congr 1;omega
  have hupm:upF t t.length m=((j+1:Nat):Int):=by
   obtain⟨i,a1,a2,a3,a4⟩:=hsp.upIn ha (j:=m) (by omega) (by omega);rw[a1];congr 1;rcases Nat.lt_or_ge i (j+1)with h5 |h5
   ·have:=hs2.kidIn ha (i:=i) (j:=m) (by omega) (by omega) a4;omega
   ·omega
  have hgj:g j=(g (j+1)&&decide (opAt t (j+1)=25)):=by rw[hg j (by omega),hupj]
  have hgm:g m=(g (j+1)&&decide (opAt t (j+1)=25)):=by rw[hg m (by omega),hupm]
  rw[range'_split b j (j+1) (by omega) (by omega),range'_split b m j (by omega) (by omega),List.filter_append,List.filter_append];have e1:j-m=j+1- (m+1):=by omega
  have e2:j+1-j=1:=by omega
  rw[e1,e2];cases n with
  |zero=>omega
  |succ n=>
   rw[ih1 (n:=n) (by omega),ih2 (n:=n) (by omega),hgj,hgm];by_cases ho:opAt t (j+1)=25
   ·cases hgi:g (j+1)<;>simp[List.range',cjF,ho,hgi,hA,hB]
   ·cases hgi:g (j+1)<;>simp[List.range',cjF,ho,hgi]
def conjs (t:List Nd):List Nat:=cjF t t.length (t.length-1)
theorem conjs_eq {t:List Nd}(h:treeB t=true){g:Nat→Bool}(hg:∀i,i<t.length→g i=(match upF t t.length i with | .ofNat k=>g k&&decide (opAt t k=25)| .negSucc _=>true)):
  (List.range t.length).filter (fun i=>g i&& !decide (opAt t i=25))=conjs t:=by
 obtain⟨⟨n,hn,hsp⟩,ha,_⟩:=treeB_sp h;have:=hsp.conj ha hg (n:=t.length) (by omega);rw[hn]at this ⊢;have hr:g n=true:=by
  rw[hg n (by omega),hn];rcases upF_cases t (n+1) n with⟨h1,_⟩|⟨i,hi⟩
  ·rw[h1];rfl
  ·obtain⟨c1,c2,_⟩:=upF_some hi;obtain⟨b',hb'⟩:=ha i (by omega);have:=(hb'.kids c2).2;omega
 rw[if_pos hr]at this;rw[List.range_eq_range',conjs,hn];simpa using this
def shiftN (b:Nat)(x:Nd):Nd:={x with a:=if 0≤x.a then x.a-b else x.a,b:=if 0≤x.b then x.b-b else x.b}
def subL (t:List Nd)(b r:Nat):List Nd:=((t.drop b).take (r+1-b)).map (shiftN b)
def arI (o:Int):Int:=if isLf o=true then 0 else if isUn o=true then 1 else if isBi o=true then 2 else -1
theorem emp_eq (s:ByteArray):(s.toList==([]:List UInt8))=decide (s=emp):=by
 have:=nmW.bqb s emp;rwa [show emp.toList=[] by rw[ByteArray.toList_eq];rfl]at this
theorem fb_n {x:Nd}(h:(if x.op=1 then decide (0≤x.n)else decide (x.n=0))=false):fieldsB x=false:=by unfold fieldsB;rw[h];rfl
theorem fb_v {x:Nd}(h:(if isVar x.op=true then isNm x.v else decide (x.v=emp))=false):fieldsB x=false:=by unfold fieldsB;rw[h,Bool.and_false];rfl
theorem fb_a {x:Nd}(h1:(if x.op=1 then decide (0≤x.n)else decide (x.n=0))=true)(h2:(if isVar x.op=true then isNm x.v else decide (x.v=emp))=true):fieldsB x=(if isAtt x.op=true then isNm x.at_ else decide (x.at_=emp)):=by
 unfold fieldsB;rw[h1,h2,xE,xE]
theorem isVar_t {o:Int}(h1:4≤o)(h2:o≤11):isVar o=true:=by simp[isVar,h1,h2]
theorem isVar_f {o:Int}(h1:o<4∨11<o):isVar o=false:=by simp[isVar];omega
theorem isAtt_t {o:Int}(h1:4≤o)(h2:o≤11)(h3:o≠5):isAtt o=true:=by simp[isAtt,isVar,h1,h2,h3]
theorem isAtt_f {o:Int}(h1:o<4∨11<o∨o=5):isAtt o=false:=by
 rcases h1 with h1 |h1 |h1
 ·simp[isAtt,isVar_f (.inl h1)]
 ·simp[isAtt,isVar_f (.inr h1)]
 ·subst h1;rfl
namespace ckW
open nmW
theorem operands_k (o:Int)(w:World):Calls Tryz.prog 119 #[.int .i64 o] w fun e w'=>e=.returned (.int .i64 (arI o))∧w'=w:=by
 have cs:o<1∨(1≤o∧o≤11)∨o=12∨o=13∨(14≤o∧o≤26)∨26<o:=by omega
 generalize hr:arI o=r;rcases cs with h |⟨h,h2⟩|h |h |⟨h,h2⟩|h
 ·obtain rfl:r= -1:=by rw[←hr];simp[arI,isLf,isUn,isBi];omega
  have f1:¬(1:Int)≤o:=by omega
  have f2:(o==12)=false:=by rw[xV];omega
  have f3:(o==13)=false:=by rw[xV];omega
  have f4:¬(14:Int)≤o:=by omega
  clear hr h;go_enter Tryz.func119,Tryz.ntmps119;go_wp2;go_ret;exact⟨rfl,rfl⟩
 ·obtain rfl:r=0:=by rw[←hr];simp[arI,isLf,isUn,isBi,h,h2]
  clear hr;go_enter Tryz.func119,Tryz.ntmps119;go_wp2;go_ret;exact⟨rfl,rfl⟩
 ·subst h;obtain rfl:r=1:=by rw[←hr];rfl
  clear hr;go_enter Tryz.func119,Tryz.ntmps119;go_wp2;go_ret;exact⟨rfl,rfl⟩
 ·subst h;obtain rfl:r=1:=by rw[←hr];rfl
  clear hr;go_enter Tryz.func119,Tryz.ntmps119;go_wp2;go_ret;exact⟨rfl,rfl⟩
 ·obtain rfl:r=2:=by rw[←hr];simp[arI,isLf,isUn,isBi];omega
  have f1:(1:Int)≤o:=by omega
  have f0:¬o≤(11:Int):=by omega
  have f2:(o==12)=false:=by rw[xV];omega
  have f3:(o==13)=false:=by rw[xV];omega
  clear hr;go_enter Tryz.func119,Tryz.ntmps119;go_wp2;go_ret;exact⟨rfl,rfl⟩
 ·obtain rfl:r= -1:=by rw[←hr];simp[arI,isLf,isUn,isBi];omega
  have f1:(1:Int)≤o:=by omega
  have f0:¬o≤(11:Int):=by omega
  have f2:(o==12)=false:=by rw[xV];omega
  have f3:(o==13)=false:=by rw[xV];omega
  have f4:(14:Int)≤o:=by omega
  have f5:¬o≤(26:Int):=by omega
  clear hr h;go_enter Tryz.func119,Tryz.ntmps119;go_wp2;go_ret;exact⟨rfl,rfl⟩
theorem fields_k (x:Nd)(w:World)(hK:KwIs w)(hv:x.v.size≤1048576)(ha:x.at_.size≤1048576):Calls Tryz.prog 120 #[.agg ⟨ndV x⟩] w fun e w'=>e=.returned (.bool (fieldsB x))∧Bw w w':=by
 obtain⟨op,n,v,at_,a,b⟩:=x;have k1:=Hd isName_k;simp only at hv ha;generalize hF:fieldsB ⟨op,n,v,at_,a,b⟩=F;have hx0:∀m,Blk ((w.alloc (.cells ⟨ndV ⟨op,n,v,at_,a,b⟩⟩ 81)).drewN m) w.heap.size 81 (ndV ⟨op,n,v,at_,a,b⟩):=fun m=>(Blk.new _ _ _).drewN m
 have hB0:∀m,Bw w ((w.alloc (.cells ⟨ndV ⟨op,n,v,at_,a,b⟩⟩ 81)).drewN m):=fun m=>below_drewN bA m
 simp only[ndV]at hx0 hB0 ⊢;replace hx0:=Hd hx0;replace hB0:=Hd hB0;replace hK:=Hd hK;have tok0:=True.intro;have cs:op=1∨(op<4∧op≠1)∨11<op∨op=5∨(4≤op∧op≤11∧op≠5):=by omega
 rcases cs with rfl |⟨h1,h2⟩|h1 |rfl |⟨h1,h2,h3⟩
 ·by_cases hn:n<0
  ·obtain rfl:F=false:=by rw[←hF];exact fb_n (by simp;omega)
   clear hF;go_enter Tryz.func120,Tryz.ntmps120;go_upto_region 1 with fail
   go_quiet (fail);go_wp2;go_ret;exact⟨rfl,hB0.out nq⟩
  by_cases hve:v=emp
  ·have fv:(v.toList==([]:List UInt8))=true:=by rw[emp_eq];exact zW hve
   have hF2:=(fb_a (by simp;omega) (by simp only;rw[if_neg (by rw[(isVar_f (by omega))];decide)];exact zW hve)).symm.trans hF;clear hF;replace hve:=Hd hve;simp only at hF2;rw[if_neg (by rw[isAtt_f (by omega)];decide)]at hF2;have fa:(at_.toList==([]:List UInt8))=F:=by rw[emp_eq];exact hF2
   clear hF2;go_enter Tryz.func120,Tryz.ntmps120;go_upto_region 1 with fail
   go_quiet (fail);go_wp2;go_ret;exact⟨rfl,hB0.out nq⟩
  ·have fv:(v.toList==([]:List UInt8))=false:=by rw[emp_eq];exact zV hve
   obtain rfl:F=false:=by rw[←hF];exact fb_v (by simp only;rw[if_neg (by rw[(isVar_f (by omega))];decide)];exact zV hve)
   clear hF;replace hve:=Hd hve;go_enter Tryz.func120,Tryz.ntmps120;go_upto_region 1 with fail
   go_quiet (fail);go_wp2;go_ret;exact⟨rfl,hB0.out nq⟩
 ·have f1:(op==1)=false:=by rw[xV];exact h2
  have f2:¬(4:Int)≤op:=by omega
  by_cases hn:¬n=0
  ·obtain rfl:F=false:=by rw[←hF];exact fb_n (by simp only;rw[if_neg (by omega)];exact zV (by omega))
   have fn:(n==0)=false:=by rw[xV];exact hn
   clear hF;go_enter Tryz.func120,Tryz.ntmps120;go_upto_region 1 with fail
   go_quiet (fail);go_wp2;go_ret;exact⟨rfl,hB0.out nq⟩
  obtain rfl:n=0:=by omega
  by_cases hve:v=emp
  ·have fv:(v.toList==([]:List UInt8))=true:=by rw[emp_eq];exact zW hve
   have hF2:=(fb_a (by simp only;rw[if_neg (by omega)];first|exact zW trivial |simp) (by simp only;rw[if_neg (by rw[(isVar_f (by omega))];decide)];exact zW hve)).symm.trans hF;clear hF;replace hve:=Hd hve;simp only at hF2;rw[if_neg (by rw[isAtt_f (by omega)];decide)]at hF2;have fa:(at_.toList==([]:List UInt8))=F:=by rw[emp_eq];exact hF2
   clear hF2;go_enter Tryz.func120,Tryz.ntmps120;go_upto_region 1 with fail
   go_quiet (fail);go_wp2;go_ret;exact⟨rfl,hB0.out nq⟩
  ·have fv:(v.toList==([]:List UInt8))=false:=by rw[emp_eq];exact zV hve
   obtain rfl:F=false:=by rw[←hF];exact fb_v (by simp only;rw[if_neg (by rw[(isVar_f (by omega))];decide)];exact zV hve)
   clear hF;replace hve:=Hd hve;go_enter Tryz.func120,Tryz.ntmps120;go_upto_region 1 with fail
   go_quiet (fail);go_wp2;go_ret;exact⟨rfl,hB0.out nq⟩
 ·have f1:(op==1)=false:=by rw[xV];omega
  have f2:(4:Int)≤op:=by omega
  have f3:¬op≤(11:Int):=by omega
  by_cases hn:¬n=0
  ·obtain rfl:F=false:=by rw[←hF];exact fb_n (by simp only;rw[if_neg (by omega)];exact zV (by omega))
   have fn:(n==0)=false:=by rw[xV];exact hn
   clear hF;go_enter Tryz.func120,Tryz.ntmps120;go_upto_region 1 with fail
   go_quiet (fail);go_wp2;go_ret;exact⟨rfl,hB0.out nq⟩
  obtain rfl:n=0:=by omega
  by_cases hve:v=emp
  ·have fv:(v.toList==([]:List UInt8))=true:=by rw[emp_eq];exact zW hve
   have hF2:=(fb_a (by simp only;rw[if_neg (by omega)];first|exact zW trivial |simp) (by simp only;rw[if_neg (by rw[(isVar_f (by omega))];decide)];exact zW hve)).symm.trans hF;clear hF;replace hve:=Hd hve;simp only at hF2;rw[if_neg (by rw[isAtt_f (by omega)];decide)]at hF2;have fa:(at_.toList==([]:List UInt8))=F:=by rw[emp_eq];exact hF2
   clear hF2;go_enter Tryz.func120,Tryz.ntmps120;go_upto_region 1 with fail
   go_quiet (fail);go_wp2;go_ret;exact⟨rfl,hB0.out nq⟩
  ·have fv:(v.toList==([]:List UInt8))=false:=by rw[emp_eq];exact zV hve
   obtain rfl:F=false:=by rw[←hF];exact fb_v (by simp only;rw[if_neg (by rw[(isVar_f (by omega))];decide)];exact zV hve)
   clear hF;replace hve:=Hd hve;go_enter Tryz.func120,Tryz.ntmps120;go_upto_region 1 with fail
   go_quiet (fail);go_wp2;go_ret;exact⟨rfl,hB0.out nq⟩
 ·by_cases hn:¬n=0
  ·obtain rfl:F=false:=by rw[←hF];exact fb_n (by simp only;rw[if_neg (by omega)];exact zV (by omega))
   have fn:(n==0)=false:=by rw[xV];exact hn
   clear hF;go_enter Tryz.func120,Tryz.ntmps120;go_upto_region 1 with fail
   go_quiet (fail);go_wp2;go_ret;exact⟨rfl,hB0.out nq⟩
  obtain rfl:n=0:=by omega
  cases hi:isNm v with
  |false=>
   obtain rfl:F=false:=by rw[←hF];exact fb_v (by simp only;rw[if_pos (isVar_t (by omega) (by omega))];exact hi)
   replace hi:=Hd hi;clear hF;go_enter Tryz.func120,Tryz.ntmps120;go_upto_region 1 with fail
   go_quiet (fail);go_wp2_with (have _t:=tok0;clear tok0;go_at_call 59;refine(k1.out v _ (hK.out.stay (hB0.out nq)) hv).mono ?_;rw[hi.out];rintro e W ⟨rfl,hW⟩;have hB1:Bw w W:=(hB0.out nq).trans (hW.mono (hB0.out nq).size);have hx1:=(hx0.out nq).stay hW;have y3:W.cell? ⟨w.heap.size,3,none⟩=some (.string at_):=hx1.cell 3;replace hB1:=Hd hB1;replace hx1:=Hd hx1;clear hW);go_ret;exact⟨rfl,hB1.out⟩
  |true=>
   have hF2:=(fb_a (by simp only;rw[if_neg (by omega)];first|exact zW trivial |simp) (by simp only;rw[if_pos (isVar_t (by omega) (by omega))];exact hi)).symm.trans hF;clear hF;replace hi:=Hd hi;simp only at hF2;rw[if_neg (by rw[isAtt_f (by omega)];decide)]at hF2;have fa:(at_.toList==([]:List UInt8))=F:=by rw[emp_eq];exact hF2
   clear hF2;go_enter Tryz.func120,Tryz.ntmps120;go_upto_region 1 with fail
   go_quiet (fail);go_wp2_with (have _t:=tok0;clear tok0;go_at_call 59;refine(k1.out v _ (hK.out.stay (hB0.out nq)) hv).mono ?_;rw[hi.out];rintro e W ⟨rfl,hW⟩;have hB1:Bw w W:=(hB0.out nq).trans (hW.mono (hB0.out nq).size);have hx1:=(hx0.out nq).stay hW;have y3:W.cell? ⟨w.heap.size,3,none⟩=some (.string at_):=hx1.cell 3;replace hB1:=Hd hB1;replace hx1:=Hd hx1;clear hW);go_ret;exact⟨rfl,hB1.out⟩
 ·have f1:(op==1)=false:=by rw[xV];omega
  have f2:(op==5)=false:=by rw[xV];exact h3
  by_cases hn:¬n=0
  ·obtain rfl:F=false:=by rw[←hF];exact fb_n (by simp only;rw[if_neg (by omega)];exact zV (by omega))
   have fn:(n==0)=false:=by rw[xV];exact hn
   clear hF;go_enter Tryz.func120,Tryz.ntmps120;go_upto_region 1 with fail
   go_quiet (fail);go_wp2;go_ret;exact⟨rfl,hB0.out nq⟩
  obtain rfl:n=0:=by omega
  cases hi:isNm v with
  |false=>
   obtain rfl:F=false:=by rw[←hF];exact fb_v (by simp only;rw[if_pos (isVar_t (by omega) (by omega))];exact hi)
   replace hi:=Hd hi;clear hF;go_enter Tryz.func120,Tryz.ntmps120;go_upto_region 1 with fail
   go_quiet (fail);go_wp2_with (have _t:=tok0;clear tok0;go_at_call 59;refine(k1.out v _ (hK.out.stay (hB0.out nq)) hv).mono ?_;rw[hi.out];rintro e W ⟨rfl,hW⟩;have hB1:Bw w W:=(hB0.out nq).trans (hW.mono (hB0.out nq).size);have hx1:=(hx0.out nq).stay hW;have y3:W.cell? ⟨w.heap.size,3,none⟩=some (.string at_):=hx1.cell 3;replace hB1:=Hd hB1;replace hx1:=Hd hx1;clear hW);go_ret;exact⟨rfl,hB1.out⟩
  |true=>
   have hF2:=(fb_a (by simp only;rw[if_neg (by omega)];first|exact zW trivial |simp) (by simp only;rw[if_pos (isVar_t (by omega) (by omega))];exact hi)).symm.trans hF;clear hF;replace hi:=Hd hi;simp only at hF2;rw[if_pos (isAtt_t (by omega) (by omega) (by omega))]at hF2;cases hia:isNm at_ with
   |false=>
    obtain rfl:F=false:=by rw[←hF2,hia]
    replace hia:=Hd hia;clear hF2;go_enter Tryz.func120,Tryz.ntmps120;go_upto_region 1 with fail
    go_quiet (fail);go_wp2_with first
     |(have _t:=tok0;clear tok0;go_at_call 59;refine(k1.out v _ (hK.out.stay (hB0.out nq)) hv).mono ?_;rw[hi.out];rintro e W ⟨rfl,hW⟩;have hB1:Bw w W:=(hB0.out nq).trans (hW.mono (hB0.out nq).size);have hx1:=(hx0.out nq).stay hW;have y3:W.cell? ⟨w.heap.size,3,none⟩=some (.string at_):=hx1.cell 3;replace hB1:=Hd hB1;replace hx1:=Hd hx1;clear hW)
     |(go_at_call 59;refine(k1.out at_ _ (hK.out.stay hB1.out) ha).mono ?_;rw[hia.out];rintro e W2 ⟨rfl,hW2⟩;replace hB1:=Hd (hB1.out.trans (hW2.mono hB1.out.size));clear hW2)
    go_ret;exact⟨rfl,hB1.out⟩
   |true=>
    obtain rfl:F=true:=by rw[←hF2,hia]
    replace hia:=Hd hia;clear hF2;go_enter Tryz.func120,Tryz.ntmps120;go_upto_region 1 with fail
    go_quiet (fail);go_wp2_with first
     |(have _t:=tok0;clear tok0;go_at_call 59;refine(k1.out v _ (hK.out.stay (hB0.out nq)) hv).mono ?_;rw[hi.out];rintro e W ⟨rfl,hW⟩;have hB1:Bw w W:=(hB0.out nq).trans (hW.mono (hB0.out nq).size);have hx1:=(hx0.out nq).stay hW;have y3:W.cell? ⟨w.heap.size,3,none⟩=some (.string at_):=hx1.cell 3;replace hB1:=Hd hB1;replace hx1:=Hd hx1;clear hW)
     |(go_at_call 59;refine(k1.out at_ _ (hK.out.stay hB1.out) ha).mono ?_;rw[hia.out];rintro e W2 ⟨rfl,hW2⟩;replace hB1:=Hd (hB1.out.trans (hW2.mono hB1.out.size));clear hW2)
    go_ret;exact⟨rfl,hB1.out⟩
end ckW
abbrev NoF:Nat→Prop:=fun _=>False
theorem elInt:ElT Tryz.prog 82 3 1 8:=.of Tryz.underlying82 (by kernel_rfl) (by omega)
theorem elNd:ElT Tryz.prog 29 81 6 64:=.of Tryz.underlying29 (by kernel_rfl) (by omega)
theorem OL.addr {w:World}{B e size n c n':Nat}{F:Nat→Prop}{A:Option Addr}{ds:List D}(h:OL w B F e size (.slice A n' c) n ds):A=none∨∃g,A=some ⟨g,0,none⟩:=by
 obtain⟨cells,h1,_⟩:=h;rcases h1.2 with⟨e,_⟩|⟨g,cap,cur,e,_⟩
 ·injection e with e1;exact .inl e1
 ·injection e with e1;exact .inr ⟨g,e1⟩
theorem OL.cap {w:World}{B e size n c n':Nat}{F:Nat→Prop}{A:Option Addr}{ds:List D}(h:OL w B F e size (.slice A n' c) n ds):n'=n∧n≤c:=by
 obtain⟨cells,h1,_⟩:=h;rcases h1.2 with⟨e,h0⟩|⟨g,cap,cur,e,_,_,hnc,_⟩
 ·injection e with _ e2 e3;subst e2 e3;omega
 ·injection e with _ e2 e3;subst e2 e3;exact⟨rfl,hnc⟩
theorem OL.trunc {w:World}{B e size n c m:Nat}{F:Nat→Prop}{A:Option Addr}{ds:List D}(h:OL w B F e size (.slice A n c) n ds)(hm:m≤n):OL w B F e size (.slice A m c) m (ds.take (m*size)):=by
 obtain⟨cells,h1,h2,h3⟩:=h;have hms:m*size≤n*size:=Nat.mul_le_mul hm nR;refine⟨cells.take (m*size),⟨by rw[zO,h1.1];omega,?_⟩,by rw[zO,zO,h2],fun k d hd=>?_⟩
 ·rcases h1.2 with⟨e,h0⟩|⟨g,cap,cur,e,hB,hg,hnc,hx,hs,ht⟩
  ·injection e with e1 e2 e3
   subst e1 e2 e3;obtain rfl:m=0:=by omega
   exact .inl ⟨rfl,rfl⟩
  ·injection e with e1 e2 e3
   subst e1 e3;refine .inr ⟨g,_,cur,rfl,hB,hg,by omega,hx,hs,?_⟩;rw[←ht,List.take_take];congr 1;omega
 ·rw[zZ]at hd ⊢;split at hd
  ·rename_i hk;rw[if_pos hk];obtain⟨u,hu,hr⟩:=h3 k d hd;refine⟨u,hu,?_⟩;have eo:(Value.slice A m c).ownBlock=(Value.slice A n c).ownBlock:=by cases A<;>rfl
   rw[eo];exact hr
  ·cases hd
theorem run_cut {P:Program}{t e size bytes:Nat}(T:ElT P t e size bytes){A:Option Addr}(hA:A=none∨∃g,A=some ⟨g,0,none⟩)(n cap m:Nat)(hm:m≤cap)(W:World):(Instr.slice t (.slice A n cap) none (some (.int .i64 m)) none).run P W=.ok (.slice A m cap) W:=by
 obtain⟨hs,⟨i,z,hi,hz,hsz,hb,hzs⟩,hp⟩:=T;have h0:(0:Int)≤(m:Int):=by omega
 have h1:(m:Int)≤(cap:Int):=by omega
 rcases hA with rfl |⟨g,rfl⟩
 ·simp[Instr.slice,run_underlying hs,Instr.sliceBounds,run_sliceBound,sizeOf,typeInfo,hi,h0,h1,hm]
 ·simp[Instr.slice,run_underlying hs,Instr.sliceBounds,run_sliceBound,sizeOf,typeInfo,hi,h0,h1,hm,addr_add0]
theorem nd_at {w:World}{F:Nat→Prop}{A:Option Addr}{c i:Nat}{t:List Nd}{x:Nd}(r:Rd w F (.slice A t.length c) (.sl t.length (t.flatMap ndD)))(hp:t[i]? =some x):∃b off,A=some ⟨b,off,none⟩∧F b∧
  w.cell? ⟨b,off+i*6,none⟩=some (.int .i64 x.op)∧w.cell? ⟨b,off+i*6+1,none⟩=some (.int .i64 x.n)∧w.cell? ⟨b,off+i*6+2,none⟩=some (.string x.v)∧w.cell? ⟨b,off+i*6+3,none⟩=some (.string x.at_)∧
  w.cell? ⟨b,off+i*6+4,none⟩=some (.int .i64 x.a)∧w.cell? ⟨b,off+i*6+5,none⟩=some (.int .i64 x.b):=by
 obtain⟨b,off,rfl,hF,ha,_⟩:=r.rowv (m:=6) (fun _=>rfl) hp (by omega);exact⟨b,off,rfl,hF,ha 0 _ rfl,ha 1 _ rfl,ha 2 _ rfl,ha 3 _ rfl,ha 4 _ rfl,ha 5 _ rfl⟩
def SzN (t:List Nd):Prop:=t.length≤1048576∧∀x∈t,x.v.size≤1048576∧x.at_.size≤1048576
def rtD (p:Nat×Nat):D:=.v (.int .i64 (p.2:Nat))
structure TI (t:List Nd)(w wr:World)(i:Nat)(stk:List (Nat×Nat))(v:Value):Prop where
 hi:i≤t.length
 hl:stk.length≤i
 hb:Bw w wr
 ol:OL wr w.heap.size NoF 3 1 v stk.length (stk.reverse.map rtD)
 eq:runT 0 [] t=runT i stk (t.drop i)
def TkRel (t:List Nd)(w:World)(x y:Value)(wr:World):Prop:=∃i stk,y=.int .i64 (i:Nat)∧TI t w wr i stk x
theorem TkRel.mk {t:List Nd}{w wr:World}{x y:Value}(i:Nat)(stk:List (Nat×Nat))(h1:y=.int .i64 i)(h2:TI t w wr i stk x):TkRel t w x y wr:=⟨i,stk,h1,h2⟩
theorem TI.dead {t:List Nd}{w wr:World}{i:Nat}{stk:List (Nat×Nat)}{v:Value}{x:Nd}(h:TI t w wr i stk v)(hx:t[i]? =some x)(hs:stepT i stk x=none):treeB t=false:=by
 obtain⟨h1,h2⟩:=zC.1 hx;unfold treeB;rw[h.eq,List.drop_eq_getElem_cons h1,h2];unfold runT;rw[hs]
theorem TI.live {t:List Nd}{w wr:World}{i:Nat}{stk stk':List (Nat×Nat)}{v:Value}{x:Nd}(h:TI t w wr i stk v)(hx:t[i]? =some x)(hs:stepT i stk x=some stk'):runT 0 [] t=runT (i+1) stk' (t.drop (i+1)):=by
 obtain⟨h1,h2⟩:=zC.1 hx;rw[h.eq,List.drop_eq_getElem_cons h1,h2];show runT i stk (x::_)=_
 rw[runT,hs]
theorem TI.push {t:List Nd}{w wr w2 w3:World}{i:Nat}{stk stk':List (Nat×Nat)}{A:Option Addr}{n c m:Nat}{v':Value}{o:Obj}(h:TI t w wr i stk (.slice A n c))(hi:i<t.length)(hb:Bw wr w2)(hm:m≤stk.length)(hg:(w2.alloc o).grownBy w3 (Value.slice A n c).ownBlock)
  (hO:OL w3 w.heap.size NoF 3 1 v' (m+1) ((stk.reverse.map rtD).take (m*1)++[rtD (0,i)]))(hl:stk'.length=m+1)(hd:stk'.reverse.map rtD=(stk.reverse.map rtD).take m++[rtD (0,i)])(eq:runT 0 [] t=runT (i+1) stk' (t.drop (i+1))):TI t w w3 (i+1) stk' v':=by
 have hs:=h.hb.size;have hs2:=hb.size;refine⟨hi,by have:=h.hl;omega,((h.hb.trans (hb.mono hs)).alloc (by omega) o).grown hg (by simp;omega) (fun q hq=>(h.ol.lt q hq).1),?_,eq⟩;rw[hl,hd];simpa using hO
end Go.Proofs.YtfiodnlgiglhfaaGreatDoor
