/- What changes leave of the first schema's types. -/
import Derived.Test.YtfiodnlgiglhfaaGreatDoorW3
import Derived.Test.YtfiodnlgiglhfaaGreatDoorD7
namespace Go.Proofs.YtfiodnlgiglhfaaGreatDoor
set_option maxRecDepth 100000
set_option maxHeartbeats 16000000
open Go.RowKit Go.Deep
set_option linter.unusedVariables false
set_option linter.unusedSimpArgs false
def Unl (a b:Int):Prop:=0≤a→a≠b
theorem Unl.symm {a b:Int}(h:Unl a b):Unl b a:=fun hb e=>h (by omega) e.symm
def UqF (l:List Fd):Prop:=(l.map (·.fr)).Pairwise Unl∧∀f∈l,-1≤f.fr
structure UqK (T:List Kd):Prop where
 kd:(T.map (·.fr)).Pairwise Unl
 fd:∀k∈T,UqF k.fs
def hasK (T:List Kd)(a:Int):Prop:=∃k∈T,k.fr=a
def hasF (T:List Kd)(a b:Int):Prop:=∃k∈T,k.fr=a∧∃f∈k.fs,f.fr=b
theorem unl_mono {l:List Int}{n:Nat}:∀(m:Nat),l=(List.range' m n).map (fun i:Nat=>(i:Int))→l.Pairwise Unl:=by
 intro m h;subst h;rw[List.pairwise_map];exact(List.pairwise_lt_range' (s:=m) (n:=n)).imp fun h _ e=>by omega
theorem fstF_fr (l:List ByteArray):(fstF l).map (·.fr)=(List.range' 0 l.length).map (fun i:Nat=>(i:Int)):=by
 apply List.ext_getElem?;intro i;unfold fstF;rw[zG,xQ,zG];by_cases h:i<l.length
 ·rw[zI h,zI (by simpa using h)];simp
 ·rw[xO (by omega),xO (by simpa using h)];rfl
theorem fstK_fr (S:List Td):(fstK S).map (·.fr)=(List.range' 0 S.length).map (fun i:Nat=>(i:Int)):=by
 apply List.ext_getElem?;intro i;unfold fstK;rw[zG,xQ,zG];by_cases h:i<S.length
 ·rw[zI h,zI (by simpa using h)];simp
 ·rw[xO (by omega),xO (by simpa using h)];rfl
theorem fstK_get {S:List Td}{k:Kd}(h:k∈fstK S):∃(i:Nat)(t:Td),S[i]? =some t∧k=⟨t.name,i,fstF t.attrs⟩:=by
 obtain⟨i,hi⟩:=zN h;unfold fstK at hi;rw[xQ]at hi;cases ht:S[i]? with
 |none=>rw[ht]at hi;cases hi
 |some t=>rw[ht]at hi;injection hi with hi;exact⟨i,t,ht,hi.symm⟩
theorem fst_uq (S:List Td):UqK (fstK S):=by
 refine⟨unl_mono 0 (fstK_fr S),fun k hk=>?_⟩;obtain⟨i,t,_,rfl⟩:=fstK_get hk;refine⟨unl_mono 0 (fstF_fr t.attrs),fun f hf=>?_⟩;have h2:f.fr∈(fstF t.attrs).map (·.fr):=xJ hf;rw[fstF_fr,List.mem_map]at h2;obtain⟨j,_,e3⟩:=h2;omega
theorem fst_has {S:List Td}{a:Nat}:hasK (fstK S) a↔a<S.length:=by
 constructor
 ·rintro⟨k,hk,e⟩;obtain⟨i,t,ht,rfl⟩:=fstK_get hk;have:=(zC.1 ht).1;simp only at e;omega
 ·intro h;exact⟨⟨S[a].name,a,fstF S[a].attrs⟩,zA (i:=a) (by unfold fstK;rw[xQ,zI h];rfl),rfl⟩
theorem fst_hasF {S:List Td}{a b:Nat}:hasF (fstK S) a b↔∃t,S[a]? =some t∧b<t.attrs.length:=by
 constructor
 ·rintro⟨k,hk,e,f,hf,e2⟩;obtain⟨i,t,ht,rfl⟩:=fstK_get hk;simp only at e;obtain rfl:i=a:=by omega
  refine⟨t,ht,?_⟩;have h2:f.fr∈(fstF t.attrs).map (·.fr):=xJ hf;rw[fstF_fr,List.mem_map]at h2;obtain⟨j,hj,e3⟩:=h2;rw[List.mem_range'_1]at hj;omega
 ·rintro⟨t,ht,hb⟩;have h2:(b:Int)∈(fstF t.attrs).map (·.fr):=by
   rw[fstF_fr,List.mem_map];exact⟨b,by rw[List.mem_range'_1];omega,rfl⟩
  obtain⟨f,hf,e⟩:=List.mem_map.1 h2;exact⟨⟨t.name,a,fstF t.attrs⟩,zA (i:=a) (by unfold fstK;rw[xQ,ht];rfl),rfl,f,hf,e⟩
theorem pw_erase {l:List Int}{i:Nat}(h:l.Pairwise Unl):(l.eraseIdx i).Pairwise Unl:=h.sublist (List.eraseIdx_sublist l i)
theorem map_erase {α:Type}(f:α→Int)(l:List α)(i:Nat):(l.eraseIdx i).map f=(l.map f).eraseIdx i:=by
 apply List.ext_getElem?;intro j;rw[zG,List.getElem?_eraseIdx,List.getElem?_eraseIdx,zG,zG];split<;>rfl
theorem mem_erase {α:Type}{f:α→Int}{l:List α}{i:Nat}{x:α}(hu:(l.map f).Pairwise Unl)(hx:l[i]? =some x){a:Int}(ha:0≤a){P:α→Prop}:(∃y∈l.eraseIdx i,f y=a∧P y)↔(∃y∈l,f y=a∧P y)∧f x≠a:=by
 have hi:=(zC.1 hx).1;rw[List.pairwise_iff_getElem]at hu;have hun:∀(j:Nat) y,l[j]? =some y→f y=a→f x=a→j=i:=fun j y hy e1 e2=>by
  have hj:=(zC.1 hy).1;have gx:(l.map f)[i]'(by simpa using hi)=f x:=by rw[List.getElem_map];congr 1;exact(zC.1 hx).2
  have gy:(l.map f)[j]'(by simpa using hj)=f y:=by rw[List.getElem_map];congr 1;exact(zC.1 hy).2
  rcases Nat.lt_trichotomy j i with h |h |h
  ·exact absurd (show f y=f x by omega) (by rw[←gx,←gy];exact hu j i _ _ h (by rw[gy];omega))
  ·exact h
  ·exact absurd (show f x=f y by omega) (by rw[←gx,←gy];exact hu i j _ _ h (by rw[gx];omega))
 constructor
 ·rintro⟨y,hy,e,hP⟩;rw[List.mem_eraseIdx_iff_getElem?]at hy;obtain⟨j,hji,hj⟩:=hy;exact⟨⟨y,zA hj,e,hP⟩,fun e2=>hji (hun j y hj e e2)⟩
 ·rintro⟨⟨y,hy,e,hP⟩,hne⟩;obtain⟨j,hj⟩:=zN hy;refine⟨y,?_,e,hP⟩;rw[List.mem_eraseIdx_iff_getElem?];refine⟨j,fun h=>hne ?_,hj⟩;rw[h,hx]at hj;injection hj with hj
  rw[hj];exact e
theorem mem_set_same {l:List Kd}{i:Nat}{x x':Kd}(hx:l[i]? =some x)(hf:x'.fr=x.fr){a:Int}:hasK (l.set i x') a↔hasK l a:=by
 constructor
 ·rintro⟨y,hy,e⟩;rcases mem_set_ hy with h |rfl
  ·exact⟨y,h,e⟩
  ·exact⟨x,zA hx,by omega⟩
 ·rintro⟨y,hy,e⟩;obtain⟨j,hj⟩:=zN hy;by_cases h:i=j
  ·subst h;rw[hx]at hj;injection hj with hj;subst hj
   exact⟨x',zA (i:=i) (by rw[xL,if_pos rfl,if_pos (zC.1 hx).1]),by omega⟩
  ·exact⟨y,zA (i:=j) (by rw[xL,if_neg h];exact hj),e⟩
theorem pw_inj {l:List Kd}(hu:(l.map (·.fr)).Pairwise Unl){i j:Nat}{x y:Kd}(hx:l[i]? =some x)(hy:l[j]? =some y)(h0:0≤x.fr)(he:y.fr=x.fr):i=j:=by
 rw[List.pairwise_iff_getElem]at hu;have hi:=(zC.1 hx).1;have hj:=(zC.1 hy).1;have gx:(l.map (·.fr))[i]'(by simpa using hi)=x.fr:=by rw[List.getElem_map];congr 1;exact(zC.1 hx).2
 have gy:(l.map (·.fr))[j]'(by simpa using hj)=y.fr:=by rw[List.getElem_map];congr 1;exact(zC.1 hy).2
 rcases Nat.lt_trichotomy i j with h |h |h
 ·exact absurd (show x.fr=y.fr by omega) (by rw[←gx,←gy];exact hu i j _ _ h (by rw[gx];omega))
 ·exact h
 ·exact absurd (show y.fr=x.fr by omega) (by rw[←gx,←gy];exact hu j i _ _ h (by rw[gy];omega))
theorem mem_set_fs {l:List Kd}{i:Nat}{x x':Kd}(hu:(l.map (·.fr)).Pairwise Unl)(hx:l[i]? =some x)(hf:x'.fr=x.fr){a b:Int}(ha:0≤a):hasF (l.set i x') a b↔if x.fr=a then(∃f∈x'.fs,f.fr=b)else hasF l a b:=by
 have hil:=(zC.1 hx).1;have hm:x'∈l.set i x':=zA (i:=i) (by rw[xL,if_pos rfl,if_pos hil]);by_cases h:x.fr=a
 ·rw[if_pos h];constructor
  ·rintro⟨y,hy,e,hP⟩;obtain⟨j,hj⟩:=zN hy;rw[xL]at hj;by_cases hij:i=j
   ·subst hij;rw[if_pos rfl,if_pos hil]at hj;injection hj with hj;subst hj;exact hP
   ·rw[if_neg hij]at hj;exact absurd (pw_inj hu hx hj (by omega) (by omega)) hij
  ·intro hP;exact⟨x',hm,by omega,hP⟩
 ·rw[if_neg h];constructor
  ·rintro⟨y,hy,e,hP⟩;rcases mem_set_ hy with h2 |rfl
   ·exact⟨y,h2,e,hP⟩
   ·omega
  ·rintro⟨y,hy,e,hP⟩;obtain⟨j,hj⟩:=zN hy;by_cases hij:i=j
   ·subst hij;rw[hx]at hj;injection hj with hj;subst hj
    exact absurd e h
   ·exact⟨y,zA (i:=j) (by rw[xL,if_neg hij];exact hj),e,hP⟩
theorem hasF_self {l:List Kd}{i:Nat}{x:Kd}(hu:(l.map (·.fr)).Pairwise Unl)(hx:l[i]? =some x){b:Int}(ha:0≤x.fr):hasF l x.fr b↔∃f∈x.fs,f.fr=b:=by
 constructor
 ·rintro⟨y,hy,e,hP⟩;obtain⟨j,hj⟩:=zN hy;obtain rfl:=pw_inj hu hx hj ha e;rw[hx]at hj;injection hj with hj;subst hj
  exact hP
 ·intro hP;exact⟨x,zA hx,rfl,hP⟩
theorem uq_set {l:List Kd}{i:Nat}{x x':Kd}(h:UqK l)(hx:l[i]? =some x)(hf:x'.fr=x.fr)(hu:UqF x'.fs):UqK (l.set i x'):=by
 refine⟨?_,fun k hk=>?_⟩
 ·rw[List.map_set,hf];have:(l.map (·.fr)).set i x.fr=l.map (·.fr):=by
   apply List.ext_getElem?;intro j;rw[xL];by_cases hij:i=j
   ·subst hij;rw[if_pos rfl,zG,hx,if_pos (by simpa using (zC.1 hx).1)];rfl
   ·rw[if_neg hij]
  rw[this];exact h.kd
 ·rcases mem_set_ hk with h2 |rfl
  ·exact h.fd k h2
  ·exact hu
theorem pw_snoc {l:List Int}(h:l.Pairwise Unl){a:Int}(ha:a<0):(l++[a]).Pairwise Unl:=by
 rw[List.pairwise_append];refine⟨h,List.pairwise_singleton _ _,fun x hx y hy h0 e=>?_⟩;rw[xB]at hy;omega
theorem mv_perm {l:List Fd}{k n:Nat}{x:Fd}(hx:l[k]? =some x):(mvF l k n).Perm l:=by
 obtain⟨hk,e⟩:=zC.1 hx;unfold mvF;rw[hx];show((l.eraseIdx k).take n++([x]++(l.eraseIdx k).drop n)).Perm l
 have h1:((l.eraseIdx k).take n++([x]++(l.eraseIdx k).drop n)).Perm (x::l.eraseIdx k):=by
  rw[←zR];have h2:((l.eraseIdx k).take n++[x]).Perm ([x]++(l.eraseIdx k).take n):=List.perm_append_comm;have h3:=h2.append_right ((l.eraseIdx k).drop n);rw[zR [x],List.take_append_drop]at h3;exact h3
 have h4:l=l.take k++x::l.drop (k+1):=by
  rw[←e,←List.drop_eq_getElem_cons hk,List.take_append_drop]
 have h5:l.eraseIdx k=l.take k++l.drop (k+1):=List.eraseIdx_eq_take_drop_succ l k;have h6:(l.take k++x::l.drop (k+1)).Perm (x::(l.take k++l.drop (k+1))):=List.perm_middle;rw[←h4,←h5]at h6;exact h1.trans h6.symm
structure Left (T T':List Kd)(D:List Ls):Prop where
 uq:UqK T'
 k:∀a:Nat,hasK T' a↔hasK T a∧¬∃x∈D,x.ty=a∧x.at_= -2
 f:∀a b:Nat,hasF T' a b↔hasF T a b∧¬∃x∈D,x.ty=a∧(x.at_= -2∨x.at_=b)
theorem Left.same {T T':List Kd}(hu:UqK T')(h1:∀a:Nat,hasK T' a↔hasK T a)(h2:∀a b:Nat,hasF T' a b↔hasF T a b):Left T T' []:=
 ⟨hu,fun a=>by rw[h1];simp,fun a b=>by rw[h2];simp⟩
theorem uqF_mod {l:List Fd}{k:Nat}{x:Fd}{s:ByteArray}(hx:l[k]? =some x):(l.set k {x with nm:=s}).map (·.fr)=l.map (·.fr):=by
 apply List.ext_getElem?;intro j;rw[zG,zG,xL];by_cases hij:k=j
 ·subst hij;rw[if_pos rfl,if_pos (zC.1 hx).1,hx];rfl
 ·rw[if_neg hij]
theorem ex_fr {l l':List Fd}(h:l'.map (·.fr)=l.map (·.fr))(b:Int):(∃f∈l',f.fr=b)↔∃f∈l,f.fr=b:=by
 have h1:∀m:List Fd,(∃f∈m,f.fr=b)↔b∈m.map (·.fr):=fun m=>by rw[List.mem_map]
 rw[h1,h1,h]
theorem chK_inv {T T':List Kd}{c:Cg}(h:chK T c=some T'):(c.kd=1∧T'=T++[addK c])∨
  ∃i p,tyAt T c.ty=some i∧T[i]? =some p∧((c.kd=2∧T'=T.eraseIdx i)∨(c.kd=3∧T'=T.set i {p with nm:=c.nm})∨(4≤c.kd∧c.kd≤7∧∃fs,chF p.fs c=some fs∧T'=T.set i {p with fs:=fs})):=by
 unfold chK at h;by_cases h1:c.kd=1
 ·rw[if_pos h1]at h;injection h with h;exact .inl ⟨h1,h.symm⟩
 rw[if_neg h1]at h;by_cases h2:2≤c.kd∧c.kd≤7
 ·rw[if_pos h2]at h;cases ht:tyAt T c.ty with
  |none=>rw[ht]at h;cases h
  |some i=>
   rw[ht]at h;simp only at h;obtain⟨p,hp⟩:=getx (tyAt_lt ht);refine .inr ⟨i,p,rfl,hp,?_⟩;by_cases h3:c.kd=2
   ·rw[if_pos h3]at h;injection h with h;exact .inl ⟨h3,h.symm⟩
   rw[if_neg h3]at h;by_cases h4:c.kd=3
   ·rw[if_pos h4]at h;injection h with h;exact .inr (.inl ⟨h4,by rw[←h,mod_set hp]⟩)
   rw[if_neg h4,hp]at h;simp only at h;cases hc:chF p.fs c with
   |none=>rw[hc]at h;cases h
   |some fs=>rw[hc]at h;injection h with h;exact .inr (.inr ⟨by omega,h2.2,fs,rfl,h.symm⟩)
 ·rw[if_neg h2]at h;cases h
theorem chF_inv {l fs:List Fd}{c:Cg}(h4:4≤c.kd)(h7:c.kd≤7)(h:chF l c=some fs):(c.kd=4∧fs=l++[⟨c.nm,-1,c.n⟩])∨
  ∃k x,flAt l c.at_=some k∧l[k]? =some x∧((c.kd=5∧fs=l.eraseIdx k)∨(c.kd=6∧fs=l.set k {x with nm:=c.nm})∨(c.kd=7∧fs=mvF l k c.n.toNat)):=by
 unfold chF at h;by_cases h1:c.kd=4
 ·rw[if_pos h1]at h;injection h with h;exact .inl ⟨h1,h.symm⟩
 rw[if_neg h1]at h;cases hf:flAt l c.at_ with
 |none=>rw[hf]at h;cases h
 |some k=>
  rw[hf]at h;simp only at h;obtain⟨x,hx⟩:=getx (flAt_lt hf);refine .inr ⟨k,x,rfl,hx,?_⟩;by_cases h5:c.kd=5
  ·rw[if_pos h5]at h;injection h with h;exact .inl ⟨h5,h.symm⟩
  rw[if_neg h5]at h;by_cases h6:c.kd=6
  ·rw[if_pos h6]at h;injection h with h;exact .inr (.inl ⟨h6,by rw[←h,mod_set hx]⟩)
  rw[if_neg h6]at h;split at h
  ·injection h with h;exact .inr (.inr ⟨by omega,h.symm⟩)
  ·cases h
theorem hasK_app {l m:List Kd}{a:Int}:hasK (l++m) a↔hasK l a∨hasK m a:=by
 unfold hasK;constructor
 ·rintro⟨k,hk,e⟩;rcases zM.1 hk with h |h
  ·exact .inl ⟨k,h,e⟩
  ·exact .inr ⟨k,h,e⟩
 ·rintro(⟨k,hk,e⟩|⟨k,hk,e⟩)
  ·exact⟨k,List.mem_append_left _ hk,e⟩
  ·exact⟨k,xN _ hk,e⟩
theorem hasF_app {l m:List Kd}{a b:Int}:hasF (l++m) a b↔hasF l a b∨hasF m a b:=by
 unfold hasF;constructor
 ·rintro⟨k,hk,e⟩;rcases zM.1 hk with h |h
  ·exact .inl ⟨k,h,e⟩
  ·exact .inr ⟨k,h,e⟩
 ·rintro(⟨k,hk,e⟩|⟨k,hk,e⟩)
  ·exact⟨k,List.mem_append_left _ hk,e⟩
  ·exact⟨k,xN _ hk,e⟩
theorem addK_no {c:Cg}{a:Nat}:¬hasK [addK c] a:=by
 rintro⟨k,hk,e⟩;rw[xB]at hk;subst hk;have:(addK c).fr= -1:=rfl;omega
theorem left_fs {T:List Kd}{c:Cg}{by_:Int}{i:Nat}{p:Kd}{fs:List Fd}(hu:UqK T)(hp:T[i]? =some p)(huf:UqF fs)(hD:lsOf T c by_=[])(hf:0≤p.fr→∀b:Nat,(∃f∈fs,f.fr=(b:Int))↔∃f∈p.fs,f.fr=(b:Int)):Left T (T.set i {p with fs:=fs}) (lsOf T c by_):=by
 rw[hD];refine .same (uq_set hu hp rfl huf) (fun a=>mem_set_same (x':={p with fs:=fs}) hp rfl) fun a b=>?_
 rw[mem_set_fs (x':={p with fs:=fs}) (a:=(a:Int)) hu.kd hp rfl (by omega)];by_cases h:p.fr=(a:Int)
 ·rw[if_pos h,hf (by omega),←h,hasF_self hu.kd hp (by omega)]
 ·rw[if_neg h]
theorem left_of {T T':List Kd}{c:Cg}(by_:Int)(hu:UqK T)(h:chK T c=some T'):Left T T' (lsOf T c by_):=by
 rcases chK_inv h with⟨h1,rfl⟩|⟨i,p,ht,hp,hc⟩
 ·rw[lsOf_no (by omega) (by omega)];refine .same ⟨?_,?_⟩ (fun a=>?_) fun a b=>?_
  ·rw[xR];exact pw_snoc hu.kd (show(addK c).fr<0 from by show(-1:Int)<0;omega)
  ·intro k hk;rcases zM.1 hk with h2 |h2
   ·exact hu.fd k h2
   ·rw[xB]at h2;subst h2;unfold UqF addK;refine⟨?_,fun f hf=>?_⟩
    ·rw[List.map_map,List.pairwise_map];exact List.pairwise_of_forall fun _ _ h0=>by simp at h0
    ·obtain⟨a,_,rfl⟩:=List.mem_map.1 hf;show(-1:Int)≤ -1
     omega
  ·rw[hasK_app];exact⟨fun h=>h.resolve_right addK_no,.inl⟩
  ·rw[hasF_app];refine⟨fun h=>h.resolve_right fun⟨k,hk,e,_⟩=>addK_no ⟨k,hk,e⟩,.inl⟩
 rcases hc with⟨h2,rfl⟩|⟨h3,rfl⟩|⟨h4,h7,fs,hf,rfl⟩
 ·rw[lsOf_2 h2 ht hp];refine⟨⟨?_,fun k hk=>hu.fd k (List.mem_of_mem_eraseIdx hk)⟩,fun a=>?_,fun a b=>?_⟩
  ·rw[map_erase];exact pw_erase hu.kd
  ·have:=mem_erase (P:=fun _=>True) hu.kd hp (a:=(a:Int)) (by omega);simp only[and_true]at this;unfold hasK;rw[this];simp
  ·unfold hasF;rw[mem_erase (P:=fun k:Kd=>∃f∈k.fs,f.fr=(b:Int)) hu.kd hp (a:=(a:Int)) (by omega)];simp
 ·rw[lsOf_no (by omega) (by omega)];refine .same (uq_set hu hp rfl (hu.fd p (zA hp))) (fun a=>mem_set_same (x':={p with nm:=c.nm}) hp rfl) fun a b=>?_
  rw[mem_set_fs (x':={p with nm:=c.nm}) (a:=(a:Int)) hu.kd hp rfl (by omega)];by_cases h:p.fr=(a:Int)
  ·rw[if_pos h,←h,hasF_self hu.kd hp (by omega)]
  ·rw[if_neg h]
 ·have hup:=hu.fd p (zA hp);rcases chF_inv h4 h7 hf with⟨k4,rfl⟩|⟨k,x,hk,hx,hcc⟩
  ·refine left_fs hu hp ?_ (lsOf_no (by omega) (by omega)) fun _ b=>?_
   ·refine⟨?_,fun f hf=>?_⟩
    ·rw[xR];exact pw_snoc hup.1 (show(-1:Int)<0 by omega)
    ·rcases zM.1 hf with h2 |h2
     ·exact hup.2 f h2
     ·rw[xB]at h2;subst h2;show(-1:Int)≤ -1
      omega
   ·constructor
    ·rintro⟨f,hf,e⟩;rcases zM.1 hf with h2 |h2
     ·exact⟨f,h2,e⟩
     ·rw[xB]at h2;subst h2;simp only at e;omega
    ·rintro⟨f,hf,e⟩;exact⟨f,List.mem_append_left _ hf,e⟩
  ·rcases hcc with⟨k5,rfl⟩|⟨k6,rfl⟩|⟨k7,rfl⟩
   ·rw[lsOf_5 k5 ht hp hk hx];have huf:UqF (p.fs.eraseIdx k):=⟨by rw[map_erase];exact pw_erase hup.1,fun f hf=>hup.2 f (List.mem_of_mem_eraseIdx hf)⟩;have hge:=hup.2 x (zA hx);refine⟨uq_set hu hp rfl huf,fun a=>?_,fun a b=>?_⟩
    ·rw[mem_set_same (x':={p with fs:=p.fs.eraseIdx k}) hp rfl];constructor
     ·intro h2;refine⟨h2,?_⟩;rintro⟨y,hy,e1,e2⟩;rw[xB]at hy;subst hy;simp only at e2;omega
     ·exact fun h2=>h2.1
    ·rw[mem_set_fs (x':={p with fs:=p.fs.eraseIdx k}) (a:=(a:Int)) hu.kd hp rfl (by omega)];by_cases h:p.fr=(a:Int)
     ·have h2:=mem_erase (P:=fun _=>True) hup.1 hx (a:=(b:Int)) (by omega);simp only[and_true]at h2;rw[if_pos h,h2,←h,hasF_self hu.kd hp (by omega)];constructor
      ·rintro⟨h3,h4⟩;refine⟨h3,?_⟩;rintro⟨y,hy,e1,e2⟩;rw[xB]at hy;subst hy;simp only at e2;omega
      ·rintro⟨h3,h4⟩;exact⟨h3,fun e=>h4 ⟨_,xB.2 rfl,rfl,.inr e⟩⟩
     ·rw[if_neg h];refine⟨fun h2=>⟨h2,?_⟩,fun h2=>h2.1⟩;rintro⟨y,hy,e1,e2⟩;rw[xB]at hy;subst hy;exact h e1
   ·refine left_fs hu hp ?_ (lsOf_no (by omega) (by omega)) fun _ b=>ex_fr (uqF_mod hx) b
    refine⟨by rw[uqF_mod hx];exact hup.1,fun f hf=>?_⟩;rcases mem_set_ hf with h2 |rfl
    ·exact hup.2 f h2
    ·exact hup.2 x (zA hx)
   ·refine left_fs hu hp ?_ (lsOf_no (by omega) (by omega)) fun _ b=>?_
    ·exact⟨(List.Perm.pairwise_iff (fun h=>h.symm) ((mv_perm hx).map _)).2 hup.1,fun f hf=>hup.2 f ((mv_perm hx).mem_iff.1 hf)⟩
    ·have:=(mv_perm (n:=c.n.toNat) hx);exact⟨fun⟨f,hf,e⟩=>⟨f,this.mem_iff.1 hf,e⟩,fun⟨f,hf,e⟩=>⟨f,this.mem_iff.2 hf,e⟩⟩
theorem lsTo_mem {S:List Td}{L:List Cg}{k:Nat}{x:Ls}(h:x∈lsTo S L (k+1)):x∈lsTo S L k∨∃c,L[k]? =some c∧x∈lsOf (mdTo S L k) c k:=by
 have h2:x∈lsTo S L k++_:=h;rcases zM.1 h2 with h3 |h3
 ·exact .inl h3
 ·split at h3
  ·exact .inr ⟨_,by assumption,h3⟩
  ·cases h3
theorem lsOf_by {T:List Kd}{c:Cg}{b:Int}{x:Ls}(h:x∈lsOf T c b):x.by_=b∧hasK T x.ty∧(x.at_= -2∨hasF T x.ty x.at_):=by
 unfold lsOf at h;split at h
 ·cases h
 ·split at h
  ·cases h
  ·next p hp=>
   have hpm:=zA hp;by_cases h2:c.kd=2
   ·rw[if_pos h2,xB]at h;subst h;exact⟨rfl,⟨p,hpm,rfl⟩,.inl rfl⟩
   ·rw[if_neg h2]at h;by_cases h5:c.kd=5
    ·rw[if_pos h5]at h;split at h
     ·cases h
     ·split at h
      ·cases h
      ·next x' hx=>
       rw[xB]at h;subst h;exact⟨rfl,⟨p,hpm,rfl⟩,.inr ⟨p,hpm,rfl,x',zA hx,rfl⟩⟩
    ·rw[if_neg h5]at h;cases h
structure Behind (S:List Td)(L:List Cg)(j:Nat):Prop where
 uq:UqK (mdTo S L j)
 k:∀a:Nat,hasK (mdTo S L j) a↔a<S.length∧¬∃x∈lsTo S L j,x.ty=a∧x.at_= -2
 f:∀a b:Nat,hasF (mdTo S L j) a b↔(∃t,S[a]? =some t∧b<t.attrs.length)∧¬∃x∈lsTo S L j,x.ty=a∧(x.at_= -2∨x.at_=b)
 ls:∀x∈lsTo S L j,∀a:Nat,x.ty=a→∃t,S[a]? =some t∧(∀b:Nat,x.at_=b→b<t.attrs.length)
theorem behind {S:List Td}{L:List Cg}:∀{j:Nat},j≤L.length→(∀i,i<j→okAt S L i)→Behind S L j
 |0,_,_=>by
  refine⟨fst_uq S,fun a=>?_,fun a b=>?_,fun x hx=>?_⟩
  ·show hasK (fstK S) a↔a<S.length∧¬∃x∈[],_
   rw[fst_has];simp
  ·show hasF (fstK S) a b↔_∧¬∃x∈[],_
   rw[fst_hasF];simp
  ·cases hx
 |j+1,hj,hok=>by
  have ih:=behind (S:=S) (L:=L) (j:=j) (by omega) (fun i hi=>hok i (by omega));obtain⟨c,l,hc,hch,_⟩:=hok j (by omega);have hl:=left_of (j:Int) ih.uq hch;have hmem:∀x,x∈lsTo S L (j+1)↔x∈lsTo S L j∨x∈lsOf (mdTo S L j) c j:=fun x=>by rw[←lsTo_next hc,zM]
  have hm:=mdTo_next hc hch;rw[←hm]at hl;refine⟨hl.uq,fun a=>?_,fun a b=>?_,fun x hx a ha=>?_⟩
  ·rw[hl.k,ih.k];constructor
   ·rintro⟨⟨h1,h2⟩,h3⟩;refine⟨h1,?_⟩;rintro⟨x,hx,hP⟩;rcases(hmem x).1 hx with h |h
    ·exact h2 ⟨x,h,hP⟩
    ·exact h3 ⟨x,h,hP⟩
   ·rintro⟨h1,h2⟩;exact⟨⟨h1,fun⟨x,hx,hP⟩=>h2 ⟨x,(hmem x).2 (.inl hx),hP⟩⟩,fun⟨x,hx,hP⟩=>h2 ⟨x,(hmem x).2 (.inr hx),hP⟩⟩
  ·rw[hl.f,ih.f];constructor
   ·rintro⟨⟨h1,h2⟩,h3⟩;refine⟨h1,?_⟩;rintro⟨x,hx,hP⟩;rcases(hmem x).1 hx with h |h
    ·exact h2 ⟨x,h,hP⟩
    ·exact h3 ⟨x,h,hP⟩
   ·rintro⟨h1,h2⟩;exact⟨⟨h1,fun⟨x,hx,hP⟩=>h2 ⟨x,(hmem x).2 (.inl hx),hP⟩⟩,fun⟨x,hx,hP⟩=>h2 ⟨x,(hmem x).2 (.inr hx),hP⟩⟩
  ·rcases(hmem x).1 hx with h |h
   ·exact ih.ls x h a ha
   ·obtain⟨_,h2,h3⟩:=lsOf_by h;rw[ha]at h2 h3;have h4:=((ih.k a).1 h2).1;refine⟨S[a],zI h4,fun b hb=>?_⟩;rcases h3 with h3 |h3
    ·omega
    ·rw[hb]at h3;obtain⟨⟨t,ht,hlt⟩,_⟩:=(ih.f a b).1 h3;rw[zI h4]at ht;injection ht with ht
     rw[ht];exact hlt
def calld (S:List Td)(n a:ByteArray):List Kd→Option ByteArray
 | []=>none
 |k::r=>if k.fr≠placeI (nmsT S) n then calld S n a r else if a=emp then some k.nm else match k.fs.find? (fun f=>decide (f.fr=attrI S (placeI (nmsT S) n) a))with
  |some f=>some f.nm
  |none=>calld S n a r
theorem calld_K {S:List Td}{n:ByteArray}{T:List Kd}:(calld S n emp T).isSome=true↔hasK T (placeI (nmsT S) n):=by
 induction T with
 |nil=>simp[calld,hasK]
 |cons k r ih=>
  unfold calld;by_cases h:k.fr≠placeI (nmsT S) n
  ·rw[if_pos h,ih];constructor
   ·rintro⟨k',hk,e⟩;exact⟨k',xU _ hk,e⟩
   ·rintro⟨k',hk,e⟩;rcases List.mem_cons.1 hk with rfl |hk
    ·exact absurd e h
    ·exact⟨k',hk,e⟩
  ·rw[if_neg h,if_pos rfl];exact⟨fun _=>⟨k,xS,Classical.not_not.1 h⟩,fun _=>rfl⟩
theorem calld_F {S:List Td}{n a:ByteArray}{T:List Kd}(ha:a≠emp):(calld S n a T).isSome=true↔hasF T (placeI (nmsT S) n) (attrI S (placeI (nmsT S) n) a):=by
 induction T with
 |nil=>simp[calld,hasF]
 |cons k r ih=>
  have hup:hasF r (placeI (nmsT S) n) (attrI S (placeI (nmsT S) n) a)→hasF (k::r) (placeI (nmsT S) n) (attrI S (placeI (nmsT S) n) a):=fun⟨k',hk,e⟩=>⟨k',xU _ hk,e⟩
  unfold calld;by_cases h:k.fr≠placeI (nmsT S) n
  ·rw[if_pos h,ih];refine⟨hup,?_⟩;rintro⟨k',hk,e⟩;rcases List.mem_cons.1 hk with rfl |hk
   ·exact absurd e.1 h
   ·exact⟨k',hk,e⟩
  ·rw[if_neg h,if_neg ha];cases hf:k.fs.find? (fun f=>decide (f.fr=attrI S (placeI (nmsT S) n) a))with
   |some f=>
    have h1:=List.find?_some hf;exact⟨fun _=>⟨k,xS,Classical.not_not.1 h,f,List.mem_of_find?_eq_some hf,by simpa using h1⟩,fun _=>rfl⟩
   |none=>
    simp only;rw[ih];refine⟨hup,?_⟩;rintro⟨k',hk,e1,f,hf2,e2⟩;rcases List.mem_cons.1 hk with rfl |hk
    ·have:=List.find?_eq_none.1 hf f hf2;simp[e2]at this
    ·exact⟨k',hk,e1,f,hf2,e2⟩
structure Ned where
 tys:List ByteArray
 at_:ByteArray
def ofTN (q:Qy)(x:Nd):List Ned:=if x.at_=emp∨x.at_=tsB then []else(q.items.filter fun it=>decide (it.v=x.v)).map fun it=>⟨it.tys,x.at_⟩
def ofTreeN (q:Qy)(t:List Nd):List Ned:=t.flatMap (ofTN q)
def needsN (q:Qy):List Ned:=q.items.flatMap (fun it=>it.tys.map fun n=>⟨[n],emp⟩)++((if q.by_=emp then []else [⟨q.items.flatMap (·.tys),q.by_⟩])++(ofTreeN q q.wh++q.ret.flatMap (ofTreeN q)))
def thereB (S:List Td)(T:List Kd)(N:List Ned):Bool:=N.all fun d=>d.tys.all fun n=>(calld S n d.at_ T).isSome
def alikeB (S:List Td)(T:List Kd)(N:List Ned):Bool:=N.all fun d=>d.tys.all fun n=>decide ((calld S n d.at_ T).getD emp=(calld S (d.tys.headD emp) d.at_ T).getD emp)
def readsB (v a:ByteArray)(x:Nd):Bool:=decide (x.v=v)&&decide (x.at_=a)
def ndsA (q:Qy)(v a:ByteArray):Bool:=decide (q.by_=a)||(q.wh.any (readsB v a)||q.ret.any fun t=>t.any (readsB v a))
def tyNm (S:List Td)(i:Int):ByteArray:=match S[i.toNat]? with |some t=>t.name |none=>emp
def atNm (S:List Td)(i k:Int):ByteArray:=match S[i.toNat]? with |some t=>(match t.attrs[k.toNat]? with |some a=>a |none=>emp)|none=>emp
def concB (S:List Td)(q:Qy)(x:Ls):Bool:=decide (0≤x.ty)&&(decide (x.at_≠ -1)&&q.items.any fun it=>it.tys.any (fun m=>decide (m=tyNm S x.ty))&&(decide (x.at_= -2)||ndsA q it.v (atNm S x.ty x.at_)))
def lostO (S:List Td)(q:Qy)(ls:List Ls):Option Int:=(ls.find? (concB S q)).map (·.by_)
structure QOk (S:List Td)(q:Qy):Prop where
 tys:∀x∈q.items,0<x.tys.length∧∀n∈x.tys,0≤placeI (nmsT S) n
 vars:∀(i j:Nat)(x y:It),q.items[i]? =some x→q.items[j]? =some y→x.v=y.v→i=j
 il:0<q.items.length
 by_:q.by_=emp∨(q.by_≠tsB∧∀x∈q.items,hasB S x.tys q.by_=true)
 nd:∀t,t=q.wh∨t∈q.ret→∀x∈t,x.at_=emp∨∃it∈q.items,it.v=x.v∧hasB S it.tys x.at_=true
theorem placeI_get {l:List ByteArray}{s:ByteArray}(h:0≤placeI l s):∃i:Nat,placeI l s=i∧l[i]? =some s:=by
 unfold placeI at h ⊢;cases hf:l.findIdx? (fun a=>decide (a=s))with
 |none=>rw[hf]at h;simp at h
 |some i=>
  rw[List.findIdx?_eq_some_iff_getElem]at hf;obtain⟨hi,h1,_⟩:=hf;exact⟨i,rfl,by rw[zI hi];simpa using h1⟩
theorem sc_name {S:List Td}(h:scC S=0){a:Nat}{t:Td}(ht:S[a]? =some t):placeI (nmsT S) t.name=a:=by
 have h1:¬(S.length<1∨16<S.length):=fun h1=>by rw[scC_23 h1]at h;omega
 rw[scC_ty (by omega) (by omega)]at h;have h0:=fstC_none h a (zC.1 ht).1;have h2:isNm t.name=true:=by
  cases hn:isNm t.name with
  |true=>rfl
  |false=>rw[tyC_22 ht hn]at h0;omega
 exact Classical.byContradiction fun h3=>by rw[tyC_25 ht h2 h3]at h0;omega
theorem sc_attr {S:List Td}(h:scC S=0){a b:Nat}{t:Td}{s:ByteArray}(ht:S[a]? =some t)(hs:t.attrs[b]? =some s):s≠tsB∧s≠emp∧attrI S a s=b∧b<8:=by
 obtain⟨_,_,hall⟩:=scC_ok h;obtain⟨_,h8,hnm⟩:=hall t (zA ht);have hbl:=(zC.1 hs).1;have h1:¬(S.length<1∨16<S.length):=fun h1=>by rw[scC_23 h1]at h;omega
 have hname:=sc_name h ht;rw[scC_ty (by omega) (by omega)]at h;have h0:=fstC_none h a (zC.1 ht).1;have h2:isNm t.name=true:=(hall t (zA ht)).1;rw[tyC_at ht h2 hname (by omega)]at h0;have h3:=fstC_none h0 b hbl;have h4:=hnm s (zA hs);have h5:s≠tsB:=fun e=>by rw[atC_22 hs (.inr e)]at h3;omega
 have h6:placeI t.attrs s=b:=Classical.byContradiction fun h6=>by rw[atC_25 hs h4 h5 h6]at h3;omega
 refine⟨h5,fun e=>?_,?_,by omega⟩
 ·subst e;by_cases hn:IsNm emp
  ·exact absurd hn.pos (by decide)
  ·rw[isNm_false hn]at h4;cases h4
 ·rw[attrI_at ht h5,h6,if_pos (by omega)]
theorem nm_at {S:List Td}{a:Nat}{t:Td}(ht:S[a]? =some t):tyNm S a=t.name:=by unfold tyNm;rw[Int.toNat_natCast,ht]
theorem atNm_at {S:List Td}{a b:Nat}{t:Td}{s:ByteArray}(ht:S[a]? =some t)(hs:t.attrs[b]? =some s):atNm S a b=s:=by unfold atNm;rw[Int.toNat_natCast,ht];simp only[Int.toNat_natCast,hs]
theorem nms_get {S:List Td}{n:ByteArray}(h:0≤placeI (nmsT S) n):∃(a:Nat)(t:Td),placeI (nmsT S) n=a∧S[a]? =some t∧t.name=n:=by
 obtain⟨a,h1,h2⟩:=placeI_get h;unfold nmsT at h2;rw[zG]at h2;obtain⟨t,ht,e⟩:=xG.1 h2;exact⟨a,t,h1,ht,e⟩
theorem need_ok {S:List Td}{q:Qy}(hS:scC S=0)(hq:QOk S q){d:Ned}(hd:d∈needsN q){n:ByteArray}(hn:n∈d.tys):∃(a:Nat)(t:Td),placeI (nmsT S) n=a∧S[a]? =some t∧t.name=n∧(d.at_=emp∨∃b:Nat,attrI S a d.at_=b∧t.attrs[b]? =some d.at_):=by
 have key:∀(tys:List ByteArray)(at_:ByteArray),n∈tys→0≤placeI (nmsT S) n→hasB S tys at_=true→at_≠tsB→∃(a:Nat)(t:Td),placeI (nmsT S) n=a∧S[a]? =some t∧t.name=n∧(at_=emp∨∃b:Nat,attrI S a at_=b∧t.attrs[b]? =some at_):=fun tys at_ hn h0 hb hts=>by
  obtain⟨a,t,h1,h2,h3⟩:=nms_get h0;refine⟨a,t,h1,h2,h3,.inr ?_⟩;have h4:=xP.1 hb n hn;rw[decide_eq_true_eq,h1,attrI_at h2 hts]at h4;by_cases h5:0≤placeI t.attrs at_∧placeI t.attrs at_<8
  ·obtain⟨b,h6,h7⟩:=placeI_get h5.1;exact⟨b,by rw[attrI_at h2 hts,if_pos h5,h6],h7⟩
  ·rw[if_neg h5]at h4;omega
 have tree:∀t,t=q.wh∨t∈q.ret→d∈ofTreeN q t→∃(a:Nat)(t:Td),placeI (nmsT S) n=a∧S[a]? =some t∧t.name=n∧(d.at_=emp∨∃b:Nat,attrI S a d.at_=b∧t.attrs[b]? =some d.at_):=fun t ht hd=>by
  obtain⟨x,hx,hd⟩:=xF.1 hd;unfold ofTN at hd;split at hd
  ·cases hd
  ·next hne=>
   obtain⟨it,hit,rfl⟩:=List.mem_map.1 hd;obtain⟨hit,hv⟩:=List.mem_filter.1 hit;rcases hq.nd t ht x hx with h |⟨it2,h1,h2,h3⟩
   ·exact absurd (.inl h) hne
   ·have e:it2=it:=by
     obtain⟨i,hi⟩:=zN hit;obtain⟨j,hj⟩:=zN h1;have hij:i=j:=hq.vars i j it it2 hi hj (by rw[h2];exact of_decide_eq_true hv);subst hij;rw[hi]at hj;injection hj with hj;exact hj.symm
    subst e;exact key _ _ hn ((hq.tys _ h1).2 n hn) h3 fun e=>hne (.inr e)
 unfold needsN at hd;rcases zM.1 hd with h |h
 ·obtain⟨it,hit,h⟩:=xF.1 h;obtain⟨m,hm,rfl⟩:=List.mem_map.1 h;rw[xB]at hn;subst hn;obtain⟨a,t,h1,h2,h3⟩:=nms_get ((hq.tys it hit).2 n hm);exact⟨a,t,h1,h2,h3,.inl rfl⟩
 ·rcases zM.1 h with h |h
  ·split at h
   ·cases h
   ·next hne=>
    rw[xB]at h;subst h;obtain⟨it,hit,hn2⟩:=xF.1 hn;rcases hq.by_ with h |⟨h1,h2⟩
    ·exact absurd h hne
    ·exact key it.tys _ hn2 ((hq.tys it hit).2 n hn2) (h2 it hit) h1
  ·rcases zM.1 h with h |h
   ·exact tree _ (.inl rfl) h
   ·obtain⟨t,ht,h⟩:=xF.1 h;exact tree t (.inr ht) h
def Hits (S:List Td)(q:Qy)(x:Ls):Prop:=∃d∈needsN q,∃n∈d.tys,placeI (nmsT S) n=x.ty∧(x.at_= -2∨(d.at_≠emp∧attrI S x.ty d.at_=x.at_))
theorem conc_iff {S:List Td}{q:Qy}(hS:scC S=0)(hq:QOk S q){x:Ls}(hx:∀a:Nat,x.ty=a→∃t,S[a]? =some t∧(∀b:Nat,x.at_=b→b<t.attrs.length))(hx2: -2≤x.at_):concB S q x=true↔Hits S q x:=by
 unfold concB;constructor
 ·intro h;simp only[xK,decide_eq_true_eq]at h;obtain⟨h0,h1,h2⟩:=h;obtain⟨a,ha⟩:∃a:Nat,x.ty=a:=⟨x.ty.toNat,by omega⟩
  obtain⟨t,ht,hb⟩:=hx a ha;obtain⟨it,hit,h3⟩:=xM.1 h2;rw[ha,nm_at ht]at h3;simp only[xK,Bool.or_eq_true,decide_eq_true_eq]at h3;obtain⟨h3,h4⟩:=h3;replace h3:t.name∈it.tys:=by
   obtain⟨m,hm,h3⟩:=xM.1 h3;rw[decide_eq_true_eq]at h3;rw[←h3];exact hm
  have hpl:=sc_name hS ht;by_cases hw:x.at_= -2
  ·refine⟨⟨[t.name],emp⟩,?_,t.name,by simp,by rw[hpl,ha],.inl hw⟩;unfold needsN;exact List.mem_append_left _ (xF.2 ⟨it,hit,List.mem_map.2 ⟨t.name,h3,rfl⟩⟩)
  ·have h4:=h4.resolve_left hw;obtain⟨b,hbb⟩:∃b:Nat,x.at_=b:=⟨x.at_.toNat,by omega⟩
   have hbl:=hb b hbb;have hs:=zI hbl;obtain⟨s1,s2,s3,_⟩:=sc_attr hS ht hs;rw[hbb,atNm_at ht hs]at h4;unfold ndsA at h4;simp only[Bool.or_eq_true,decide_eq_true_eq]at h4;have tree:∀tr,(tr=q.wh∨tr∈q.ret)→tr.any (readsB it.v t.attrs[b])=true→∃d∈ofTreeN q tr,t.name∈d.tys∧d.at_=t.attrs[b]:=fun tr _ hany=>by
    obtain⟨y,hy,hr⟩:=xM.1 hany;unfold readsB at hr;simp only[xK,decide_eq_true_eq]at hr;refine⟨⟨it.tys,y.at_⟩,xF.2 ⟨y,hy,?_⟩,h3,hr.2⟩;unfold ofTN;rw[if_neg (by rw[hr.2];exact fun h=>h.elim s2 s1)];exact List.mem_map.2 ⟨it,List.mem_filter.2 ⟨hit,by simpa using hr.1.symm⟩,rfl⟩
   rcases h4 with h4 |h4 |h4
   ·refine⟨⟨q.items.flatMap (·.tys),q.by_⟩,?_,t.name,xF.2 ⟨it,hit,h3⟩,by rw[hpl,ha],.inr ⟨by rw[h4];exact s2,by rw[ha,h4,s3,hbb]⟩⟩;unfold needsN;refine xN _ (List.mem_append_left _ ?_);rw[if_neg (by rw[h4];exact s2)];simp
   ·obtain⟨d,hd,e1,e2⟩:=tree _ (.inl rfl) h4;refine⟨d,?_,t.name,e1,by rw[hpl,ha],.inr ⟨by rw[e2];exact s2,by rw[ha,e2,s3,hbb]⟩⟩;unfold needsN;exact xN _ (xN _ (List.mem_append_left _ hd))
   ·obtain⟨tr,htr,h5⟩:=xM.1 h4;obtain⟨d,hd,e1,e2⟩:=tree tr (.inr htr) h5;refine⟨d,?_,t.name,e1,by rw[hpl,ha],.inr ⟨by rw[e2];exact s2,by rw[ha,e2,s3,hbb]⟩⟩;unfold needsN;exact xN _ (xN _ (xN _ (xF.2 ⟨tr,htr,hd⟩)))
 ·rintro⟨d,hd,n,hn,e1,e2⟩;obtain⟨a,t,h1,h2,h3,h4⟩:=need_ok hS hq hd hn;have ha:x.ty=a:=by omega
  have hat:x.at_≠ -1:=by
   rcases e2 with e |⟨e,e3⟩
   ·omega
   ·rcases h4 with h4 |⟨b,h4,_⟩
    ·exact absurd h4 e
    ·rw[ha,h4]at e3;omega
  have fin:∀it∈q.items,n∈it.tys→(x.at_= -2∨ndsA q it.v (atNm S x.ty x.at_)=true)→(decide (0≤x.ty)&&(decide (x.at_≠ -1)&&q.items.any fun it=>it.tys.any (fun m=>decide (m=tyNm S x.ty))&&(decide (x.at_= -2)||ndsA q it.v (atNm S x.ty x.at_))))=true:=fun it hit hni hor=>by
   simp only[xK,decide_eq_true_eq];refine⟨by omega,hat,xM.2 ⟨it,hit,?_⟩⟩;rw[ha,nm_at h2,h3]at*;simp only[xK,Bool.or_eq_true,decide_eq_true_eq];exact⟨xM.2 ⟨n,hni,by simp⟩,hor⟩
  have hatn:∀b:Nat,attrI S a d.at_=b→t.attrs[b]? =some d.at_→d.at_≠emp→x.at_= -2∨atNm S x.ty x.at_=d.at_:=fun b hb1 hb2 hne=>by
   rcases e2 with e |⟨_,e3⟩
   ·exact .inl e
   ·rw[ha,hb1]at e3;rw[ha,←e3];exact .inr (atNm_at h2 hb2)
  have tree:∀tr,(tr=q.wh∨tr∈q.ret)→d∈ofTreeN q tr→∃it∈q.items,n∈it.tys∧tr.any (readsB it.v d.at_)=true:=fun tr _ hd=>by
   obtain⟨y,hy,hd⟩:=xF.1 hd;unfold ofTN at hd;split at hd
   ·cases hd
   ·obtain⟨it,hit,rfl⟩:=List.mem_map.1 hd;obtain⟨hit,hv⟩:=List.mem_filter.1 hit;refine⟨it,hit,hn,xM.2 ⟨y,hy,?_⟩⟩;unfold readsB;simp only[xK,decide_eq_true_eq];exact⟨(of_decide_eq_true hv).symm,trivial⟩
  have fint:∀tr,(tr=q.wh∨tr∈q.ret)→d∈ofTreeN q tr→(∀it:It,tr.any (readsB it.v d.at_)=true→ndsA q it.v d.at_=true)→(decide (0≤x.ty)&&(decide (x.at_≠ -1)&&q.items.any fun it=>it.tys.any (fun m=>decide (m=tyNm S x.ty))&&(decide (x.at_= -2)||ndsA q it.v (atNm S x.ty x.at_))))=true:=fun tr htr hdt hk=>by
   obtain⟨it,hit,hni,hany⟩:=tree tr htr hdt;have hne:d.at_≠emp:=by
    obtain⟨y,hy,hd⟩:=xF.1 hdt;unfold ofTN at hd;split at hd
    ·cases hd
    ·next hne=>obtain⟨it,hit,rfl⟩:=List.mem_map.1 hd;exact fun e=>hne (.inl e)
   obtain⟨b,hb1,hb2⟩:=h4.resolve_left hne;refine fin it hit hni ((hatn b hb1 hb2 hne).imp id fun e=>?_);rw[e];exact hk it hany
  unfold needsN at hd;rcases zM.1 hd with h |h
  ·obtain⟨it,hit,h⟩:=xF.1 h;obtain⟨m,hm,rfl⟩:=List.mem_map.1 h;rw[xB]at hn;subst hn;exact fin it hit hm (.inl (e2.resolve_right fun e=>e.1 rfl))
  ·rcases zM.1 h with h |h
   ·split at h
    ·cases h
    ·next hne=>
     rw[xB]at h;subst h;obtain⟨it,hit,hn2⟩:=xF.1 hn;obtain⟨b,hb1,hb2⟩:=h4.resolve_left hne;refine fin it hit hn2 ((hatn b hb1 hb2 hne).imp id fun e=>?_);rw[e];unfold ndsA;simp
   ·rcases zM.1 h with h |h
    ·refine fint _ (.inl rfl) h fun it h=>?_
     unfold ndsA;rw[h];simp
    ·obtain⟨tr,htr,h⟩:=xF.1 h;refine fint tr (.inr htr) h fun it h=>?_
     unfold ndsA;rw[show q.ret.any (fun t=>t.any (readsB it.v d.at_))=true from xM.2 ⟨tr,htr,h⟩];simp
theorem ls_ge {S:List Td}{L:List Cg}:∀{j:Nat},j≤L.length→(∀i,i<j→okAt S L i)→∀x∈lsTo S L j,-2≤x.at_
 |0,_,_,x,hx=>by cases hx
 |j+1,hj,hok,x,hx=>by
  rcases lsTo_mem hx with h |⟨c,hc,h⟩
  ·exact ls_ge (j:=j) (by omega) (fun i hi=>hok i (by omega)) x h
  ·obtain⟨_,_,h3⟩:=lsOf_by h;rcases h3 with h3 |⟨k,hk,_,f,hf,e⟩
   ·omega
   ·have:=((behind (S:=S) (L:=L) (j:=j) (by omega) (fun i hi=>hok i (by omega))).uq.fd k hk).2 f hf;omega
theorem there_iff {S:List Td}{L:List Cg}{q:Qy}(hS:scC S=0)(hq:QOk S q){j:Nat}(hj:j≤L.length)(hok:∀i,i<j→okAt S L i):thereB S (mdTo S L j) (needsN q)=true↔∀x∈lsTo S L j,concB S q x=false:=by
 have hb:=behind hj hok;have hc:∀x∈lsTo S L j,concB S q x=true↔Hits S q x:=fun x hx=>conc_iff hS hq (hb.ls x hx) (ls_ge hj hok x hx)
 constructor
 ·intro h x hx;rw[←Bool.not_eq_true,hc x hx];rintro⟨d,hd,n,hn,e1,e2⟩;have h1:=xP.1 (xP.1 h d hd) n hn;obtain⟨a,t,p1,p2,p3,p4⟩:=need_ok hS hq hd hn;have ha:x.ty=a:=by omega
  by_cases he:d.at_=emp
  ·rw[he,calld_K,p1,hb.k]at h1;rcases e2 with e |⟨e,_⟩
   ·exact h1.2 ⟨x,hx,ha,e⟩
   ·exact e he
  ·obtain⟨b,b1,b2⟩:=p4.resolve_left he;rw[calld_F he,p1,b1,hb.f]at h1;refine h1.2 ⟨x,hx,ha,e2.imp id fun e=>?_⟩;have:=e.2;rw[ha,b1]at this;exact this.symm
 ·intro h;refine xP.2 fun d hd=>xP.2 fun n hn=>?_
  obtain⟨a,t,p1,p2,p3,p4⟩:=need_ok hS hq hd hn;have hno:∀x∈lsTo S L j,¬Hits S q x:=fun x hx hh=>by
   have:=(hc x hx).2 hh;rw[h x hx]at this;cases this
  by_cases he:d.at_=emp
  ·rw[he,calld_K,p1,hb.k];refine⟨(zC.1 p2).1,?_⟩;rintro⟨x,hx,e1,e2⟩;exact hno x hx ⟨d,hd,n,hn,by rw[p1,e1],.inl e2⟩
  ·obtain⟨b,b1,b2⟩:=p4.resolve_left he;rw[calld_F he,p1,b1,hb.f];refine⟨⟨t,p2,(zC.1 b2).1⟩,?_⟩;rintro⟨x,hx,e1,e2⟩;exact hno x hx ⟨d,hd,n,hn,by rw[p1,e1],e2.imp id fun e=>⟨he,by rw[e1,b1,e]⟩⟩
theorem lost_is {S:List Td}{L:List Cg}{q:Qy}(hS:scC S=0)(hq:QOk S q):∀{m:Nat},m≤L.length→(∀i,i<m→okAt S L i)→
  (lostO S q (lsTo S L m)=none∧∀j,j<m→thereB S (mdTo S L (j+1)) (needsN q)=true)∨
  (∃i,i<m∧lostO S q (lsTo S L m)=some (i:Int)∧(∀j,j<i→thereB S (mdTo S L (j+1)) (needsN q)=true)∧thereB S (mdTo S L (i+1)) (needsN q)=false)
 |0,_,_=>.inl ⟨rfl,fun j hj=>by omega⟩
 |m+1,hm,hok=>by
  have ih:=lost_is (m:=m) hS hq (by omega) (fun i hi=>hok i (by omega));obtain⟨c,hc⟩:=getx (l:=L) (i:=m) (by omega);have hls:=lsTo_next (S:=S) hc;have hti:=there_iff (q:=q) hS hq hm hok;have hfa:lostO S q (lsTo S L (m+1))=(lostO S q (lsTo S L m)).or (lostO S q (lsOf (mdTo S L m) c m)):=by
   unfold lostO;rw[←hls,List.find?_append];cases(lsTo S L m).find? (concB S q)<;>rfl
  rcases ih with⟨h1,h2⟩|⟨i,h1,h2,h3,h4⟩
  ·rw[h1]at hfa;have h1':∀x∈lsTo S L m,concB S q x=false:=fun x hx=>by
    unfold lostO at h1;rw[Option.map_eq_none_iff,List.find?_eq_none]at h1;simpa using h1 x hx
   cases hl:(lsOf (mdTo S L m) c m).find? (concB S q)with
   |none=>
    refine .inl ⟨by rw[hfa];unfold lostO;rw[hl];rfl,fun j hj=>?_⟩;by_cases e:j=m
    ·subst e;rw[hti];intro x hx;rw[←hls]at hx;rcases zM.1 hx with h |h
     ·exact h1' x h
     ·have:=List.find?_eq_none.1 hl x h;simpa using this
    ·exact h2 j (by omega)
   |some y=>
    have hy:=List.mem_of_find?_eq_some hl;have hyc:=List.find?_some hl;refine .inr ⟨m,by omega,by rw[hfa];unfold lostO;rw[hl];show some y.by_=_;rw[(lsOf_by hy).1],h2,?_⟩;rw[←Bool.not_eq_true,hti];intro h;have:=h y (by rw[←hls];exact xN _ hy);rw[hyc]at this;cases this
  ·exact .inr ⟨i,by omega,by rw[hfa,h2];rfl,h3,h4⟩
end Go.Proofs.YtfiodnlgiglhfaaGreatDoor
