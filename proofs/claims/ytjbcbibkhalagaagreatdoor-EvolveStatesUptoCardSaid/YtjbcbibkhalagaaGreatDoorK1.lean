/- What changes leave of the first schema's types. -/
import Derived.Test.YtjbcbibkhalagaaGreatDoorW3
import Derived.Test.YtjbcbibkhalagaaGreatDoorD7
namespace Go.Proofs.YtjbcbibkhalagaaGreatDoor
set_option maxRecDepth 100000
set_option maxHeartbeats 16000000
open Proofs.Tryz Go.RowKit Go.Deep
set_option linter.unusedVariables false
set_option linter.unusedSimpArgs false
def Hg (a b:Int):Prop:=0<=a->a≠b
theorem Hg.symm {a b}(h:Hg a b):Hg b a:=λhb e=>h oQ e.symm
def Y2 (l:List Fd):Prop:=(l.map (·.fr)).Pairwise Hg/\∀f∈l,-1<=f.fr
structure Jc (T:List Kd):Prop where
 kd:(T.map (·.fr)).Pairwise Hg
 fd:∀k∈T,Y2 k.fs
def ny (T:List Kd)(a:Int):Prop:=∃k∈T,k.fr=a
def mH (T:List Kd)(a b:Int):Prop:=∃k∈T,k.fr=a/\∃f∈k.fs,f.fr=b
theorem Dj {l n}:∀(m:Nat),l=(List.range' m n).map (λi:Nat=>(i:Int))->l.Pairwise Hg:=by
 intro m h;subst h;rw[List.pairwise_map];exact(List.pairwise_lt_range' (s:=m) (n:=n)).imp λh _ e=>by omega
theorem uE (l):(e9 l).map (·.fr)=(List.range' 0 l.length).map (λi:Nat=>(i:Int)):=by
 apply List.ext_getElem?;intro i;unfold e9;rw[zG,xQ,zG];by_cases h:i<l.length
 .rw[zI h,zI (by simpa using h)];simp
 .rw[xO oQ,xO (by simpa using h)];rfl
theorem QM (S):(fu S).map (·.fr)=(List.range' 0 S.length).map (λi:Nat=>(i:Int)):=by
 apply List.ext_getElem?;intro i;unfold fu;rw[zG,xQ,zG];by_cases h:i<S.length
 .rw[zI h,zI (by simpa using h)];simp
 .rw[xO oQ,xO (by simpa using h)];rfl
theorem vu {S k}(h:k∈fu S):∃(i:Nat)(t:Td),S[i]? =some t/\k=⟨t.name,i,e9 t.attrs⟩:=by
 obtain⟨i,hi⟩:=zN h;unfold fu at hi;rw[xQ]at hi;cases ht:S[i]? with
 |none=>rw[ht]at hi;cases hi
 |some t=>rw[ht]at hi;injection hi with hi;exact⟨i,t,ht,hi.symm⟩
theorem U5 (S):Jc (fu S):=by
 refine⟨Dj 0 (QM S),λk hk=>?_⟩;obtain⟨i,t,_,rfl⟩:=vu hk;refine⟨Dj 0 (uE t.attrs),λf hf=>?_⟩;have h2:f.fr∈(e9 t.attrs).map (·.fr):=xJ hf;rw[uE,List.mem_map]at h2;obtain⟨j,_,e3⟩:=h2;omega
theorem QN {S}{a:Nat}:ny (fu S) a<->a<S.length:=by
 constructor
 .rintro⟨k,hk,e⟩;obtain⟨i,t,ht,rfl⟩:=vu hk;have:=(zC.1 ht).1;simp only at e;omega
 .intro h;exact⟨⟨S[a].name,a,e9 S[a].attrs⟩,zA (i:=a) (by unfold fu;rw[xQ,zI h];rfl),rfl⟩
theorem Mb {S}{a b:Nat}:mH (fu S) a b<->∃t,S[a]? =some t/\b<t.attrs.length:=by
 constructor
 .rintro⟨k,hk,e,f,hf,e2⟩;obtain⟨i,t,ht,rfl⟩:=vu hk;simp only at e;obtain rfl:i=a:=oQ;refine⟨t,ht,?_⟩;have h2:f.fr∈(e9 t.attrs).map (·.fr):=xJ hf;rw[uE,List.mem_map]at h2;obtain⟨j,hj,e3⟩:=h2;rw[List.mem_range'_1]at hj;omega
 .rintro⟨t,ht,hb⟩;have h2:(b:Int)∈(e9 t.attrs).map (·.fr):=by
   rw[uE,List.mem_map];exact⟨b,by rw[List.mem_range'_1];omega,rfl⟩
  obtain⟨f,hf,e⟩:=List.mem_map.1 h2;exact⟨⟨t.name,a,e9 t.attrs⟩,zA (i:=a) (by unfold fu;rw[xQ,ht];rfl),rfl,f,hf,e⟩
theorem Dk {l:List Int}{i}(h:l.Pairwise Hg):(l.eraseIdx i).Pairwise Hg:=h.sublist (List.eraseIdx_sublist l i)
theorem yt {α:Type}(f:α->Int)(l:List α)(i):(l.eraseIdx i).map f=(l.map f).eraseIdx i:=by
 apply List.ext_getElem?;intro j;rw[zG,List.getElem?_eraseIdx,List.getElem?_eraseIdx,zG,zG];split<;>rfl
theorem mem_erase {α:Type}{f}{l:List α}{i x}(hu:(l.map f).Pairwise Hg)(hx:l[i]? =some x){a}(ha:0<=a){P:α->Prop}:(∃y∈l.eraseIdx i,f y=a/\P y)<->(∃y∈l,f y=a/\P y)/\f x≠a:=by
 have hi:=(zC.1 hx).1;rw[List.pairwise_iff_getElem]at hu;have uR:∀(j:Nat) y,l[j]? =some y->f y=a->f x=a->j=i:=λj y hy e1 e2=>by
  have hj:=(zC.1 hy).1;have gx:(l.map f)[i]'(by simpa using hi)=f x:=by rw[List.getElem_map];congr 1;exact(zC.1 hx).2
  have gy:(l.map f)[j]'(by simpa using hj)=f y:=by rw[List.getElem_map];congr 1;exact(zC.1 hy).2
  rcases Nat.lt_trichotomy j i with h |h |h
  .exact absurd (show f y=f x by omega) (by rw[<-gx,<-gy];exact hu j i _ _ h (by rw[gy];omega))
  .exact h
  .exact absurd (show f x=f y by omega) (by rw[<-gx,<-gy];exact hu i j _ _ h (by rw[gx];omega))
 constructor
 .rintro⟨y,hy,e,hP⟩;rw[List.mem_eraseIdx_iff_getElem?]at hy;obtain⟨j,sQ,hj⟩:=hy;exact⟨⟨y,zA hj,e,hP⟩,λe2=>sQ (uR j y hj e e2)⟩
 .rintro⟨⟨y,hy,e,hP⟩,hne⟩;obtain⟨j,hj⟩:=zN hy;refine⟨y,?_,e,hP⟩;rw[List.mem_eraseIdx_iff_getElem?];refine⟨j,λh=>hne ?_,hj⟩;rw[h,hx]at hj;injection hj with hj
  rw[hj];exact e
theorem nA {l i x x'}(hx:l[i]? =some x)(hf:x'.fr=x.fr){a}:ny (l.set i x') a<->ny l a:=by
 constructor
 .rintro⟨y,hy,e⟩;rcases iW hy with h |rfl
  .exact⟨y,h,e⟩
  .exact⟨x,zA hx,oQ⟩
 .rintro⟨y,hy,e⟩;obtain⟨j,hj⟩:=zN hy;by_cases h:i=j
  .subst h;rw[hx]at hj;injection hj with hj;subst hj
   exact⟨x',zA (i:=i) (by rw[xL,if_pos rfl,if_pos (zC.1 hx).1]),oQ⟩
  .exact⟨y,zA (i:=j) (by rw[xL,if_neg h];exact hj),e⟩
theorem Mc {l:List Kd}(hu:(l.map (·.fr)).Pairwise Hg){i j:Nat}{x y}(hx:l[i]? =some x)(hy:l[j]? =some y)(h0:0<=x.fr)(he:y.fr=x.fr):i=j:=by
 rw[List.pairwise_iff_getElem]at hu;have hi:=(zC.1 hx).1;have hj:=(zC.1 hy).1;have gx:(l.map (·.fr))[i]'(by simpa using hi)=x.fr:=by rw[List.getElem_map];congr 1;exact(zC.1 hx).2
 have gy:(l.map (·.fr))[j]'(by simpa using hj)=y.fr:=by rw[List.getElem_map];congr 1;exact(zC.1 hy).2
 rcases Nat.lt_trichotomy i j with h |h |h
 .exact absurd (show x.fr=y.fr by omega) (by rw[<-gx,<-gy];exact hu i j _ _ h (by rw[gx];omega))
 .exact h
 .exact absurd (show y.fr=x.fr by omega) (by rw[<-gx,<-gy];exact hu j i _ _ h (by rw[gy];omega))
theorem qD {l i x x'}(hu:(l.map (·.fr)).Pairwise Hg)(hx:l[i]? =some x)(hf:x'.fr=x.fr){a b}(ha:0<=a):mH (l.set i x') a b<->if x.fr=a then(∃f∈x'.fs,f.fr=b)else mH l a b:=by
 have iT:=(zC.1 hx).1;have hm:x'∈l.set i x':=zA (i:=i) (by rw[xL,if_pos rfl,if_pos iT]);by_cases h:x.fr=a
 .rw[if_pos h];constructor
  .rintro⟨y,hy,e,hP⟩;obtain⟨j,hj⟩:=zN hy;rw[xL]at hj;by_cases dE:i=j
   .subst dE;rw[if_pos rfl,if_pos iT]at hj;injection hj with hj;subst hj;exact hP
   .rw[if_neg dE]at hj;exact absurd (Mc hu hx hj oQ oQ) dE
  .intro hP;exact⟨x',hm,oQ,hP⟩
 .rw[if_neg h];constructor
  .rintro⟨y,hy,e,hP⟩;rcases iW hy with h2 |rfl
   .exact⟨y,h2,e,hP⟩
   .omega
  .rintro⟨y,hy,e,hP⟩;obtain⟨j,hj⟩:=zN hy;by_cases dE:i=j
   .subst dE;rw[hx]at hj;injection hj with hj;subst hj
    exact absurd e h
   .exact⟨y,zA (i:=j) (by rw[xL,if_neg dE];exact hj),e,hP⟩
theorem sR {l}{i:Nat}{x}(hu:(l.map (·.fr)).Pairwise Hg)(hx:l[i]? =some x){b}(ha:0<=x.fr):mH l x.fr b<->∃f∈x.fs,f.fr=b:=by
 constructor
 .rintro⟨y,hy,e,hP⟩;obtain⟨j,hj⟩:=zN hy;obtain rfl:=Mc hu hx hj ha e;rw[hx]at hj;injection hj with hj;subst hj
  exact hP
 .intro hP;exact⟨x,zA hx,rfl,hP⟩
theorem FL {l i x x'}(h:Jc l)(hx:l[i]? =some x)(hf:x'.fr=x.fr)(hu:Y2 x'.fs):Jc (l.set i x'):=by
 refine⟨?_,λk hk=>?_⟩
 .rw[List.map_set,hf];have:(l.map (·.fr)).set i x.fr=l.map (·.fr):=by
   apply List.ext_getElem?;intro j;rw[xL];by_cases dE:i=j
   .subst dE;rw[if_pos rfl,zG,hx,if_pos (by simpa using (zC.1 hx).1)];rfl
   .rw[if_neg dE]
  rw[this];exact h.kd
 .rcases iW hk with h2 |rfl
  .exact h.fd k h2
  .exact hu
theorem Hh {l}(h:l.Pairwise Hg){a}(ha:a<0):(l++[a]).Pairwise Hg:=by
 rw[List.pairwise_append];refine⟨h,List.pairwise_singleton _ _,λx hx y hy h0 e=>?_⟩;rw[xB]at hy;omega
theorem AG {l k n x}(hx:l[k]? =some x):(yu l k n).Perm l:=by
 obtain⟨hk,e⟩:=zC.1 hx;unfold yu;rw[hx];show((l.eraseIdx k).take n++([x]++(l.eraseIdx k).drop n)).Perm l
 have h1:((l.eraseIdx k).take n++([x]++(l.eraseIdx k).drop n)).Perm (x::l.eraseIdx k):=by
  rw[<-zR];have h2:((l.eraseIdx k).take n++[x]).Perm ([x]++(l.eraseIdx k).take n):=List.perm_append_comm;have h3:=h2.append_right ((l.eraseIdx k).drop n);rw[zR [x],List.take_append_drop]at h3;exact h3
 have h4:l=l.take k++x::l.drop (k+1):=by
  rw[<-e,<-List.drop_eq_getElem_cons hk,List.take_append_drop]
 have h5:l.eraseIdx k=l.take k++l.drop (k+1):=List.eraseIdx_eq_take_drop_succ l k;have h6:(l.take k++x::l.drop (k+1)).Perm (x::(l.take k++l.drop (k+1))):=List.perm_middle;rw[<-h4,<-h5]at h6;exact h1.trans h6.symm
structure Left (T T':List Kd)(D:List Ls):Prop where
 uq:Jc T'
 k:∀a:Nat,ny T' a<->ny T a/\¬∃x∈D,x.ty=a/\x.at_= -2
 f:∀a b:Nat,mH T' a b<->mH T a b/\¬∃x∈D,x.ty=a/\(x.at_= -2\/x.at_=b)
theorem agm {P:Ls->Prop}:¬∃x∈([]:List Ls),P x:=sJ
theorem Left.same {T T'}(hu:Jc T')(h1:∀a:Nat,ny T' a<->ny T a)(h2:∀a b:Nat,mH T' a b<->mH T a b):Left T T' []:=
 ⟨hu,λa=>by rw[h1];simp,λa b=>by rw[h2];simp⟩
theorem Hj {l:List Fd}{k x s}(hx:l[k]? =some x):(l.set k {x with nm:=s}).map (·.fr)=l.map (·.fr):=by
 apply List.ext_getElem?;intro j;rw[zG,zG,xL];by_cases dE:k=j
 .subst dE;rw[if_pos rfl,if_pos (zC.1 hx).1,hx];rfl
 .rw[if_neg dE]
theorem Y3 {l l':List Fd}(h:l'.map (·.fr)=l.map (·.fr))(b):(∃f∈l',f.fr=b)<->∃f∈l,f.fr=b:=by
 have h1:∀m:List Fd,(∃f∈m,f.fr=b)<->b∈m.map (·.fr):=λm=>by rw[List.mem_map]
 rw[h1,h1,h]
theorem QO {T T' c}(h:l6 T c=some T'):(c.kd=1/\T'=T++[lS c])\/
  ∃i p,eu T c.ty=some i/\T[i]? =some p/\((c.kd=2/\T'=T.eraseIdx i)\/(c.kd=3/\T'=T.set i {p with nm:=c.nm})\/(4<=c.kd/\c.kd<=7/\∃fs,jx p.fs c=some fs/\T'=T.set i {p with fs:=fs})):=by
 unfold l6 at h;by_cases h1:c.kd=1
 .rw[if_pos h1]at h;injection h with h;exact .inl ⟨h1,h.symm⟩
 rw[if_neg h1]at h;by_cases h2:2<=c.kd/\c.kd<=7
 .rw[if_pos h2]at h;cases ht:eu T c.ty with
  |none=>rw[ht]at h;cases h
  |some i=>
   rw[ht]at h;simp only at h;obtain⟨p,hp⟩:=av (lC ht);refine .inr ⟨i,p,rfl,hp,?_⟩;by_cases h3:c.kd=2
   .rw[if_pos h3]at h;injection h with h;exact .inl ⟨h3,h.symm⟩
   rw[if_neg h3]at h;by_cases h4:c.kd=3
   .rw[if_pos h4]at h;injection h with h;exact .inr (.inl ⟨h4,by rw[<-h,pz hp]⟩)
   rw[if_neg h4,hp]at h;simp only at h;cases hc:jx p.fs c with
   |none=>rw[hc]at h;cases h
   |some fs=>rw[hc]at h;injection h with h;exact .inr (.inr ⟨oQ,h2.2,fs,rfl,h.symm⟩)
 .rw[if_neg h2]at h;cases h
theorem QP {l fs c}(h4:4<=c.kd)(h7:c.kd<=7)(h:jx l c=some fs):(c.kd=4/\fs=l++[⟨c.nm,-1,c.n⟩])\/
  ∃k x,iB l c.at_=some k/\l[k]? =some x/\((c.kd=5/\fs=l.eraseIdx k)\/(c.kd=6/\fs=l.set k {x with nm:=c.nm})\/(c.kd=7/\fs=yu l k c.n.toNat)):=by
 unfold jx at h;by_cases h1:c.kd=4
 .rw[if_pos h1]at h;injection h with h;exact .inl ⟨h1,h.symm⟩
 rw[if_neg h1]at h;cases hf:iB l c.at_ with
 |none=>rw[hf]at h;cases h
 |some k=>
  rw[hf]at h;simp only at h;obtain⟨x,hx⟩:=av (uF hf);refine .inr ⟨k,x,rfl,hx,?_⟩;by_cases h5:c.kd=5
  .rw[if_pos h5]at h;injection h with h;exact .inl ⟨h5,h.symm⟩
  rw[if_neg h5]at h;by_cases h6:c.kd=6
  .rw[if_pos h6]at h;injection h with h;exact .inr (.inl ⟨h6,by rw[<-h,pz hx]⟩)
  rw[if_neg h6]at h;split at h
  .injection h with h;exact .inr (.inr ⟨oQ,h.symm⟩)
  .cases h
theorem Md {l m a}:ny (l++m) a<->ny l a\/ny m a:=by
 unfold ny;constructor
 .rintro⟨k,hk,e⟩;rcases zM.1 hk with h |h
  .exact .inl ⟨k,h,e⟩
  .exact .inr ⟨k,h,e⟩
 .rintro(⟨k,hk,e⟩|⟨k,hk,e⟩)
  .exact⟨k,List.mem_append_left _ hk,e⟩
  .exact⟨k,xN _ hk,e⟩
theorem Me {l m a b}:mH (l++m) a b<->mH l a b\/mH m a b:=by
 unfold mH;constructor
 .rintro⟨k,hk,e⟩;rcases zM.1 hk with h |h
  .exact .inl ⟨k,h,e⟩
  .exact .inr ⟨k,h,e⟩
 .rintro(⟨k,hk,e⟩|⟨k,hk,e⟩)
  .exact⟨k,List.mem_append_left _ hk,e⟩
  .exact⟨k,xN _ hk,e⟩
theorem Hk {c}{a:Nat}:¬ny [lS c] a:=by
 rintro⟨k,hk,e⟩;rw[xB]at hk;subst hk;have:(lS c).fr= -1:=rfl;omega
theorem AH {T c au i p fs}(hu:Jc T)(hp:T[i]? =some p)(huf:Y2 fs)(hD:iX T c au=[])(hf:0<=p.fr->∀b:Nat,(∃f∈fs,f.fr=(b:Int))<->∃f∈p.fs,f.fr=(b:Int)):Left T (T.set i {p with fs:=fs}) (iX T c au):=by
 rw[hD];refine .same (FL hu hp rfl huf) (λa=>nA (x':={p with fs:=fs}) hp rfl) λa b=>?_
 rw[qD (x':={p with fs:=fs}) (a:=(a:Int)) hu.kd hp rfl oQ];by_cases h:p.fr=(a:Int)
 .rw[if_pos h,hf oQ,<-h,sR hu.kd hp oQ]
 .rw[if_neg h]
theorem QQ {T T' c}(au)(hu:Jc T)(h:l6 T c=some T'):Left T T' (iX T c au):=by
 rcases QO h with⟨h1,rfl⟩|⟨i,p,ht,hp,hc⟩
 .rw[iO oQ oQ];refine .same ⟨?_,?_⟩ (λa=>?_) λa b=>?_
  .rw[xR];exact Hh hu.kd (show(lS c).fr<0 from by show(-1:Int)<0;omega)
  .intro k hk;rcases zM.1 hk with h2 |h2
   .exact hu.fd k h2
   .rw[xB]at h2;subst h2;unfold Y2 lS;refine⟨?_,λf hf=>?_⟩
    .rw[List.map_map,List.pairwise_map];exact List.pairwise_of_forall λ_ _ h0=>by simp at h0
    .obtain⟨a,_,rfl⟩:=List.mem_map.1 hf;show(-1:Int)<= -1
     omega
  .rw[Md];exact⟨λh=>h.resolve_right Hk,.inl⟩
  .rw[Me];refine⟨λh=>h.resolve_right λ⟨k,hk,e,_⟩=>Hk ⟨k,hk,e⟩,.inl⟩
 rcases hc with⟨h2,rfl⟩|⟨h3,rfl⟩|⟨h4,h7,fs,hf,rfl⟩
 .rw[Mf h2 ht hp];refine⟨⟨?_,λk hk=>hu.fd k (List.mem_of_mem_eraseIdx hk)⟩,λa=>?_,λa b=>?_⟩
  .rw[yt];exact Dk hu.kd
  .have:=mem_erase (P:=λ_=>True) hu.kd hp (a:=(a:Int)) oQ;simp only[and_true]at this;unfold ny;rw[this];simp
  .unfold mH;rw[mem_erase (P:=λk:Kd=>∃f∈k.fs,f.fr=(b:Int)) hu.kd hp (a:=(a:Int)) oQ];simp
 .rw[iO oQ oQ];refine .same (FL hu hp rfl (hu.fd p (zA hp))) (λa=>nA (x':={p with nm:=c.nm}) hp rfl) λa b=>?_
  rw[qD (x':={p with nm:=c.nm}) (a:=(a:Int)) hu.kd hp rfl oQ];by_cases h:p.fr=(a:Int)
  .rw[if_pos h,<-h,sR hu.kd hp oQ]
  .rw[if_neg h]
 .have cY:=hu.fd p (zA hp);rcases QP h4 h7 hf with⟨k4,rfl⟩|⟨k,x,hk,hx,hcc⟩
  .refine AH hu hp ?_ (iO oQ oQ) λ_ b=>?_
   .refine⟨?_,λf hf=>?_⟩
    .rw[xR];exact Hh cY.1 (show(-1:Int)<0 by omega)
    .rcases zM.1 hf with h2 |h2
     .exact cY.2 f h2
     .rw[xB]at h2;subst h2;show(-1:Int)<= -1
      omega
   .constructor
    .rintro⟨f,hf,e⟩;rcases zM.1 hf with h2 |h2
     .exact⟨f,h2,e⟩
     .rw[xB]at h2;subst h2;simp only at e;omega
    .rintro⟨f,hf,e⟩;exact⟨f,List.mem_append_left _ hf,e⟩
  .rcases hcc with⟨k5,rfl⟩|⟨k6,rfl⟩|⟨k7,rfl⟩
   .rw[Mg k5 ht hp hk hx];have huf:Y2 (p.fs.eraseIdx k):=⟨by rw[yt];exact Dk cY.1,λf hf=>cY.2 f (List.mem_of_mem_eraseIdx hf)⟩;have oL:=cY.2 x (zA hx);refine⟨FL hu hp rfl huf,λa=>?_,λa b=>?_⟩
    .rw[nA (x':={p with fs:=p.fs.eraseIdx k}) hp rfl];constructor
     .intro h2;refine⟨h2,?_⟩;rintro⟨y,hy,e1,e2⟩;rw[xB]at hy;subst hy;simp only at e2;omega
     .exact λh2=>h2.1
    .rw[qD (x':={p with fs:=p.fs.eraseIdx k}) (a:=(a:Int)) hu.kd hp rfl oQ];by_cases h:p.fr=(a:Int)
     .have h2:=mem_erase (P:=λ_=>True) cY.1 hx (a:=(b:Int)) oQ;simp only[and_true]at h2;rw[if_pos h,h2,<-h,sR hu.kd hp oQ];constructor
      .rintro⟨h3,h4⟩;refine⟨h3,?_⟩;rintro⟨y,hy,e1,e2⟩;rw[xB]at hy;subst hy;simp only at e2;omega
      .rintro⟨h3,h4⟩;exact⟨h3,λe=>h4 ⟨_,xB.2 rfl,rfl,.inr e⟩⟩
     .rw[if_neg h];refine⟨λh2=>⟨h2,?_⟩,λh2=>h2.1⟩;rintro⟨y,hy,e1,e2⟩;rw[xB]at hy;subst hy;exact h e1
   .refine AH hu hp ?_ (iO oQ oQ) λ_ b=>Y3 (Hj hx) b
    refine⟨by rw[Hj hx];exact cY.1,λf hf=>?_⟩;rcases iW hf with h2 |rfl
    .exact cY.2 f h2
    .exact cY.2 x (zA hx)
   .refine AH hu hp ?_ (iO oQ oQ) λ_ b=>?_
    .exact⟨(List.Perm.pairwise_iff (λh=>h.symm) ((AG hx).map _)).2 cY.1,λf hf=>cY.2 f ((AG hx).mem_iff.1 hf)⟩
    .have:=(AG (n:=c.n.toNat) hx);exact⟨λ⟨f,hf,e⟩=>⟨f,this.mem_iff.1 hf,e⟩,λ⟨f,hf,e⟩=>⟨f,this.mem_iff.2 hf,e⟩⟩
theorem Mh {S L k x}(h:x∈dr S L (k+1)):x∈dr S L k\/∃c,L[k]? =some c/\x∈iX (aD S L k) c k:=by
 have h2:x∈dr S L k++_:=h;rcases zM.1 h2 with h3 |h3
 .exact .inl h3
 .split at h3
  .exact .inr ⟨_,by assumption,h3⟩
  .cases h3
theorem AJ {T c b x}(h:x∈iX T c b):x.au=b/\ny T x.ty/\(x.at_= -2\/mH T x.ty x.at_):=by
 unfold iX at h;split at h
 .cases h
 .split at h
  .cases h
  .next p hp=>
   have fe:=zA hp;by_cases h2:c.kd=2
   .rw[if_pos h2,xB]at h;subst h;exact⟨rfl,⟨p,fe,rfl⟩,.inl rfl⟩
   .rw[if_neg h2]at h;by_cases h5:c.kd=5
    .rw[if_pos h5]at h;split at h
     .cases h
     .split at h
      .cases h
      .next x' hx=>
       rw[xB]at h;subst h;exact⟨rfl,⟨p,fe,rfl⟩,.inr ⟨p,fe,rfl,x',zA hx,rfl⟩⟩
    .rw[if_neg h5]at h;cases h
structure Behind (S:List Td)(L:List Cg)(j:Nat):Prop where
 uq:Jc (aD S L j)
 k:∀a:Nat,ny (aD S L j) a<->a<S.length/\¬∃x∈dr S L j,x.ty=a/\x.at_= -2
 f:∀a b:Nat,mH (aD S L j) a b<->(∃t,S[a]? =some t/\b<t.attrs.length)/\¬∃x∈dr S L j,x.ty=a/\(x.at_= -2\/x.at_=b)
 ls:∀x∈dr S L j,∀a:Nat,x.ty=a->∃t,S[a]? =some t/\(∀b:Nat,x.at_=b->b<t.attrs.length)
theorem behind {S L}:∀{j:Nat},j<=L.length->(∀i,i<j->eH S L i)->Behind S L j
 |0,_,_=>by
  refine⟨U5 S,λa=>?_,λa b=>?_,λx hx=>?_⟩
  .show ny (fu S) a<->a<S.length/\¬∃x∈[],_
   rw[QN];simp
  .show mH (fu S) a b<->_/\¬∃x∈[],_
   rw[Mb];simp
  .cases hx
 |j+1,hj,cK=>by
  have ih:=behind (S:=S) (L:=L) (j:=j) oQ (λi hi=>cK i oQ);obtain⟨c,l,hc,hch,_⟩:=cK j oQ;have hl:=QQ (j:Int) ih.uq hch;have pP:∀x,x∈dr S L (j+1)<->x∈dr S L j\/x∈iX (aD S L j) c j:=λx=>by rw[<-sS hc,zM]
  have hm:=mI hc hch;rw[<-hm]at hl;refine⟨hl.uq,λa=>?_,λa b=>?_,λx hx a ha=>?_⟩
  .rw[hl.k,ih.k];constructor
   .rintro⟨⟨h1,h2⟩,h3⟩;refine⟨h1,?_⟩;rintro⟨x,hx,hP⟩;rcases(pP x).1 hx with h |h
    .exact h2 ⟨x,h,hP⟩
    .exact h3 ⟨x,h,hP⟩
   .rintro⟨h1,h2⟩;exact⟨⟨h1,λ⟨x,hx,hP⟩=>h2 ⟨x,(pP x).2 (.inl hx),hP⟩⟩,λ⟨x,hx,hP⟩=>h2 ⟨x,(pP x).2 (.inr hx),hP⟩⟩
  .rw[hl.f,ih.f];constructor
   .rintro⟨⟨h1,h2⟩,h3⟩;refine⟨h1,?_⟩;rintro⟨x,hx,hP⟩;rcases(pP x).1 hx with h |h
    .exact h2 ⟨x,h,hP⟩
    .exact h3 ⟨x,h,hP⟩
   .rintro⟨h1,h2⟩;exact⟨⟨h1,λ⟨x,hx,hP⟩=>h2 ⟨x,(pP x).2 (.inl hx),hP⟩⟩,λ⟨x,hx,hP⟩=>h2 ⟨x,(pP x).2 (.inr hx),hP⟩⟩
  .rcases(pP x).1 hx with h |h
   .exact ih.ls x h a ha
   .obtain⟨_,h2,h3⟩:=AJ h;rw[ha]at h2 h3;have h4:=((ih.k a).1 h2).1;refine⟨S[a],zI h4,λb hb=>?_⟩;rcases h3 with h3 |h3
    .omega
    .rw[hb]at h3;obtain⟨⟨t,ht,hlt⟩,_⟩:=(ih.f a b).1 h3;rw[zI h4]at ht;injection ht with ht
     rw[ht];exact hlt
def aF (S:List Td)(n a:ByteArray):List Kd->Option ByteArray
 | []=>none
 |k::r=>if k.fr≠aj (aY S) n then aF S n a r else if a=emp then some k.nm else match k.fs.find? (λf=>decide (f.fr=bG S (aj (aY S) n) a))with
  |some f=>some f.nm
  |none=>aF S n a r
theorem Hl {S n T}:(aF S n emp T).isSome=true<->ny T (aj (aY S) n):=by
 induction T with
 |nil=>simp[aF,ny]
 |cons k r ih=>
  unfold aF;by_cases h:k.fr≠aj (aY S) n
  .rw[if_pos h,ih];constructor
   .rintro⟨k',hk,e⟩;exact⟨k',xU _ hk,e⟩
   .rintro⟨k',hk,e⟩;rcases List.mem_cons.1 hk with rfl |hk
    .exact absurd e h
    .exact⟨k',hk,e⟩
  .rw[if_neg h,if_pos rfl];exact⟨λ_=>⟨k,xS,Classical.not_not.1 h⟩,λ_=>rfl⟩
theorem AE {S n a T}(ha:a≠emp):(aF S n a T).isSome=true<->mH T (aj (aY S) n) (bG S (aj (aY S) n) a):=by
 induction T with
 |nil=>simp[aF,mH]
 |cons k r ih=>
  have cY:mH r (aj (aY S) n) (bG S (aj (aY S) n) a)->mH (k::r) (aj (aY S) n) (bG S (aj (aY S) n) a):=λ⟨k',hk,e⟩=>⟨k',xU _ hk,e⟩
  unfold aF;by_cases h:k.fr≠aj (aY S) n
  .rw[if_pos h,ih];refine⟨cY,?_⟩;rintro⟨k',hk,e⟩;rcases List.mem_cons.1 hk with rfl |hk
   .exact absurd e.1 h
   .exact⟨k',hk,e⟩
  .rw[if_neg h,if_neg ha];cases hf:k.fs.find? (λf=>decide (f.fr=bG S (aj (aY S) n) a))with
   |some f=>
    have h1:=List.find?_some hf;exact⟨λ_=>⟨k,xS,Classical.not_not.1 h,f,List.mem_of_find?_eq_some hf,by simpa using h1⟩,λ_=>rfl⟩
   |none=>
    simp only;rw[ih];refine⟨cY,?_⟩;rintro⟨k',hk,e1,f,PL,e2⟩;rcases List.mem_cons.1 hk with rfl |hk
    .have:=List.find?_eq_none.1 hf f PL;simp[e2]at this
    .exact⟨k',hk,e1,f,PL,e2⟩
structure py where
 ah:List ByteArray
 at_:ByteArray
def kD (q:Qy)(x:Nd):List py:=if x.at_=emp\/x.at_=jk then []else(q.items.filter λit=>decide (it.v=x.v)).map λit=>⟨it.ah,x.at_⟩
def aA (q:Qy)(t:List Nd):List py:=t.flatMap (kD q)
def aI (q:Qy):List py:=q.items.flatMap (λit=>it.ah.map λn=>⟨[n],emp⟩)++((if q.au=emp then []else [⟨q.items.flatMap (·.ah),q.au⟩])++(aA q q.wh++q.ret.flatMap (aA q)))
def dp (S:List Td)(T:List Kd)(N:List py):Bool:=N.all λd=>d.ah.all λn=>(aF S n d.at_ T).isSome
def bW (S:List Td)(T:List Kd)(N:List py):Bool:=N.all λd=>d.ah.all λn=>decide ((aF S n d.at_ T).getD emp=(aF S (d.ah.headD emp) d.at_ T).getD emp)
def cQ (v a:ByteArray)(x:Nd):Bool:=decide (x.v=v)&&decide (x.at_=a)
def pU (q:Qy)(v a:ByteArray):Bool:=decide (q.au=a)||(q.wh.any (cQ v a)||q.ret.any λt=>t.any (cQ v a))
def FM (S:List Td)(i:Int):ByteArray:=match S[i.toNat]? with |some t=>t.name |none=>emp
def wV (S:List Td)(i k:Int):ByteArray:=match S[i.toNat]? with |some t=>(match t.attrs[k.toNat]? with |some a=>a |none=>emp)|none=>emp
def fg (S:List Td)(q:Qy)(x:Ls):Bool:=decide (0<=x.ty)&&(decide (x.at_≠ -1)&&q.items.any λit=>it.ah.any (λm=>decide (m=FM S x.ty))&&(decide (x.at_= -2)||pU q it.v (wV S x.ty x.at_)))
def ei (S:List Td)(q:Qy)(ls:List Ls):Option Int:=(ls.find? (fg S q)).map (·.au)
structure O' (S:List Td)(q:Qy):Prop where
 ah:∀x∈q.items,0<x.ah.length/\∀n∈x.ah,0<=aj (aY S) n
 vars:∀(i j:Nat)(x y:It),q.items[i]? =some x->q.items[j]? =some y->x.v=y.v->i=j
 il:0<q.items.length
 au:q.au=emp\/(q.au≠jk/\∀x∈q.items,hasB S x.ah q.au=true)
 nd:∀t,t=q.wh\/t∈q.ret->∀x∈t,x.at_=emp\/∃it∈q.items,it.v=x.v/\hasB S it.ah x.at_=true
theorem nr {l s}(h:0<=aj l s):∃i:Nat,aj l s=i/\l[i]? =some s:=by
 unfold aj at h |-;cases hf:l.findIdx? (λa=>decide (a=s))with
 |none=>rw[hf]at h;simp at h
 |some i=>
  rw[List.findIdx?_eq_some_iff_getElem]at hf;obtain⟨hi,h1,_⟩:=hf;exact⟨i,rfl,by rw[zI hi];simpa using h1⟩
theorem Hm {S}(h:dy S=0){a:Nat}{t}(ht:S[a]? =some t):aj (aY S) t.name=a:=by
 have h1:¬(S.length<1\/16<S.length):=λh1=>by rw[qE h1]at h;omega
 rw[vw oQ oQ]at h;have h0:=mJ h a (zC.1 ht).1;have h2:br t.name=true:=by
  cases hn:br t.name with
  |true=>rfl
  |false=>rw[AK ht hn]at h0;omega
 exact Classical.byContradiction λh3=>by rw[AL ht h2 h3]at h0;omega
theorem QT {S}(h:dy S=0){a b:Nat}{t s}(ht:S[a]? =some t)(hs:t.attrs[b]? =some s):s≠jk/\s≠emp/\bG S a s=b/\b<8:=by
 obtain⟨_,_,lK⟩:=oP h;obtain⟨_,h8,si⟩:=lK t (zA ht);have qL:=(zC.1 hs).1;have h1:¬(S.length<1\/16<S.length):=λh1=>by rw[qE h1]at h;omega
 have Y4:=Hm h ht;rw[vw oQ oQ]at h;have h0:=mJ h a (zC.1 ht).1;have h2:br t.name=true:=(lK t (zA ht)).1;rw[AO ht h2 Y4 oQ]at h0;have h3:=mJ h0 b qL;have h4:=si s (zA hs);have h5:s≠jk:=λe=>by rw[sU hs (.inr e)]at h3;omega
 have h6:aj t.attrs s=b:=Classical.byContradiction λh6=>by rw[FN hs h4 h5 h6]at h3;omega
 refine⟨h5,λe=>?_,?_,oQ⟩
 .subst e;by_cases hn:Jf emp
  .exact absurd hn.pos dQ
  .rw[cG hn]at h4;cases h4
 .rw[oo ht h5,h6,if_pos oQ]
theorem XK {S i s}{b:Nat}(h:bG S i s=b):∃(a:Nat)(t:Td),i=a/\S[a]? =some t/\t.attrs[b]? =some s:=by
 unfold bG at h;by_cases hi:i<0
 .rw[if_pos hi]at h;omega
 rw[if_neg hi]at h;cases ht:S[i.toNat]? with
 |none=>rw[ht]at h;simp only at h;omega
 |some t=>
  rw[ht]at h;simp only at h;by_cases hs:s=jk
  .rw[if_pos hs]at h;omega
  rw[if_neg hs]at h;by_cases hp:0<=aj t.attrs s/\aj t.attrs s<8
  .rw[if_pos hp]at h;obtain⟨j,hj,hg⟩:=nr hp.1;refine⟨i.toNat,t,oQ,ht,?_⟩;rw[show b=j by omega];exact hg
  .rw[if_neg hp]at h;omega
theorem Mi {S}{a:Nat}{t}(ht:S[a]? =some t):FM S a=t.name:=by unfold FM;rw[Int.toNat_natCast,ht]
theorem AP {S}{a b:Nat}{t s}(ht:S[a]? =some t)(hs:t.attrs[b]? =some s):wV S a b=s:=by unfold wV;rw[Int.toNat_natCast,ht];simp only[Int.toNat_natCast,hs]
theorem Hn {S n}(h:0<=aj (aY S) n):∃(a:Nat)(t:Td),aj (aY S) n=a/\S[a]? =some t/\t.name=n:=by
 obtain⟨a,h1,h2⟩:=nr h;unfold aY at h2;rw[zG]at h2;obtain⟨t,ht,e⟩:=xG.1 h2;exact⟨a,t,h1,ht,e⟩
theorem uD {S q}(hS:dy S=0)(hq:O' S q){d}(hd:d∈aI q){n}(hn:n∈d.ah):∃(a:Nat)(t:Td),aj (aY S) n=a/\S[a]? =some t/\t.name=n/\(d.at_=emp\/∃b:Nat,bG S a d.at_=b/\t.attrs[b]? =some d.at_):=by
 have key:∀(ah:List ByteArray)(at_:ByteArray),n∈ah->0<=aj (aY S) n->hasB S ah at_=true->at_≠jk->∃(a:Nat)(t:Td),aj (aY S) n=a/\S[a]? =some t/\t.name=n/\(at_=emp\/∃b:Nat,bG S a at_=b/\t.attrs[b]? =some at_):=λah at_ hn h0 hb gw=>by
  obtain⟨a,t,h1,h2,h3⟩:=Hn h0;refine⟨a,t,h1,h2,h3,.inr ?_⟩;have h4:=xP.1 hb n hn;rw[decide_eq_true_eq,h1,oo h2 gw]at h4;by_cases h5:0<=aj t.attrs at_/\aj t.attrs at_<8
  .obtain⟨b,h6,h7⟩:=nr h5.1;exact⟨b,by rw[oo h2 gw,if_pos h5,h6],h7⟩
  .rw[if_neg h5]at h4;omega
 have tree:∀t,t=q.wh\/t∈q.ret->d∈aA q t->∃(a:Nat)(t:Td),aj (aY S) n=a/\S[a]? =some t/\t.name=n/\(d.at_=emp\/∃b:Nat,bG S a d.at_=b/\t.attrs[b]? =some d.at_):=λt ht hd=>by
  obtain⟨x,hx,hd⟩:=xF.1 hd;unfold kD at hd;split at hd
  .cases hd
  .next hne=>
   obtain⟨it,hit,rfl⟩:=List.mem_map.1 hd;obtain⟨hit,hv⟩:=List.mem_filter.1 hit;rcases hq.nd t ht x hx with h |⟨Tg,h1,h2,h3⟩
   .exact absurd (.inl h) hne
   .have e:Tg=it:=by
     obtain⟨i,hi⟩:=zN hit;obtain⟨j,hj⟩:=zN h1;have dE:i=j:=hq.vars i j it Tg hi hj (by rw[h2];exact of_decide_eq_true hv);subst dE;rw[hi]at hj;injection hj with hj;exact hj.symm
    subst e;exact key _ _ hn ((hq.ah _ h1).2 n hn) h3 λe=>hne (.inr e)
 unfold aI at hd;rcases zM.1 hd with h |h
 .obtain⟨it,hit,h⟩:=xF.1 h;obtain⟨m,hm,rfl⟩:=List.mem_map.1 h;rw[xB]at hn;subst hn;obtain⟨a,t,h1,h2,h3⟩:=Hn ((hq.ah it hit).2 n hm);exact⟨a,t,h1,h2,h3,.inl rfl⟩
 .rcases zM.1 h with h |h
  .split at h
   .cases h
   .next hne=>
    rw[xB]at h;subst h;obtain⟨it,hit,wm⟩:=xF.1 hn;rcases hq.au with h |⟨h1,h2⟩
    .exact absurd h hne
    .exact key it.ah _ wm ((hq.ah it hit).2 n wm) (h2 it hit) h1
  .rcases zM.1 h with h |h
   .exact tree _ (.inl rfl) h
   .obtain⟨t,ht,h⟩:=xF.1 h;exact tree t (.inr ht) h
def U8 (S:List Td)(q:Qy)(x:Ls):Prop:=∃d∈aI q,∃n∈d.ah,aj (aY S) n=x.ty/\(x.at_= -2\/(d.at_≠emp/\bG S x.ty d.at_=x.at_))
theorem Mj {S q}(hS:dy S=0)(hq:O' S q){x:Ls}(hx:∀a:Nat,x.ty=a->∃t,S[a]? =some t/\(∀b:Nat,x.at_=b->b<t.attrs.length))(iq: -2<=x.at_):fg S q x=true<->U8 S q x:=by
 unfold fg;constructor
 .intro h;simp only[xK,decide_eq_true_eq]at h;obtain⟨h0,h1,h2⟩:=h;obtain⟨a,ha⟩:∃a:Nat,x.ty=a:=⟨x.ty.toNat,oQ⟩
  obtain⟨t,ht,hb⟩:=hx a ha;obtain⟨it,hit,h3⟩:=xM.1 h2;rw[ha,Mi ht]at h3;simp only[xK,Bool.or_eq_true,decide_eq_true_eq]at h3;obtain⟨h3,h4⟩:=h3;replace h3:t.name∈it.ah:=by
   obtain⟨m,hm,h3⟩:=xM.1 h3;rw[decide_eq_true_eq]at h3;rw[<-h3];exact hm
  have Es:=Hm hS ht;by_cases hw:x.at_= -2
  .refine⟨⟨[t.name],emp⟩,?_,t.name,sJ,by rw[Es,ha],.inl hw⟩;unfold aI;exact List.mem_append_left _ (xF.2 ⟨it,hit,List.mem_map.2 ⟨t.name,h3,rfl⟩⟩)
  .have h4:=h4.resolve_left hw;obtain⟨b,BR⟩:∃b:Nat,x.at_=b:=⟨x.at_.toNat,oQ⟩
   have qL:=hb b BR;have hs:=zI qL;obtain⟨s1,s2,s3,_⟩:=QT hS ht hs;rw[BR,AP ht hs]at h4;unfold pU at h4;simp only[Bool.or_eq_true,decide_eq_true_eq]at h4;have tree:∀tr,(tr=q.wh\/tr∈q.ret)->tr.any (cQ it.v t.attrs[b])=true->∃d∈aA q tr,t.name∈d.ah/\d.at_=t.attrs[b]:=λtr _ C4=>by
    obtain⟨y,hy,hr⟩:=xM.1 C4;unfold cQ at hr;simp only[xK,decide_eq_true_eq]at hr;refine⟨⟨it.ah,y.at_⟩,xF.2 ⟨y,hy,?_⟩,h3,hr.2⟩;unfold kD;rw[if_neg (by rw[hr.2];exact λh=>h.elim s2 s1)];exact List.mem_map.2 ⟨it,List.mem_filter.2 ⟨hit,by simpa using hr.1.symm⟩,rfl⟩
   rcases h4 with h4 |h4 |h4
   .refine⟨⟨q.items.flatMap (·.ah),q.au⟩,?_,t.name,xF.2 ⟨it,hit,h3⟩,by rw[Es,ha],.inr ⟨by rw[h4];exact s2,by rw[ha,h4,s3,BR]⟩⟩;unfold aI;refine xN _ (List.mem_append_left _ ?_);rw[if_neg (by rw[h4];exact s2)];simp
   .obtain⟨d,hd,e1,e2⟩:=tree _ (.inl rfl) h4;refine⟨d,?_,t.name,e1,by rw[Es,ha],.inr ⟨by rw[e2];exact s2,by rw[ha,e2,s3,BR]⟩⟩;unfold aI;exact xN _ (xN _ (List.mem_append_left _ hd))
   .obtain⟨tr,FE,h5⟩:=xM.1 h4;obtain⟨d,hd,e1,e2⟩:=tree tr (.inr FE) h5;refine⟨d,?_,t.name,e1,by rw[Es,ha],.inr ⟨by rw[e2];exact s2,by rw[ha,e2,s3,BR]⟩⟩;unfold aI;exact xN _ (xN _ (xN _ (xF.2 ⟨tr,FE,hd⟩)))
 .rintro⟨d,hd,n,hn,e1,e2⟩;obtain⟨a,t,h1,h2,h3,h4⟩:=uD hS hq hd hn;have ha:x.ty=a:=oQ;have Fk:x.at_≠ -1:=by
   rcases e2 with e |⟨e,e3⟩
   .omega
   .rcases h4 with h4 |⟨b,h4,_⟩
    .exact absurd h4 e
    .rw[ha,h4]at e3;omega
  have fin:∀it∈q.items,n∈it.ah->(x.at_= -2\/pU q it.v (wV S x.ty x.at_)=true)->(decide (0<=x.ty)&&(decide (x.at_≠ -1)&&q.items.any λit=>it.ah.any (λm=>decide (m=FM S x.ty))&&(decide (x.at_= -2)||pU q it.v (wV S x.ty x.at_))))=true:=λit hit hni wO=>by
   simp only[xK,decide_eq_true_eq];refine⟨oQ,Fk,xM.2 ⟨it,hit,?_⟩⟩;rw[ha,Mi h2,h3]at*;simp only[xK,Bool.or_eq_true,decide_eq_true_eq];exact⟨xM.2 ⟨n,hni,sJ⟩,wO⟩
  have Jg:∀b:Nat,bG S a d.at_=b->t.attrs[b]? =some d.at_->d.at_≠emp->x.at_= -2\/wV S x.ty x.at_=d.at_:=λb ch df hne=>by
   rcases e2 with e |⟨_,e3⟩
   .exact .inl e
   .rw[ha,ch]at e3;rw[ha,<-e3];exact .inr (AP h2 df)
  have tree:∀tr,(tr=q.wh\/tr∈q.ret)->d∈aA q tr->∃it∈q.items,n∈it.ah/\tr.any (cQ it.v d.at_)=true:=λtr _ hd=>by
   obtain⟨y,hy,hd⟩:=xF.1 hd;unfold kD at hd;split at hd
   .cases hd
   .obtain⟨it,hit,rfl⟩:=List.mem_map.1 hd;obtain⟨hit,hv⟩:=List.mem_filter.1 hit;refine⟨it,hit,hn,xM.2 ⟨y,hy,?_⟩⟩;unfold cQ;simp only[xK,decide_eq_true_eq];exact⟨(of_decide_eq_true hv).symm,trivial⟩
  have Y6:∀tr,(tr=q.wh\/tr∈q.ret)->d∈aA q tr->(∀it:It,tr.any (cQ it.v d.at_)=true->pU q it.v d.at_=true)->(decide (0<=x.ty)&&(decide (x.at_≠ -1)&&q.items.any λit=>it.ah.any (λm=>decide (m=FM S x.ty))&&(decide (x.at_= -2)||pU q it.v (wV S x.ty x.at_))))=true:=λtr FE hdt hk=>by
   obtain⟨it,hit,hni,C4⟩:=tree tr FE hdt;have hne:d.at_≠emp:=by
    obtain⟨y,hy,hd⟩:=xF.1 hdt;unfold kD at hd;split at hd
    .cases hd
    .next hne=>obtain⟨it,hit,rfl⟩:=List.mem_map.1 hd;exact λe=>hne (.inl e)
   obtain⟨b,ch,df⟩:=h4.resolve_left hne;refine fin it hit hni ((Jg b ch df hne).imp id λe=>?_);rw[e];exact hk it C4
  unfold aI at hd;rcases zM.1 hd with h |h
  .obtain⟨it,hit,h⟩:=xF.1 h;obtain⟨m,hm,rfl⟩:=List.mem_map.1 h;rw[xB]at hn;subst hn;exact fin it hit hm (.inl (e2.resolve_right λe=>e.1 rfl))
  .rcases zM.1 h with h |h
   .split at h
    .cases h
    .next hne=>
     rw[xB]at h;subst h;obtain⟨it,hit,wm⟩:=xF.1 hn;obtain⟨b,ch,df⟩:=h4.resolve_left hne;refine fin it hit wm ((Jg b ch df hne).imp id λe=>?_);rw[e];unfold pU;simp
   .rcases zM.1 h with h |h
    .refine Y6 _ (.inl rfl) h λit h=>?_
     unfold pU;rw[h];simp
    .obtain⟨tr,FE,h⟩:=xF.1 h;refine Y6 tr (.inr FE) h λit h=>?_
     unfold pU;rw[show q.ret.any (λt=>t.any (cQ it.v d.at_))=true from xM.2 ⟨tr,FE,h⟩];simp
theorem Mk {S L}:∀{j:Nat},j<=L.length->(∀i,i<j->eH S L i)->∀x∈dr S L j,-2<=x.at_
 |0,_,_,x,hx=>by cases hx
 |j+1,hj,cK,x,hx=>by
  rcases Mh hx with h |⟨c,hc,h⟩
  .exact Mk (j:=j) oQ (λi hi=>cK i oQ) x h
  .obtain⟨_,_,h3⟩:=AJ h;rcases h3 with h3 |⟨k,hk,_,f,hf,e⟩
   .omega
   .have:=((behind (S:=S) (L:=L) (j:=j) oQ (λi hi=>cK i oQ)).uq.fd k hk).2 f hf;omega
theorem yv {S L q}(hS:dy S=0)(hq:O' S q){j}(hj:j<=L.length)(cK:∀i,i<j->eH S L i):dp S (aD S L j) (aI q)=true<->∀x∈dr S L j,fg S q x=false:=by
 have hb:=behind hj cK;have hc:∀x∈dr S L j,fg S q x=true<->U8 S q x:=λx hx=>Mj hS hq (hb.ls x hx) (Mk hj cK x hx)
 constructor
 .intro h x hx;rw[<-Bool.not_eq_true,hc x hx];rintro⟨d,hd,n,hn,e1,e2⟩;have h1:=xP.1 (xP.1 h d hd) n hn;obtain⟨a,t,p1,p2,p3,p4⟩:=uD hS hq hd hn;have ha:x.ty=a:=oQ;by_cases he:d.at_=emp
  .rw[he,Hl,p1,hb.k]at h1;rcases e2 with e |⟨e,_⟩
   .exact h1.2 ⟨x,hx,ha,e⟩
   .exact e he
  .obtain⟨b,b1,b2⟩:=p4.resolve_left he;rw[AE he,p1,b1,hb.f]at h1;refine h1.2 ⟨x,hx,ha,e2.imp id λe=>?_⟩;have:=e.2;rw[ha,b1]at this;exact this.symm
 .intro h;refine xP.2 λd hd=>xP.2 λn hn=>?_
  obtain⟨a,t,p1,p2,p3,p4⟩:=uD hS hq hd hn;have hno:∀x∈dr S L j,¬U8 S q x:=λx hx hh=>by
   have:=(hc x hx).2 hh;rw[h x hx]at this;cases this
  by_cases he:d.at_=emp
  .rw[he,Hl,p1,hb.k];refine⟨(zC.1 p2).1,?_⟩;rintro⟨x,hx,e1,e2⟩;exact hno x hx ⟨d,hd,n,hn,by rw[p1,e1],.inl e2⟩
  .obtain⟨b,b1,b2⟩:=p4.resolve_left he;rw[AE he,p1,b1,hb.f];refine⟨⟨t,p2,(zC.1 b2).1⟩,?_⟩;rintro⟨x,hx,e1,e2⟩;exact hno x hx ⟨d,hd,n,hn,by rw[p1,e1],e2.imp id λe=>⟨he,by rw[e1,b1,e]⟩⟩
theorem AQ {S L q}(hS:dy S=0)(hq:O' S q):∀{m:Nat},m<=L.length->(∀i,i<m->eH S L i)->
  (ei S q (dr S L m)=none/\∀j,j<m->dp S (aD S L (j+1)) (aI q)=true)\/
  (∃i,i<m/\ei S q (dr S L m)=some (i:Int)/\(∀j,j<i->dp S (aD S L (j+1)) (aI q)=true)/\dp S (aD S L (i+1)) (aI q)=false)
 |0,_,_=>.inl ⟨rfl,λj hj=>by omega⟩
 |m+1,hm,cK=>by
  have ih:=AQ (m:=m) hS hq oQ (λi hi=>cK i oQ);obtain⟨c,hc⟩:=av (l:=L) (i:=m) oQ;have ud:=sS (S:=S) hc;have wM:=yv (q:=q) hS hq hm cK;have FP:ei S q (dr S L (m+1))=(ei S q (dr S L m)).or (ei S q (iX (aD S L m) c m)):=by
   unfold ei;rw[<-ud,List.find?_append];cases(dr S L m).find? (fg S q)<;>rfl
  rcases ih with⟨h1,h2⟩|⟨i,h1,h2,h3,h4⟩
  .rw[h1]at FP;have SK:∀x∈dr S L m,fg S q x=false:=λx hx=>by
    unfold ei at h1;rw[Option.map_eq_none_iff,List.find?_eq_none]at h1;simpa using h1 x hx
   cases hl:(iX (aD S L m) c m).find? (fg S q)with
   |none=>
    refine .inl ⟨by rw[FP];unfold ei;rw[hl];rfl,λj hj=>?_⟩;by_cases e:j=m
    .subst e;rw[wM];intro x hx;rw[<-ud]at hx;rcases zM.1 hx with h |h
     .exact SK x h
     .have:=List.find?_eq_none.1 hl x h;simpa using this
    .exact h2 j oQ
   |some y=>
    have hy:=List.mem_of_find?_eq_some hl;have hyc:=List.find?_some hl;refine .inr ⟨m,oQ,by rw[FP];unfold ei;rw[hl];show some y.au=_;rw[(AJ hy).1],h2,?_⟩;rw[<-Bool.not_eq_true,wM];intro h;have:=h y (by rw[<-ud];exact xN _ hy);rw[hyc]at this;cases this
  .exact .inr ⟨i,oQ,by rw[FP,h2];rfl,h3,h4⟩
