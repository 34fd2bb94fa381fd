/- Query's answer. -/
import Derived.Test.YtjbcbibkhalagaaGreatDoorGo
namespace Go.Proofs.YtjbcbibkhalagaaGreatDoor
set_option maxRecDepth 100000
set_option maxHeartbeats 16000000
open Proofs.Tryz Go.RowKit Go.Deep
set_option linter.unusedVariables false
set_option linter.unusedSimpArgs false
noncomputable def uf (S:List Td)(L:List Cg)(q:Qy):Option Qy×Int×Int:=if bf (dy S) S q≠0 then(none,bf (dy S) S q,0)else match ei S q (dr S L L.length)with
 |some y=>(none,291,y)
 |none=>match bK S (aD S L L.length) q with
  |none=>(none,291,L.length)
  |some q'=>(some q',0,0)
theorem mK {S L q}(h:bf (dy S) S q≠0):uf S L q=(none,bf (dy S) S q,0):=by unfold uf;rw[if_pos h]
theorem mL {S L q y}(h:bf (dy S) S q=0)(h2:ei S q (dr S L L.length)=some y):uf S L q=(none,291,y):=by unfold uf;rw[if_neg (by simpa using h),h2]
theorem mM {S L q}(h:bf (dy S) S q=0)(h2:ei S q (dr S L L.length)=none)(h3:bK S (aD S L L.length) q=none):uf S L q=(none,291,(L.length:Int)):=by unfold uf;rw[if_neg (by simpa using h),h2];simp only[h3]
theorem mN {S L q q'}(h:bf (dy S) S q=0)(h2:ei S q (dr S L L.length)=none)(h3:bK S (aD S L L.length) q=some q'):uf S L q=(some q',0,0):=by unfold uf;rw[if_neg (by simpa using h),h2];simp only[h3]
theorem Jh {S L q}(h:bf (dy S) S q=0)(cK:∀i,i<L.length->eH S L i){i}(hi:i<L.length)(h1:∀j,j<i->dp S (aD S L (j+1)) (aI q)=true)(h2:dp S (aD S L (i+1)) (aI q)=false):uf S L q=(none,291,(i:Int)):=by
 obtain⟨z1,_,_,_,hq⟩:=qC h;rcases AQ z1 hq nR cK with⟨_,g2⟩|⟨k,g1,g2,g3,g4⟩
 .rw[g2 i hi]at h2;cases h2
 .have:k=i:=by
   rcases Nat.lt_trichotomy k i with h |h |h
   .rw[h1 k h]at g4;cases g4
   .exact h
   .rw[g3 i h]at h2;cases h2
  subst this;exact mL h g2
theorem Dl {S L q}(h:bf (dy S) S q=0)(cK:∀i,i<L.length->eH S L i)(h1:∀j,j<L.length->dp S (aD S L (j+1)) (aI q)=true):qh S (aD S L L.length) q:=by
 obtain⟨z1,_,_,_,hq⟩:=qC h;refine⟨(behind nR cK).uq,λk hk=>?_,?_,hq,z1⟩
 .obtain⟨_,_,lK⟩:=oP (Dm z1 cK);obtain⟨n1,_,n2⟩:=lK (cR k) (xJ hk);have key:∀s:ByteArray,br s=true->s≠emp:=λs hs e=>by
   subst e;by_cases hn:Jf emp
   .exact absurd hn.pos dQ
   .rw[cG hn]at hs;cases hs
  exact⟨key _ n1,λf hf=>key _ (n2 _ (xJ hf))⟩
 .by_cases h0:L.length=0
  .rw[yv z1 hq nR cK,h0];intro x hx;cases hx
  .have:=h1 (L.length-1) oQ;rwa [show L.length-1+1=L.length by omega]at this
theorem yw {S L q}(h:bf (dy S) S q=0)(cK:∀i,i<L.length->eH S L i)(h1:∀j,j<L.length->dp S (aD S L (j+1)) (aI q)=true):ei S q (dr S L L.length)=none:=by
 obtain⟨z1,_,_,_,hq⟩:=qC h;rcases AQ z1 hq nR cK with⟨g1,_⟩|⟨k,g1,g2,g3,g4⟩
 .exact g1
 .rw[h1 k g1]at g4;cases g4
theorem Dn {S L q}(h:bf (dy S) S q=0)(cK:∀i,i<L.length->eH S L i)(h1:∀j,j<L.length->dp S (aD S L (j+1)) (aI q)=true)(h2:bW S (aD S L L.length) (aI q)=false):uf S L q=(none,291,(L.length:Int)):=
 mM h (yw h cK h1) (by rw[yr (Dl h cK h1),h2];simp)
theorem Ji {S L q}(h:bf (dy S) S q=0)(cK:∀i,i<L.length->eH S L i)(h1:∀j,j<L.length->dp S (aD S L (j+1)) (aI q)=true)(h2:bW S (aD S L L.length) (aI q)=true):uf S L q=(some (mG S (aD S L L.length) q),0,0):=
 mN h (yw h cK h1) (by rw[yr (Dl h cK h1),h2];simp)
def iY (S:List Td)(L:List Cg)(q:Qy)(R:Option Qy)(c a:Int):Prop:=(fJ S L none c a/\R=none)\/(fJ S L (some (aD S L L.length)) 0 0/\(R,c,a)=uf S L q)
theorem iY.uniq {S L q R R' c c' a a'}(h:iY S L q R c a)(h':iY S L q R' c' a'):R'=R/\c'=c/\a'=a:=by
 rcases h with⟨h1,rfl⟩|⟨h1,h2⟩<;>rcases h' with⟨g1,rfl⟩|⟨g1,g2⟩
 .obtain⟨_,e1,e2⟩:=h1.uniq g1;exact⟨rfl,e1,e2⟩
 .obtain⟨e,_⟩:=h1.uniq g1;cases e
 .obtain⟨e,_⟩:=h1.uniq g1;cases e
 .rw[<-h2]at g2;injection g2 with e1 e2
  injection e2 with e2 e3
  exact⟨e1,e2,e3⟩
theorem Ml {S L T c a}(h:fJ S L (some T) c a):dy S=0/\L.length<=32/\(∀j,j<L.length->eH S L j)/\T=aD S L L.length/\c=0/\a=0:=by
 rcases h with⟨_,h,_⟩|⟨_,_,h,_⟩|⟨_,_,_,_,_,_,h,_⟩|⟨h1,h2,h3,h4,h5,h6⟩
 .cases h
 .cases h
 .cases h
 .injection h4 with h4;exact⟨h1,h2,h3,h4,h5,h6⟩
theorem FQ {S L c a}(h:fJ S L none c a):c≠0:=by
 rcases h with⟨h0,_,rfl,_⟩|⟨_,_,_,rfl,_⟩|⟨_,_,_,_,_,_,_,rfl,_⟩|⟨_,_,_,h,_⟩
 .exact h0
 .omega
 .omega
 .cases h
theorem tJ {α:Type}{l:List α}{p j x}(h:l[j]? =some x)(hp:p x=true)(ha:∀(i:Nat) a,l[i]? =some a->i<j->p a=false):l.findIdx? p=some j:=by
 rw[List.findIdx?_eq_some_iff_getElem];obtain⟨hj,e⟩:=zC.1 h;refine⟨hj,by rw[e];exact hp,λi hi=>?_⟩;have:=ha i l[i] (zI oQ) hi;simp[this]
theorem jK {α:Type}{l:List α}{p}(ha:∀(i:Nat) a,l[i]? =some a->i<l.length->p a=false):l.findIdx? p=none:=by
 rw[List.findIdx?_eq_none_iff];intro x hx;obtain⟨i,hi⟩:=zN hx;exact ha i x hi (zC.1 hi).1
theorem qF {α:Type}{l:List α}{p j}(h:l.findIdx? p=some j):∃x,l[j]? =some x/\p x=true/\l.find? p=some x:=by
 rw[List.findIdx?_eq_some_iff_getElem]at h;obtain⟨hj,h1,h2⟩:=h;refine⟨l[j],zI hj,h1,?_⟩;rw[List.find?_eq_some_iff_getElem];exact⟨h1,j,hj,rfl,λi hi=>by have:=h2 i hi;simpa using this⟩
theorem Dp {α:Type}{l:List α}{p}(h:l.findIdx? p=none):l.find? p=none:=by
 rw[List.findIdx?_eq_none_iff]at h;rw[List.find?_eq_none];intro x hx;simp[h x hx]
theorem FT {α:Type}{l:List α}{p}:decide (0<=cm (l.findIdx? p))=l.any p:=by
 cases h:l.findIdx? p with
 |none=>
  rw[List.findIdx?_eq_none_iff]at h;show decide ((0:Int)<= -1)=_
  symm
  rw[show decide ((0:Int)<= -1)=false from rfl,List.any_eq_false];intro x hx;simp[h x hx]
 |some j=>
  obtain⟨x,hx,hp,_⟩:=qF h;show decide ((0:Int)<=(j:Int))=_
  rw[zW oQ];symm;rw[xM];exact⟨x,zA hx,hp⟩
theorem Mm {α β:Type}{l:List α}{f:α->β}{p}:(l.map f).findIdx? p=l.findIdx? (λa=>p (f a)):=by
 rw[List.findIdx?_map];rfl
namespace di
open cH
theorem QU (A c F)(l:List (Kd×Value))(p q)(hl:l.length<=1048576)(w)(hF:∀b,F b->b<w.heap.size)(r:Rd w F (.slice A l.length c) (.sl l.length (l.flatMap ug)))(hk:∀W,Bw w W->∀x∈l,Cl 107 #[.agg #[.string x.1.nm,.int .i64 x.1.fr,x.2],.pointer (some ⟨q,0,none⟩)] W λe w'=>e=.returned (.bool (p x))/\Bw W w'):
  Cl 75 #[.slice A l.length c,.func (.func 107) #[] #[.pointer (some ⟨q,0,none⟩)]] w λe w'=>e=.returned (.int .i64 (cm (l.findIdx? p)))/\Bw w w':=by
 obtain⟨b,hc⟩:=aB (cm (l.findIdx? p))
 rw[<-hc];replace⟨r,hc,hk,hF⟩:=H4 r hc hk hF;go_enter func75,ntmps75;go_wp2;go_loopw [5,8] (λ_ i wr=>∃j:Nat,j<=l.length/\i=.int .i64 j/\Bw w wr/\Hid (∀(i:Nat) a,l[i]? =some a->i<j->p a=false)) (λ_ i _=>l.length- (intOf i).toNat)
 .exact⟨0,zE _,rfl,bR,λi a h h3=>by omega⟩
 obtain⟨j,hj,rfl,hB,hp⟩:=hrel;by_cases hlt:j<l.length
 .obtain⟨x,hx⟩:=av hlt;obtain⟨g,off,rfl,_,ha,_⟩:=(r.o.under hB hF.o).cP (m:=3) (λ_=>rfl) hx oQ;have a0:wr.cell? ⟨g,off+j*3,none⟩=some (.string x.1.nm):=ha 0 _ rfl;have a1:wr.cell? ⟨g,off+j*3+1,none⟩=some (.int .i64 x.1.fr):=ha 1 _ rfl;have a2:wr.cell? ⟨g,off+j*3+2,none⟩=some (x.2):=ha 2 _ rfl;clear ha;have g0:=aH j;have g1:=aV j l.length;have gC:=hk.o wr hB x (zA hx);obtain⟨pb,pS⟩:=aB (p x)
  rw[<-pS]at gC;replace⟨gC,pS,hx⟩:=H3 gC pS hx;cases pb with
  |true=>
   have ae:b=(j:Int):=(by rw[hc.o,tJ hx.o pS.o.symm hp.o];rfl);subst ae;go_wp2_with (go_at_call 107;refine gC.o.mono ?_;rintro e w' ⟨rfl,az⟩);go_ret;exact⟨rfl,hB.trans (az.mono hB.size)⟩
  |false=>
   go_wp2_with (go_at_call 107;refine gC.o.mono ?_;rintro e w' ⟨rfl,az⟩);go_roundw
   .refine⟨j+1,oQ,gQ,hB.trans (az.mono hB.size),λi a h h3=>?_⟩;by_cases dE:i=j
    .subst dE;have:=hx.o;rw[h]at this;obtain rfl:a=x:=eO this;exact pS.o.symm
    .exact hp.o i a h oQ
   exact mQ
 .have g1:=jS j l.length;obtain rfl:j=l.length:=oQ;obtain rfl:b= -1:=by rw[hc.o,jK hp.o];rfl
  go_wp2;go_ret;exact⟨rfl,hB⟩
theorem QV (A c F)(l:List Fd)(p q)(hl:l.length<=1048576)(w)(hF:∀b,F b->b<w.heap.size)(r:Rd w F (.slice A l.length c) (.sl l.length (l.flatMap dt)))(hk:∀W,Bw w W->∀x∈l,Cl 113 #[.agg #[.string x.nm,.int .i64 x.fr,.int .i64 x.fl],.pointer (some ⟨q,0,none⟩)] W λe w'=>e=.returned (.bool (p x))/\Bw W w'):
  Cl 112 #[.slice A l.length c,.func (.func 113) #[] #[.pointer (some ⟨q,0,none⟩)]] w λe w'=>e=.returned (.int .i64 (cm (l.findIdx? p)))/\Bw w w':=by
 obtain⟨b,hc⟩:=aB (cm (l.findIdx? p))
 rw[<-hc];replace⟨r,hc,hk,hF⟩:=H4 r hc hk hF;go_enter func112,ntmps112;go_wp2;go_loopw [5,8] (λ_ i wr=>∃j:Nat,j<=l.length/\i=.int .i64 j/\Bw w wr/\Hid (∀(i:Nat) a,l[i]? =some a->i<j->p a=false)) (λ_ i _=>l.length- (intOf i).toNat)
 .exact⟨0,zE _,rfl,bR,λi a h h3=>by omega⟩
 obtain⟨j,hj,rfl,hB,hp⟩:=hrel;by_cases hlt:j<l.length
 .obtain⟨x,hx⟩:=av hlt;obtain⟨g,off,rfl,_,ha,_⟩:=(r.o.under hB hF.o).cP (m:=3) (λ_=>rfl) hx oQ;have a0:wr.cell? ⟨g,off+j*3,none⟩=some (.string x.nm):=ha 0 _ rfl;have a1:wr.cell? ⟨g,off+j*3+1,none⟩=some (.int .i64 x.fr):=ha 1 _ rfl;have a2:wr.cell? ⟨g,off+j*3+2,none⟩=some (.int .i64 x.fl):=ha 2 _ rfl;clear ha;have g0:=aH j;have g1:=aV j l.length;have gC:=hk.o wr hB x (zA hx);obtain⟨pb,pS⟩:=aB (p x)
  rw[<-pS]at gC;replace⟨gC,pS,hx⟩:=H3 gC pS hx;cases pb with
  |true=>
   have ae:b=(j:Int):=(by rw[hc.o,tJ hx.o pS.o.symm hp.o];rfl);subst ae;go_wp2_with (go_at_call 113;refine gC.o.mono ?_;rintro e w' ⟨rfl,az⟩);go_ret;exact⟨rfl,hB.trans (az.mono hB.size)⟩
  |false=>
   go_wp2_with (go_at_call 113;refine gC.o.mono ?_;rintro e w' ⟨rfl,az⟩);go_roundw
   .refine⟨j+1,oQ,gQ,hB.trans (az.mono hB.size),λi a h h3=>?_⟩;by_cases dE:i=j
    .subst dE;have:=hx.o;rw[h]at this;obtain rfl:a=x:=eO this;exact pS.o.symm
    .exact hp.o i a h oQ
   exact mQ
 .have g1:=jS j l.length;obtain rfl:j=l.length:=oQ;obtain rfl:b= -1:=by rw[hc.o,jK hp.o];rfl
  go_wp2;go_ret;exact⟨rfl,hB⟩
theorem Ho (A c F)(l:List Nd)(p q q2)(hl:l.length<=1048576)(w)(hF:∀b,F b->b<w.heap.size)(r:Rd w F (.slice A l.length c) (.sl l.length (l.flatMap b9)))(hk:∀W,Bw w W->∀x∈l,Cl 103 #[.agg #[.int .i64 x.op,.int .i64 x.n,.string x.v,.string x.at_,.int .i64 x.a,.int .i64 x.b],.pointer (some ⟨q,0,none⟩),.pointer (some ⟨q2,0,none⟩)] W λe w'=>e=.returned (.bool (p x))/\Bw W w'):
  Cl 144 #[.slice A l.length c,.func (.func 103) #[] #[.pointer (some ⟨q,0,none⟩),.pointer (some ⟨q2,0,none⟩)]] w λe w'=>e=.returned (.int .i64 (cm (l.findIdx? p)))/\Bw w w':=by
 obtain⟨b,hc⟩:=aB (cm (l.findIdx? p))
 rw[<-hc];replace⟨r,hc,hk,hF⟩:=H4 r hc hk hF;go_enter func144,ntmps144;go_wp2;go_loopw [5,8] (λ_ i wr=>∃j:Nat,j<=l.length/\i=.int .i64 j/\Bw w wr/\Hid (∀(i:Nat) a,l[i]? =some a->i<j->p a=false)) (λ_ i _=>l.length- (intOf i).toNat)
 .exact⟨0,zE _,rfl,bR,λi a h h3=>by omega⟩
 obtain⟨j,hj,rfl,hB,hp⟩:=hrel;by_cases hlt:j<l.length
 .obtain⟨x,hx⟩:=av hlt;obtain⟨g,off,rfl,_,ha,_⟩:=(r.o.under hB hF.o).cP (m:=6) (λ_=>rfl) hx oQ;have a0:wr.cell? ⟨g,off+j*6,none⟩=some (.int .i64 x.op):=ha 0 _ rfl;have a1:wr.cell? ⟨g,off+j*6+1,none⟩=some (.int .i64 x.n):=ha 1 _ rfl;have a2:wr.cell? ⟨g,off+j*6+2,none⟩=some (.string x.v):=ha 2 _ rfl;have a3:wr.cell? ⟨g,off+j*6+3,none⟩=some (.string x.at_):=ha 3 _ rfl;have a4:wr.cell? ⟨g,off+j*6+4,none⟩=some (.int .i64 x.a):=ha 4 _ rfl;have a5:wr.cell? ⟨g,off+j*6+5,none⟩=some (.int .i64 x.b):=ha 5 _ rfl;clear ha;have g0:=aH j;have g1:=aV j l.length;have gC:=hk.o wr hB x (zA hx);obtain⟨pb,pS⟩:=aB (p x)
  rw[<-pS]at gC;replace⟨gC,pS,hx⟩:=H3 gC pS hx;cases pb with
  |true=>
   have ae:b=(j:Int):=(by rw[hc.o,tJ hx.o pS.o.symm hp.o];rfl);subst ae;go_wp2_with (go_at_call 103;refine gC.o.mono ?_;rintro e w' ⟨rfl,az⟩);go_ret;exact⟨rfl,hB.trans (az.mono hB.size)⟩
  |false=>
   go_wp2_with (go_at_call 103;refine gC.o.mono ?_;rintro e w' ⟨rfl,az⟩);go_roundw
   .refine⟨j+1,oQ,gQ,hB.trans (az.mono hB.size),λi a h h3=>?_⟩;by_cases dE:i=j
    .subst dE;have:=hx.o;rw[h]at this;obtain rfl:a=x:=eO this;exact pS.o.symm
    .exact hp.o i a h oQ
   exact mQ
 .have g1:=jS j l.length;obtain rfl:j=l.length:=oQ;obtain rfl:b= -1:=by rw[hc.o,jK hp.o];rfl
  go_wp2;go_ret;exact⟨rfl,hB⟩
theorem QW (A c F)(l:List It)(p q)(hl:l.length<=1048576)(w)(hF:∀b,F b->b<w.heap.size)(r:Rd w F (.slice A l.length c) (.sl l.length (l.flatMap SV)))(hk:∀W,Bw w W->∀x∈l,∀(A2:Option Addr)(c2:Nat),Cl 110 #[.agg #[.bool x.neg,.slice A2 x.ah.length c2,.string x.v,.int .i64 x.lo,.int .i64 x.hi],.pointer (some ⟨q,0,none⟩)] W λe w'=>e=.returned (.bool (p x))/\Bw W w'):
  Cl 109 #[.slice A l.length c,.func (.func 110) #[] #[.pointer (some ⟨q,0,none⟩)]] w λe w'=>e=.returned (.int .i64 (cm (l.findIdx? p)))/\Bw w w':=by
 obtain⟨b,hc⟩:=aB (cm (l.findIdx? p))
 rw[<-hc];replace⟨r,hc,hk,hF⟩:=H4 r hc hk hF;go_enter func109,ntmps109;go_wp2;go_loopw [5,8] (λ_ i wr=>∃j:Nat,j<=l.length/\i=.int .i64 j/\Bw w wr/\Hid (∀(i:Nat) a,l[i]? =some a->i<j->p a=false)) (λ_ i _=>l.length- (intOf i).toNat)
 .exact⟨0,zE _,rfl,bR,λi a h h3=>by omega⟩
 obtain⟨j,hj,rfl,hB,hp⟩:=hrel;by_cases hlt:j<l.length
 .obtain⟨x,hx⟩:=av hlt;obtain⟨g,off,A2,c2,rfl,_,_,a0,a1,a2,a3,a4⟩:=eV (r.o.under hB hF.o) hx;have g0:=aH j;have g1:=aV j l.length;have gC:=hk.o wr hB x (zA hx) A2 c2;obtain⟨pb,pS⟩:=aB (p x)
  rw[<-pS]at gC;replace⟨gC,pS,hx⟩:=H3 gC pS hx;cases pb with
  |true=>
   have ae:b=(j:Int):=(by rw[hc.o,tJ hx.o pS.o.symm hp.o];rfl);subst ae;go_wp2_with (go_at_call 110;refine gC.o.mono ?_;rintro e w' ⟨rfl,az⟩);go_ret;exact⟨rfl,hB.trans (az.mono hB.size)⟩
  |false=>
   go_wp2_with (go_at_call 110;refine gC.o.mono ?_;rintro e w' ⟨rfl,az⟩);go_roundw
   .refine⟨j+1,oQ,gQ,hB.trans (az.mono hB.size),λi a h h3=>?_⟩;by_cases dE:i=j
    .subst dE;have:=hx.o;rw[h]at this;obtain rfl:a=x:=eO this;exact pS.o.symm
    .exact hp.o i a h oQ
   exact mQ
 .have g1:=jS j l.length;obtain rfl:j=l.length:=oQ;obtain rfl:b= -1:=by rw[hc.o,jK hp.o];rfl
  go_wp2;go_ret;exact⟨rfl,hB⟩
theorem QX (A c F)(l:List (List Nd))(p q)(hl:l.length<=1048576)(w)(hF:∀b,F b->b<w.heap.size)(r:Rd w F (.slice A l.length c) (.sl l.length (l.flatMap Xv)))(hk:∀W,Bw w W->∀x∈l,∀(A2:Option Addr)(c2:Nat),Rd W F (.slice A2 x.length c2) (.sl x.length (x.flatMap b9))->Cl 106 #[.slice A2 x.length c2,.pointer (some ⟨q,0,none⟩)] W λe w'=>e=.returned (.bool (p x))/\Bw W w'):
  Cl 145 #[.slice A l.length c,.func (.func 106) #[] #[.pointer (some ⟨q,0,none⟩)]] w λe w'=>e=.returned (.int .i64 (cm (l.findIdx? p)))/\Bw w w':=by
 obtain⟨b,hc⟩:=aB (cm (l.findIdx? p))
 rw[<-hc];replace⟨r,hc,hk,hF⟩:=H4 r hc hk hF;go_enter func145,ntmps145;go_wp2;go_loopw [5,8] (λ_ i wr=>∃j:Nat,j<=l.length/\i=.int .i64 j/\Bw w wr/\Hid (∀(i:Nat) a,l[i]? =some a->i<j->p a=false)) (λ_ i _=>l.length- (intOf i).toNat)
 .exact⟨0,zE _,rfl,bR,λi a h h3=>by omega⟩
 obtain⟨j,hj,rfl,hB,hp⟩:=hrel;by_cases hlt:j<l.length
 .obtain⟨x,hx⟩:=av hlt;obtain⟨g,off,A2,c2,rfl,_,rx,a0⟩:=nM (r.o.under hB hF.o) hx;have g0:=aH j;have g1:=aV j l.length;have gC:=hk.o wr hB x (zA hx) A2 c2 rx;obtain⟨pb,pS⟩:=aB (p x)
  rw[<-pS]at gC;clear rx;replace⟨gC,pS,hx⟩:=H3 gC pS hx;cases pb with
  |true=>
   have ae:b=(j:Int):=(by rw[hc.o,tJ hx.o pS.o.symm hp.o];rfl);subst ae;go_wp2_with (go_at_call 106;refine gC.o.mono ?_;rintro e w' ⟨rfl,az⟩);go_ret;exact⟨rfl,hB.trans (az.mono hB.size)⟩
  |false=>
   go_wp2_with (go_at_call 106;refine gC.o.mono ?_;rintro e w' ⟨rfl,az⟩);go_roundw
   .refine⟨j+1,oQ,gQ,hB.trans (az.mono hB.size),λi a h h3=>?_⟩;by_cases dE:i=j
    .subst dE;have:=hx.o;rw[h]at this;obtain rfl:a=x:=eO this;exact pS.o.symm
    .exact hp.o i a h oQ
   exact mQ
 .have g1:=jS j l.length;obtain rfl:j=l.length:=oQ;obtain rfl:b= -1:=by rw[hc.o,jK hp.o];rfl
  go_wp2;go_ret;exact⟨rfl,hB⟩
theorem Hp (A c)(l:List Nd)(p q q2 w)(hk:Cl 144 #[.slice A l.length c,.func (.func 103) #[] #[.pointer (some ⟨q,0,none⟩),.pointer (some ⟨q2,0,none⟩)]] w λe w'=>e=.returned (.int .i64 (cm (l.findIdx? p)))/\Bw w w'):
  Cl 104 #[.slice A l.length c,.func (.func 103) #[] #[.pointer (some ⟨q,0,none⟩),.pointer (some ⟨q2,0,none⟩)]] w λe w'=>e=.returned (.bool (l.any p))/\Bw w w':=by
 rw[<-FT];generalize cm (l.findIdx? p)=b at*;replace hk:=Hd hk;go_enter func104,ntmps104;go_wp2_with (go_at_call 144;refine hk.o.mono ?_;rintro e w' ⟨rfl,az⟩);go_ret;exact⟨rfl,az⟩
theorem QY (A c)(l:List (List Nd))(p q w)(hk:Cl 145 #[.slice A l.length c,.func (.func 106) #[] #[.pointer (some ⟨q,0,none⟩)]] w λe w'=>e=.returned (.int .i64 (cm (l.findIdx? p)))/\Bw w w'):
  Cl 105 #[.slice A l.length c,.func (.func 106) #[] #[.pointer (some ⟨q,0,none⟩)]] w λe w'=>e=.returned (.bool (l.any p))/\Bw w w':=by
 rw[<-FT];generalize cm (l.findIdx? p)=b at*;replace hk:=Hd hk;go_enter func105,ntmps105;go_wp2_with (go_at_call 145;refine hk.o.mono ?_;rintro e w' ⟨rfl,az⟩);go_ret;exact⟨rfl,az⟩
theorem QZ (A c F)(l:List ByteArray)(s)(hl:l.length<=1048576)(w)(r:Rd w F (.slice A l.length c) (.sl l.length (l.flatMap aG))):
  Cl 102 #[.slice A l.length c,.string s] w λe w'=>e=.returned (.int .i64 (cm (l.findIdx? λm=>decide (m=s))))/\w'=w:=by
 obtain⟨b,hc⟩:=aB (cm (l.findIdx? λm=>decide (m=s)))
 rw[<-hc];replace⟨r,hc⟩:=H2 r hc;go_enter func102,ntmps102;go_wp2;go_loopw [5,8] (λ_ i wr=>∃j:Nat,j<=l.length/\i=.int .i64 j/\wr=w/\Hid (∀(i:Nat) a,l[i]? =some a->i<j->decide (a=s)=false)) (λ_ i _=>l.length- (intOf i).toNat)
 .exact⟨0,zE _,rfl,rfl,λi a h h3=>by omega⟩
 obtain⟨j,hj,rfl,rfl,hp⟩:=hrel;by_cases hlt:j<l.length
 .obtain⟨x,hx⟩:=av hlt;obtain⟨g,off,rfl,_,a0⟩:=dN r.o hx;have g0:=aH j;have g1:=aV j l.length;replace hx:=Hd hx;by_cases hu:x=s
  .have la:(s.toList==x.toList)=true:=(by rw[ji];exact zW hu.symm);have ae:b=(j:Int):=by rw[hc.o,tJ hx.o (zW hu) hp.o];rfl
   subst ae;replace hu:=Hd hu;go_wp2;go_ret;exact⟨rfl,rfl⟩
  .have la:(s.toList==x.toList)=false:=(by rw[ji];exact zV (λe=>hu e.symm));replace hu:=Hd hu;go_wp2;go_roundw
   .refine⟨j+1,oQ,gQ,by first|exact rfl |exact trivial,λi a h h3=>?_⟩;by_cases dE:i=j
    .subst dE;have:=hx.o;rw[h]at this;obtain rfl:a=x:=eO this;exact zV hu.o
    .exact hp.o i a h oQ
   exact mQ
 .have g1:=jS j l.length;obtain rfl:j=l.length:=oQ;obtain rfl:b= -1:=by rw[hc.o,jK hp.o];rfl
  go_wp2;go_ret;exact⟨rfl,rfl⟩
theorem contains_k (A c F)(l:List ByteArray)(s)(hl:l.length<=1048576)(w)(r:Rd w F (.slice A l.length c) (.sl l.length (l.flatMap aG))):
  Cl 60 #[.slice A l.length c,.string s] w λe w'=>e=.returned (.bool (l.any λm=>decide (m=s)))/\w'=w:=by
 have hk:=QZ A c F l s hl w r;rw[<-FT];generalize cm (l.findIdx? λm=>decide (m=s))=b at*;replace hk:=Hd hk;clear r;go_enter func60,ntmps60;go_wp2_with (go_at_call 102;refine hk.o.mono ?_;rintro e w' ⟨rfl,rfl⟩);go_ret;exact⟨rfl,rfl⟩
end di
def U9 (A:Option Addr)(n c g:Nat)(q:Qy)(s:fV):List Value:=[.slice A n c,.pointer (some ⟨g,0,none⟩),.slice s.a1 q.items.length s.c1,.int .i64 q.mode,.int .i64 q.after,.slice s.a2 q.wh.length s.c2,.int .i64 q.within,.string q.au,.slice s.a3 q.ret.length s.c3]
structure TX (w:World)(B gt g:Nat)(F:Nat->Prop)(A:Option Addr)(c:Nat)(S:List Td)(T:List Kd)(nl:List Ls)(q:Qy)(s:fV):Prop where
 bt:ao w gt 103 (U9 A S.length c g q s)
 ds:DS w B g T nl
 rs:Rd w F (.slice A S.length c) (.sl S.length (S.flatMap fj))
 qr:QR w F q s
section
variable {w W:World}{B gt g:Nat}{F:Nat->Prop}{A:Option Addr}{c:Nat}{S:List Td}{T:List Kd}{nl:List Ls}{q:Qy}{s:fV}
theorem DS.stay (h:DS w B g T nl)(hb:Bw w W):DS W B g T nl:=by
 obtain⟨vk,vl,au,l,hD,h1⟩:=h;exact⟨vk,vl,au,l,hD.stay hb,h1⟩
theorem TX.stay (h:TX w B gt g F A c S T nl q s)(hb:Bw w W):TX W B gt g F A c S T nl q s:=⟨h.bt.stay hb,h.ds.stay hb,h.rs.under hb h.qr.lt,h.qr.under hb⟩
theorem TX.cells (h:TX w B gt g F A c S T nl q s):w.cell? ⟨gt,0,none⟩=some (.slice A S.length c)/\w.cell? ⟨gt,1,none⟩=some (.pointer (some ⟨g,0,none⟩))/\w.cell? ⟨gt,2,none⟩=some (.slice s.a1 q.items.length s.c1)/\w.cell? ⟨gt,3,none⟩=some (.int .i64 q.mode)/\
  w.cell? ⟨gt,4,none⟩=some (.int .i64 q.after)/\w.cell? ⟨gt,5,none⟩=some (.slice s.a2 q.wh.length s.c2)/\w.cell? ⟨gt,6,none⟩=some (.int .i64 q.within)/\w.cell? ⟨gt,7,none⟩=some (.string q.au)/\w.cell? ⟨gt,8,none⟩=some (.slice s.a3 q.ret.length s.c3):=
 ⟨h.bt.cell 0,h.bt.cell 1,h.bt.cell 2,h.bt.cell 3,h.bt.cell 4,h.bt.cell 5,h.bt.cell 6,h.bt.cell 7,h.bt.cell 8⟩
end
theorem Y7 {q:Qy}{v a}:(q.ret.any λt=>t.any (cQ v a))=q.ret.any λt=>t.any (cQ v a):=rfl
namespace di
open cH
theorem Hq (x v a q q2 W)(hq:W.cell? ⟨q,2,none⟩=some (.string v))(mV:W.cell? ⟨q2,0,none⟩=some (.string a)):
  Cl 103 #[.agg #[.int .i64 x.op,.int .i64 x.n,.string x.v,.string x.at_,.int .i64 x.a,.int .i64 x.b],.pointer (some ⟨q,0,none⟩),.pointer (some ⟨q2,0,none⟩)] W λe w'=>e=.returned (.bool (cQ v a x))/\Bw W w':=by
 have hb:=Hd ((zB W.heap.size W).alloc nR (.cells ⟨[.int .i64 x.op,.int .i64 x.n,.string x.v,.string x.at_,.int .i64 x.a,.int .i64 x.b]⟩ 63));have h1:=zX W _ hq;have h2:=zX W _ mV;have h1:q<W.heap.size:=h1;have h2:q2<W.heap.size:=h2;have hne:q≠W.heap.size:=oQ;have Q0:q2≠W.heap.size:=oQ;have hr:cQ v a x=((x.v.toList==v.toList)&&(x.at_.toList==a.toList)):=by unfold cQ;rw[ji,ji]
 rw[hr];clear hr;obtain⟨b1,ch⟩:=aB (x.v.toList==v.toList)
 rw[<-ch];replace ch:=ch.symm;cases b1 with
 |true=>
  go_enter func103,ntmps103;go_wp2;go_ret;exact⟨fZ sJ,hb.o⟩
 |false=>
  go_enter func103,ntmps103;go_wp2;go_ret;exact⟨fZ sJ,hb.o⟩
theorem Va (A2 c2 F)(t:List Nd)(v a q q2 q3)(ht:t.length<=1048576)(W)(hF:∀b,F b->b<W.heap.size)(r:Rd W F (.slice A2 t.length c2) (.sl t.length (t.flatMap b9)))(hq:W.cell? ⟨q,2,none⟩=some (.string v))(mV:W.cell? ⟨q2,0,none⟩=some (.string a))(hq3:W.cell? ⟨q3,0,none⟩=some (.func (.func 103) #[] #[.pointer (some ⟨q,0,none⟩),.pointer (some ⟨q2,0,none⟩)])):
  Cl 106 #[.slice A2 t.length c2,.pointer (some ⟨q3,0,none⟩)] W λe w'=>e=.returned (.bool (t.any (cQ v a)))/\Bw W w':=by
 have h1:=zX W _ hq;have h2:=zX W _ mV;have hk:=Hd (Hp A2 c2 t (cQ v a) q q2 W (Ho A2 c2 F t (cQ v a) q q2 ht W hF r λW2 aX x _=>Hq x v a q q2 W2 ((aX.cell (p:=⟨q,2,none⟩) h1).trans hq) ((aX.cell (p:=⟨q2,0,none⟩) h2).trans mV)));clear r hq mV h1 h2;go_enter func106,ntmps106;go_wp2_with (go_at_call 104;refine hk.o.mono ?_;rintro e w' ⟨rfl,az⟩);go_ret;exact⟨rfl,az⟩
theorem AU {w B gt g F A c S T nl q s}(h:TX w B gt g F A c S T nl q s)(hs:jE q)(it u)(hu:u.oneCell'=true)(a):
  Cl 61 #[.pointer (some ⟨gt,0,none⟩),.agg ⟨dX it u⟩,.string a] w λe w'=>e=.returned (.bool (pU q it.v a))/\Bw w w':=by
 obtain⟨x0,x1,x2,x3,x4,x5,x6,x7,x8⟩:=h.cells;have qe:=h.bt.lt;obtain⟨W0,cg⟩:=aB (((w.alloc (.cells ⟨dX it u⟩ 60)).alloc (.cells ⟨[.string a]⟩ 9)).alloc (.cells ⟨[.func (.func 103) #[] #[.pointer (some ⟨w.heap.size,0,none⟩),.pointer (some ⟨w.heap.size+1,0,none⟩)]]⟩ 187))
 have cN:Bw w W0:=by rw[cg];exact((bA).alloc sJ _).alloc (by simp;omega) _
 have oU:W0.cell? ⟨w.heap.size,2,none⟩=some (.string it.v):=by rw[cg];exact(((ao.new w 60 (dX it u)).alloc _).alloc _).cell 2
 have mV:W0.cell? ⟨w.heap.size+1,0,none⟩=some (.string a):=by
  rw[cg];exact((ao.new' (w:=w.alloc (.cells ⟨dX it u⟩ 60)) (t:=9) (cs:=[.string a]) sJ).alloc _).cell 0
 have hq3:W0.cell? ⟨w.heap.size+2,0,none⟩=some (.func (.func 103) #[] #[.pointer (some ⟨w.heap.size,0,none⟩),.pointer (some ⟨w.heap.size+1,0,none⟩)]):=by
  rw[cg];exact(ao.new' (w:=(w.alloc (.cells ⟨dX it u⟩ 60)).alloc (.cells ⟨[.string a]⟩ 9)) (t:=187) (cs:=[.func (.func 103) #[] #[.pointer (some ⟨w.heap.size,0,none⟩),.pointer (some ⟨w.heap.size+1,0,none⟩)]]) sJ).cell 0
 have gp:W0.heap.size=w.heap.size+3:=by rw[cg];simp
 have iz:=h.stay cN;obtain⟨y0,y1,y2,y3,y4,y5,y6,y7,y8⟩:=iz.cells;have kw:∀W,Bw W0 W->Cl 104 #[.slice s.a2 q.wh.length s.c2,.func (.func 103) #[] #[.pointer (some ⟨w.heap.size,0,none⟩),.pointer (some ⟨w.heap.size+1,0,none⟩)]] W λe w'=>e=.returned (.bool (q.wh.any (cQ it.v a)))/\Bw W w':=λW hW=>
  Hp s.a2 s.c2 q.wh (cQ it.v a) w.heap.size (w.heap.size+1) W (Ho s.a2 s.c2 F q.wh (cQ it.v a) w.heap.size (w.heap.size+1) hs.wh.1 W (iz.qr.under hW).lt (iz.qr.under hW).r2 λW2 aX x _=>Hq x it.v a w.heap.size (w.heap.size+1) W2 ((aX.cell (p:=⟨w.heap.size,2,none⟩) (by have:=hW.size;simp;omega)).trans ((hW.cell (p:=⟨w.heap.size,2,none⟩) (by simp;omega)).trans oU)) ((aX.cell (p:=⟨w.heap.size+1,0,none⟩) (by have:=hW.size;simp;omega)).trans ((hW.cell (p:=⟨w.heap.size+1,0,none⟩) (by simp;omega)).trans mV)))
 have kr:∀W,Bw W0 W->Cl 105 #[.slice s.a3 q.ret.length s.c3,.func (.func 106) #[] #[.pointer (some ⟨w.heap.size+2,0,none⟩)]] W λe w'=>e=.returned (.bool (q.ret.any λt=>t.any (cQ it.v a)))/\Bw W w':=λW hW=>
  QY s.a3 s.c3 q.ret (λt=>t.any (cQ it.v a)) (w.heap.size+2) W (QX s.a3 s.c3 F q.ret (λt=>t.any (cQ it.v a)) (w.heap.size+2) hs.rl W (iz.qr.under hW).lt (iz.qr.under hW).r3 λW2 aX t ht A2 c2 rt=>Va A2 c2 F t it.v a w.heap.size (w.heap.size+1) (w.heap.size+2) (hs.re t ht).1 W2 (λb hb=>zF ((iz.qr.under hW).lt b hb) aX.size) rt
   ((aX.cell (p:=⟨w.heap.size,2,none⟩) (by have:=hW.size;simp;omega)).trans ((hW.cell (p:=⟨w.heap.size,2,none⟩) (by simp;omega)).trans oU)) ((aX.cell (p:=⟨w.heap.size+1,0,none⟩) (by have:=hW.size;simp;omega)).trans ((hW.cell (p:=⟨w.heap.size+1,0,none⟩) (by simp;omega)).trans mV)) ((aX.cell (p:=⟨w.heap.size+2,0,none⟩) (by have:=hW.size;simp;omega)).trans ((hW.cell (p:=⟨w.heap.size+2,0,none⟩) (by simp;omega)).trans hq3)))
 have CV:=tS
 have Qv:pU q it.v a=((q.au.toList==a.toList)||(q.wh.any (cQ it.v a)||q.ret.any λt=>t.any (cQ it.v a))):=by unfold pU;rw[ji]
 rw[Qv];generalize q.wh.any (cQ it.v a)=b2 at*;generalize (q.ret.any λt=>t.any (cQ it.v a))=b3 at*;have kc:∀W,Bw W0 W->W.cell? ⟨gt,7,none⟩=some (.string q.au)/\W.cell? ⟨w.heap.size+1,0,none⟩=some (.string a)/\W.cell? ⟨gt,5,none⟩=some (.slice s.a2 q.wh.length s.c2)/\W.cell? ⟨w.heap.size+2,0,none⟩=some (.func (.func 103) #[] #[.pointer (some ⟨w.heap.size,0,none⟩),.pointer (some ⟨w.heap.size+1,0,none⟩)])/\W.cell? ⟨gt,8,none⟩=some (.slice s.a3 q.ret.length s.c3):=λW hW=>
  ⟨(hW.cell (p:=⟨gt,7,none⟩) (by simp;omega)).trans y7,(hW.cell (p:=⟨w.heap.size+1,0,none⟩) (by simp;omega)).trans mV,(hW.cell (p:=⟨gt,5,none⟩) (by simp;omega)).trans y5,(hW.cell (p:=⟨w.heap.size+2,0,none⟩) (by simp;omega)).trans hq3,(hW.cell (p:=⟨gt,8,none⟩) (by simp;omega)).trans y8⟩
 obtain⟨b1,ch⟩:=aB (q.au.toList==a.toList)
 rw[<-ch];replace ch:=ch.symm;clear x0 x1 x2 x3 x4 x5 x6 x7 x8 y0 y1 y2 y3 y4 y5 y6 y7 y8 oU mV hq3 Qv iz h hs;obtain⟨A1,c1,A2,c2,A3,c3⟩:=s;simp only[dX]at cg kw kr kc |-;have qd:=Hd cg;replace⟨kw,kr,kc,cN,gp⟩:=H5 kw kr kc cN gp;clear cg;go_enter func61,ntmps61;go_upto_region 2 with fail
 have e2:w.heap.size+1+1=w.heap.size+2:=rfl;rw[e2];rw[<-qd.o];clear e2;obtain⟨y7,z2,y5,z3,y8⟩:=kc.o W0 bR;cases b1 with
 |true=>
  go_quiet (fail);go_wp2;go_ret;exact⟨fZ sJ,below_drewN cN.o _⟩
 |false=>
  have ak:(W0.drew.cell? ⟨gt,7,none⟩=some (.string q.au)/\W0.drew.cell? ⟨w.heap.size+1,0,none⟩=some (.string a)/\W0.drew.cell? ⟨gt,5,none⟩=some (.slice A2 q.wh.length c2)/\W0.drew.cell? ⟨w.heap.size+2,0,none⟩=some (.func (.func 103) #[] #[.pointer (some ⟨w.heap.size,0,none⟩),.pointer (some ⟨w.heap.size+1,0,none⟩)])/\W0.drew.cell? ⟨gt,8,none⟩=some (.slice A3 q.ret.length c3))/\True:=⟨⟨y7,z2,y5,z3,y8⟩,trivial⟩;refine aC (p:=100) (S0:=λW=>W.cell? ⟨gt,7,none⟩=some (.string q.au)/\W.cell? ⟨w.heap.size+1,0,none⟩=some (.string a)/\W.cell? ⟨gt,5,none⟩=some (.slice A2 q.wh.length c2)/\W.cell? ⟨w.heap.size+2,0,none⟩=some (.func (.func 103) #[] #[.pointer (some ⟨w.heap.size,0,none⟩),.pointer (some ⟨w.heap.size+1,0,none⟩)])/\W.cell? ⟨gt,8,none⟩=some (.slice A3 q.ret.length c3)) (S1:=λ_=>True) kQ ?_;refine' aq 0 rfl ak ?_;refine' aq 1 rfl ak ?_;refine' aq 2 rfl ak ?_;refine' aq 3 rfl ak ?_;refine' aq 4 rfl ak ?_;refine' aq 5 rfl ak ?_;refine' aq 6 rfl ak ?_;refine' aq 7 rfl ak ?_;refine' aq 8 rfl ak ?_;refine' aq 9 rfl ak ?_;refine' aq 10 rfl ak ?_;refine' aq 11 rfl ak ?_;refine' aq 12 rfl ak ?_;refine' aq 13 rfl ak ?_;try simp only[Act.put,aK]
  refine Gs 14 rfl λK hK=>?_
  go_simp;go_at_call 104;refine(kw.o W0.drew (bR).drew).eQ λw2 cD=>?_;have aX:=Hd ((zB W0.heap.size W0).drew.trans cD);refine hK.o _ _ ⟨kc.o w2 aX.o,λ_=>trivial⟩ ?_;have bF:_/\True:=⟨kc.o w2 aX.o,trivial⟩;clear hK K ak cD;try simp only[Act.put,aK]
  cases b2 with
  |true=>
   refine' aq 15 rfl bF ?_;refine' aq 16 rfl bF ?_;try simp only[Act.put,aK]
   refine' bm (i:=17) (v:=_) rfl dQ kQ kQ kQ (λ_ _ _ h=>h) bF (.inr ⟨by go_simp,rfl⟩) ?aaY;try simp only[Act.put,aK]
   refine' bm (i:=18) (v:=_) rfl dQ kQ kQ kQ (λ_ _ _ h=>h) bF (.inr ⟨by go_simp,rfl⟩) ?aaZ;try simp only[Act.put,aK]
   refine' bm (i:=19) (v:=_) rfl dQ kQ kQ kQ (λ_ _ _ h=>h) bF (.inr ⟨by go_simp,rfl⟩) ?aa0;try simp only[Act.put,aK]
   refine' bm (i:=20) (v:=_) rfl dQ kQ kQ kQ (λ_ _ _ h=>h) bF (.inr ⟨by go_simp,rfl⟩) ?aa1;try simp only[Act.put,aK]
   refine' bm (i:=21) (v:=_) rfl dQ kQ kQ kQ (λ_ _ _ h=>h) bF (.inr ⟨by go_simp,rfl⟩) ?aa2;try simp only[Act.put,aK]
   refine' bm (i:=22) (v:=_) rfl dQ kQ kQ kQ (λ_ _ _ h=>h) bF (.inr ⟨by go_simp,rfl⟩) ?aa3;try simp only[Act.put,aK]
   refine' bm (i:=23) (v:=_) rfl dQ kQ kQ kQ (λ_ _ _ h=>h) bF (.inr ⟨by go_simp,rfl⟩) ?aa4;refine' aq 24 rfl bF ?_;try simp only[Act.put,aK]
   refine Gs 25 rfl λK hK=>?_
   go_simp;refine hK.o _ _ ⟨bF.1,λ_=>trivial⟩ ?_;clear hK K;refine Gd _ ?_;try simp only[Act.put,aK]
   clear bF;go_wp2;go_ret;exact⟨fZ sJ,cN.o.trans (aX.o.mono (by rw[gp.o];omega))⟩
  |false=>
   refine' aq 15 rfl bF ?_;refine' aq 16 rfl bF ?_;refine' aq 17 rfl bF ?_;refine' aq 18 rfl bF ?_;refine' aq 19 rfl bF ?_;refine' aq 20 rfl bF ?_;refine' aq 21 rfl bF ?_;refine' aq 22 rfl bF ?_;try simp only[Act.put,aK]
   refine Gs 23 rfl λK hK=>?_
   go_simp;go_at_call 105;refine(kr.o w2 aX.o).eQ λw3 ig=>?_;have jv:=Hd (aX.o.trans (ig.mono aX.o.size));refine hK.o _ _ ⟨kc.o w3 jv.o,λ_=>trivial⟩ ?_;have Dq:_/\True:=⟨kc.o w3 jv.o,trivial⟩;clear hK K bF ig;refine' aq 24 rfl Dq ?_;try simp only[Act.put,aK]
   refine Gs 25 rfl λK hK=>?_
   go_simp;refine hK.o _ _ ⟨Dq.1,λ_=>trivial⟩ ?_;clear hK K;refine Gd _ ?_;try simp only[Act.put,aK]
   clear Dq;go_wp2;go_ret;exact⟨fZ sJ,cN.o.trans (jv.o.mono (by rw[gp.o];omega))⟩
end di
