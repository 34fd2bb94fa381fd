/- Schemas that change. -/
import Derived.Test.YtjbcbibkhalagaaGreatDoorSc4
namespace Go.Proofs.YtjbcbibkhalagaaGreatDoor
set_option maxRecDepth 100000
set_option maxHeartbeats 16000000
open Proofs.Tryz Go.RowKit Go.Deep
set_option linter.unusedVariables false
structure Fd where
 nm:ByteArray
 fr:Int
 fl:Int
deriving Inhabited
structure Kd where
 nm:ByteArray
 fr:Int
 fs:List Fd
deriving Inhabited
structure Cg where
 kd:Int
 ty:ByteArray
 at_:ByteArray
 nm:ByteArray
 ats:List ByteArray
 n:Int
def jA (f:Fd):List Value:=[.string f.nm,.int .i64 f.fr,.int .i64 f.fl]
def dt (f:Fd):List D:=[.v (.string f.nm),.v (.int .i64 f.fr),.v (.int .i64 f.fl)]
def lW (k:Kd):List D:=[.v (.string k.nm),.v (.int .i64 k.fr),.sl k.fs.length (k.fs.flatMap dt)]
def pB (c:Cg):List D:=[.v (.int .i64 c.kd),.v (.string c.ty),.v (.string c.at_),.v (.string c.nm),.sl c.ats.length (c.ats.flatMap aG),.v (.int .i64 c.n)]
def cR (k:Kd):Td:=⟨k.nm,k.fs.map (·.nm)⟩
theorem gY (w G f):fB w G (jA f) (dt f):=⟨.v _ rfl,.v _ rfl,.v _ rfl,trivial⟩
def xt (l:List ByteArray)(s:ByteArray):Option Nat:=l.findIdx? (λa=>decide (a=s))
theorem X7 {l s}(h:∀(i:Nat) a,l[i]? =some a->a≠s):xt l s=none:=by
 rw[xt,List.findIdx?_eq_none_iff];intro a ha;obtain⟨i,hi⟩:=zN ha;simpa using h i a hi
theorem X8 {l s j}(h:l[j]? =some s)(hp:∀i a,l[i]? =some a->i<j->a≠s):xt l s=some j:=by
 rw[xt,List.findIdx?_eq_some_iff_getElem];obtain⟨hj,e⟩:=zC.1 h;refine⟨hj,by simpa using e,λi hi=>?_⟩;simpa using hp i l[i] (zI oQ) hi
theorem HW {l s j}(h:xt l s=some j):j<l.length:=by
 rw[xt,List.findIdx?_eq_some_iff_getElem]at h;exact h.1
def cm:Option Nat->Int
 |some i=>i
 |none=> -1
def eu (l:List Kd)(s:ByteArray):Option Nat:=xt (l.map (·.nm)) s
def iB (l:List Fd)(s:ByteArray):Option Nat:=xt (l.map (·.nm)) s
theorem lC {l s j}(h:eu l s=some j):j<l.length:=by simpa using HW h
theorem uF {l s j}(h:iB l s=some j):j<l.length:=by simpa using HW h
def yu (l:List Fd)(k n:Nat):List Fd:=(l.eraseIdx k).take n++(l[k]?.toList++(l.eraseIdx k).drop n)
def jx (l:List Fd)(c:Cg):Option (List Fd):=
 if c.kd=4 then some (l++[⟨c.nm,-1,c.n⟩])else
  match iB l c.at_ with
  |none=>none
  |some k=>if c.kd=5 then some (l.eraseIdx k)else if c.kd=6 then some (l.modify k λf=>{f with nm:=c.nm})else if 0<=c.n/\c.n<l.length then some (yu l k c.n.toNat)else none
def lS (c:Cg):Kd:=⟨c.ty,-1,c.ats.map λa=>⟨a,-1,0⟩⟩
def l6 (l:List Kd)(c:Cg):Option (List Kd):=
 if c.kd=1 then some (l++[lS c])else
  if 2<=c.kd/\c.kd<=7 then
   match eu l c.ty with
   |none=>none
   |some i=>if c.kd=2 then some (l.eraseIdx i)else if c.kd=3 then some (l.modify i λk=>{k with nm:=c.nm})else
    match l[i]? with
    |none=>none
    |some k=>(jx k.fs c).map λfs=>l.set i {k with fs:=fs}
  else none
def e9 (l:List ByteArray):List Fd:=l.mapIdx λj a=>⟨a,j,0⟩
def fu (S:List Td):List Kd:=S.mapIdx λi t=>⟨t.name,i,e9 t.attrs⟩
def aD (S:List Td)(L:List Cg):Nat->List Kd
 |0=>fu S
 |k+1=>match L[k]? with
  |some c=>(l6 (aD S L k) c).getD []
  |none=>aD S L k
def eH (S:List Td)(L:List Cg)(k:Nat):Prop:=∃c l,L[k]? =some c/\l6 (aD S L k) c=some l/\dy (l.map cR)=0
theorem mI {S L k c l}(h:L[k]? =some c)(hc:l6 (aD S L k) c=some l):aD S L (k+1)=l:=by
 rw[aD,h];simp[hc]
def fJ (S:List Td)(L:List Cg)(T:Option (List Kd))(code at_:Int):Prop:=
 (dy S≠0/\T=none/\code=dy S/\at_=0)\/(dy S=0/\32<L.length/\T=none/\code=290/\at_=32)\/
 (dy S=0/\L.length<=32/\∃k,k<L.length/\(∀j,j<k->eH S L j)/\¬eH S L k/\T=none/\code=290/\at_=k)\/
 (dy S=0/\L.length<=32/\(∀j,j<L.length->eH S L j)/\T=some (aD S L L.length)/\code=0/\at_=0)
theorem fJ.uniq {S L T T' c c' a a'}(h:fJ S L T c a)(h':fJ S L T' c' a'):T'=T/\c'=c/\a'=a:=by
 rcases h with⟨h1,rfl,rfl,rfl⟩|⟨h1,h2,rfl,rfl,rfl⟩|⟨h1,h2,k,hk,hj,hn,rfl,rfl,rfl⟩|⟨h1,h2,hj,rfl,rfl,rfl⟩<;>
  rcases h' with⟨g1,rfl,rfl,rfl⟩|⟨g1,g2,rfl,rfl,rfl⟩|⟨g1,g2,m,gk,gj,gn,rfl,rfl,rfl⟩|⟨g1,g2,gj,rfl,rfl,rfl⟩<;>first|exact⟨rfl,rfl,rfl⟩|omega |skip
 .have:k=m:=by
   rcases Nat.lt_trichotomy k m with h |h |h
   .exact absurd (gj k h) hn
   .exact h
   .exact absurd (hj m h) gn
  subst this;exact⟨rfl,rfl,rfl⟩
 .exact absurd (gj k hk) hn
 .exact absurd (hj m gk) gn
theorem nI (l s):cm (xt l s)=aj l s:=by unfold aj xt cm;cases l.findIdx? (λa=>decide (a=s))<;>rfl
theorem Bx:nW prog 169 173 3 32:=.of underlying169 kQ oQ
theorem JE:nW prog 124 171 3 48:=.of underlying124 kQ oQ
theorem R8 {α:Type}{l:List α}{j k x}(h:l[j]? =some x)(hne:j≠k):(l.take (j+1)).eraseIdx k=(l.take j).eraseIdx k++[x]:=by
 have hj:=(zC.1 h).1;rw[zJ,h];rcases Nat.lt_or_gt_of_ne hne with hlt |qe
 .rw[List.eraseIdx_of_length_le (by simp;omega),List.eraseIdx_of_length_le (by simp;omega)];rfl
 .rw[List.eraseIdx_append_of_lt_length (by simp;omega)];rfl
theorem R9 {α:Type}{l:List α}{k x}(h:l[k]? =some x):(l.take (k+1)).eraseIdx k=(l.take k).eraseIdx k:=by
 have hj:=(zC.1 h).1;have e1:(l.take k).length=k:=by simp;omega
 rw[zJ,h,List.eraseIdx_append_of_length_le oQ,e1,Nat.sub_self,List.eraseIdx_of_length_le (l:=l.take k) oQ];simp
namespace di
open cH
theorem NM (A c F l s)(hl:l.length<=1048576)(w)(r:Rd w F (.slice A l.length c) (.sl l.length (l.flatMap lW))):
  Cl 122 #[.slice A l.length c,.string s] w λe w'=>e=.returned (.int .i64 (cm (eu l s)))/\w'=w:=by
 rw[eu,nI];replace r:=Hd r;generalize hc:aj (l.map (·.nm)) s=b;replace hc:=Hd hc;go_enter func122,ntmps122;go_wp2;go_loopw [5] (λi wr=>∃j:Nat,j<=l.length/\i=.int .i64 j/\wr=w/\(∀(i:Nat) a,(l.map (·.nm))[i]? =some a->i<j->a≠s)) (λi _=>l.length- (intOf i).toNat)
 .exact⟨0,zE _,rfl,rfl,λi a h h3=>by omega⟩
 obtain⟨j,hj,rfl,rfl,hp⟩:=hrel;replace hp:=Hd hp;by_cases hlt:j<l.length
 .obtain⟨x,hx⟩:=av hlt;obtain⟨g,off,rfl,_,ha,_⟩:=r.o.cP (m:=3) (λ_=>rfl) hx oQ;have a0:wr.cell? ⟨g,off+j*3,none⟩=some (.string x.nm):=ha 0 _ rfl;have g0:=aH j;have g1:=aV j l.length;have iq:(l.map (·.nm))[j]? =some x.nm:=by rw[zG,hx];rfl
  replace iq:=Hd iq;clear ha hx;by_cases hu:x.nm=s
  .have la:(x.nm.toList==s.toList)=true:=(by rw[ji];exact zW hu);obtain rfl:b=(j:Int):=by rw[<-hc.o];exact dC (by rw[iq.o,hu]) hp.o
   replace hu:=Hd hu;go_wp2;go_ret;exact⟨rfl,rfl⟩
  .have la:(x.nm.toList==s.toList)=false:=(by rw[ji];exact zV hu);replace hu:=Hd hu;go_wp2;go_roundw
   .refine⟨j+1,oQ,gQ,by trivial,λi a h h3=>?_⟩;by_cases dE:i=j
    .subst dE;obtain rfl:x.nm=a:=by have:=iq.o;rw[h]at this;exact(eO this).symm
     exact hu.o
    .exact hp.o i a h oQ
   exact mQ
 .have g1:=jS j l.length;have g2:decide (j<l.length)=false:=zV hlt;obtain rfl:b= -1:=by
   rw[<-hc.o];exact dH λi a h=>hp.o i a h (by have:=(zC.1 h).1;simp at this;omega)
  go_wp2;go_ret;exact⟨rfl,rfl⟩
theorem NN (A c F l s)(hl:l.length<=1048576)(w)(r:Rd w F (.slice A l.length c) (.sl l.length (l.flatMap dt))):
  Cl 151 #[.slice A l.length c,.string s] w λe w'=>e=.returned (.int .i64 (cm (iB l s)))/\w'=w:=by
 rw[iB,nI];replace r:=Hd r;generalize hc:aj (l.map (·.nm)) s=b;replace hc:=Hd hc;go_enter func151,ntmps151;go_wp2;go_loopw [5] (λi wr=>∃j:Nat,j<=l.length/\i=.int .i64 j/\wr=w/\(∀(i:Nat) a,(l.map (·.nm))[i]? =some a->i<j->a≠s)) (λi _=>l.length- (intOf i).toNat)
 .exact⟨0,zE _,rfl,rfl,λi a h h3=>by omega⟩
 obtain⟨j,hj,rfl,rfl,hp⟩:=hrel;replace hp:=Hd hp;by_cases hlt:j<l.length
 .obtain⟨x,hx⟩:=av hlt;obtain⟨g,off,rfl,_,ha,_⟩:=r.o.cP (m:=3) (λ_=>rfl) hx oQ;have a0:wr.cell? ⟨g,off+j*3,none⟩=some (.string x.nm):=ha 0 _ rfl;have g0:=aH j;have g1:=aV j l.length;have iq:(l.map (·.nm))[j]? =some x.nm:=by rw[zG,hx];rfl
  replace iq:=Hd iq;clear ha hx;by_cases hu:x.nm=s
  .have la:(x.nm.toList==s.toList)=true:=(by rw[ji];exact zW hu);obtain rfl:b=(j:Int):=by rw[<-hc.o];exact dC (by rw[iq.o,hu]) hp.o
   replace hu:=Hd hu;go_wp2;go_ret;exact⟨rfl,rfl⟩
  .have la:(x.nm.toList==s.toList)=false:=(by rw[ji];exact zV hu);replace hu:=Hd hu;go_wp2;go_roundw
   .refine⟨j+1,oQ,gQ,by trivial,λi a h h3=>?_⟩;by_cases dE:i=j
    .subst dE;obtain rfl:x.nm=a:=by have:=iq.o;rw[h]at this;exact(eO this).symm
     exact hu.o
    .exact hp.o i a h oQ
   exact mQ
 .have g1:=jS j l.length;have g2:decide (j<l.length)=false:=zV hlt;obtain rfl:b= -1:=by
   rw[<-hc.o];exact dH λi a h=>hp.o i a h (by have:=(zC.1 h).1;simp at this;omega)
  go_wp2;go_ret;exact⟨rfl,rfl⟩
theorem yR (A c F)(l:List Fd)(k:Nat)(hl:l.length<=1048576)(w)(hF:∀b,F b->b<w.heap.size)(r:Rd w F (.slice A l.length c) (.sl l.length (l.flatMap dt))):
  Cl 152 #[.slice A l.length c,.int .i64 k] w λe w'=>∃v,e=.returned v/\OL w' w.heap.size (λ_=>False) 173 3 v (l.eraseIdx k).length ((l.eraseIdx k).flatMap dt)/\Bw w w':=by
 replace⟨r,hF⟩:=H2 r hF;go_enter func152,ntmps152;go_wp2;go_loopw [5,6] (λv x wr=>∃j:Nat,j<=l.length/\x=.int .i64 j/\OL wr w.heap.size (λ_=>False) 173 3 v ((l.take j).eraseIdx k).length (((l.take j).eraseIdx k).flatMap dt)/\Bw w wr) (λ_ x _=>l.length- (intOf x).toNat)
 .exact⟨0,zE _,rfl,.nil _ _ _ _ _,.refl _ _⟩
 obtain⟨j,hj,rfl,hO,hB⟩:=hrel;by_cases hlt:j<l.length
 .obtain⟨e,he⟩:=av hlt;have g0:=aH j;have g1:=aV j l.length;have hsz:=hB.size;by_cases hk:j=k
  .subst hk;have hE:=Hd (R9 he);clear he;go_wp2;go_roundw
   .exact⟨j+1,oQ,gQ,by rw[hE.o];exact hO,hB⟩
   exact mQ
  .have hE:=R8 (k:=k) he hk;have hle:((l.take j).eraseIdx k).length<=1048576:=by
    have:=List.length_eraseIdx_le (l.take j) k;simp at this |-;omega
   have C9:¬((j:Int)=k):=oQ;obtain⟨b,off,rfl,_,hv,_⟩:=(r.o.under hB hF.o).cP (m:=3) (λ_=>rfl) he oQ;have x0:wr.cell? ⟨b,off+j*3,none⟩=some (.string e.nm):=hv 0 _ rfl;have x1:wr.cell? ⟨b,off+j*3+1,none⟩=some (.int .i64 e.fr):=hv 1 _ rfl;have x2:wr.cell? ⟨b,off+j*3+2,none⟩=some (.int .i64 e.fl):=hv 2 _ rfl;replace hE:=Hd hE;clear hv he;go_wp2_with (at_builtin;refine ez rfl (.tmp 16) (.tmp 21) _ rfl (m:=1) (news:=dt e) Bx (hO.alloc (.cells ⟨jA e⟩ 173)) rfl rfl (Src.lit (gY wr _ e)) rfl oQ oQ (by simp;omega) ?_;intro v' w1 ax aw bu);go_roundw
   .refine⟨j+1,oQ,gQ,?_,(hB.alloc hB.size (.cells ⟨jA e⟩ 173)).grown aw (by simp;omega) (λq hq=>(hO.lt q hq).1)⟩;rw[hE.o];simpa using ax
   exact mQ
 .obtain rfl:j=l.length:=oQ;rw[zL]at hO;go_wp2;go_ret;exact⟨_,rfl,hO,hB⟩
end di
def nJ (rest:List Fd)(x:Fd)(n:Int)(i:Nat):List Fd:=if 0<=n/\n<i then rest.take n.toNat++([x]++(rest.take i).drop n.toNat)else rest.take i
theorem Wt {rest x e}{n:Int}{i:Nat}(h:rest[i]? =some e)(hn:n=i):nJ rest x n (i+1)=(nJ rest x n i++[x])++[e]:=by
 have hi:=(zC.1 h).1;subst hn;rw[nJ,if_pos oQ,nJ,if_neg oQ,Int.toNat_natCast,zJ,h,List.drop_append_of_le_length (by simp;omega),List.drop_of_length_le (by simp;omega)];simp
theorem Sb {rest x e}{n:Int}{i:Nat}(h:rest[i]? =some e)(hn:n≠i):nJ rest x n (i+1)=nJ rest x n i++[e]:=by
 have hi:=(zC.1 h).1;rw[nJ,nJ];by_cases h0:0<=n/\n<i
 .rw[if_pos oQ,if_pos h0,zJ,h,List.drop_append_of_le_length (by simp;omega)];simp
 .rw[if_neg oQ,if_neg h0,zJ,h];rfl
theorem NP (rest x n i):(nJ rest x n i).length<=rest.length+1:=by
 unfold nJ;split
 .simp;omega
 .simp;omega
theorem Wu {l k x n}(h:l[k]? =some x)(h0:0<=n)(h1:n<l.length):
  (if((l.eraseIdx k).length:Int)=n then nJ (l.eraseIdx k) x n (l.eraseIdx k).length++[x]else nJ (l.eraseIdx k) x n (l.eraseIdx k).length)=yu l k n.toNat:=by
 have hk:=(zC.1 h).1;have hlen:(l.eraseIdx k).length=l.length-1:=List.length_eraseIdx_of_lt hk;unfold yu nJ;rw[h];split
 .rename_i e;have:n.toNat=(l.eraseIdx k).length:=oQ;rw[if_neg oQ,this];simp
 .rename_i e;rw[if_pos ⟨h0,oQ⟩];simp
def NQ (l:List Fd)(k:Nat)(n:Int)(w:World)(e:Ending)(w':World):Prop:=∃v L',e=.returned v/\(0<=n->n<l.length->L'=yu l k n.toNat)/\L'.length<=l.length+1/\OL w' w.heap.size (λ_=>False) 173 3 v L'.length (L'.flatMap dt)/\Bw w w'
namespace di
open cH
theorem Sc (A c F l)(k:Nat)(x)(hx:l[k]? =some x)(n)(hl:l.length<=1048576)(w)(hF:∀b,F b->b<w.heap.size)(r:Rd w F (.slice A l.length c) (.sl l.length (l.flatMap dt))):
  Cl 153 #[.slice A l.length c,.int .i64 k,.int .i64 n] w (NQ l k n w):=by
 have hk:=(zC.1 hx).1;have hlen:(l.eraseIdx k).length=l.length-1:=List.length_eraseIdx_of_lt hk;have nk:=Wu (n:=n) hx;have kw:=yR A c F l k hl w hF r;have Ba:∀W,Bw w W->∃b off,A=some ⟨b,off,none⟩/\W.cell? ⟨b,off+k*3,none⟩=some (.string x.nm)/\W.cell? ⟨b,off+k*3+1,none⟩=some (.int .i64 x.fr)/\W.cell? ⟨b,off+k*3+2,none⟩=some (.int .i64 x.fl):=λW hW=>by
  obtain⟨b,off,e,_,hv,_⟩:=(r.under hW hF).cP (m:=3) (λ_=>rfl) hx oQ;exact⟨b,off,e,hv 0 _ rfl,hv 1 _ rfl,hv 2 _ rfl⟩
 have q0:=aH k;have q1:=aV k l.length;generalize hR:l.eraseIdx k=R at*;have j7:R.length+1<=l.length:=oQ;clear hlen;replace⟨kw,Ba,nk⟩:=H3 kw Ba nk;clear r hF hx hR;go_enter func153,ntmps153;go_wp2_with (go_at_call 152;refine kw.o.mono ?_;rintro e W1 ⟨v7,rfl,vD,az⟩;obtain⟨U7,c7,rfl⟩:=vD.form);have cL:=az.size;have r7:=Hd (show Rd W1 (λb=>b<W1.heap.size) (.slice U7 R.length c7) (.sl R.length (R.flatMap dt)) from vD.rd (λ_ h=>h.elim) (λ_ _ h=>h));clear vD;go_loopw [8,9] (λv y wr=>∃j:Nat,j<=R.length/\y=.int .i64 j/\OL wr W1.heap.size (λ_=>False) 173 3 v (nJ R x n j).length ((nJ R x n j).flatMap dt)/\Bw W1 wr) (λ_ y _=>R.length- (intOf y).toNat)
 .refine⟨0,zE _,rfl,?_,.refl _ _⟩;have:nJ R x n 0=[]:=by unfold nJ;rw[if_neg oQ];rfl
  rw[this];exact .nil _ _ _ _ _
 obtain⟨j,hj,rfl,hO,hB⟩:=hrel;have hle:=NP R x n j;by_cases hlt:j<R.length
 .obtain⟨e,he⟩:=av hlt;have g0:=aH j;have g1:=aV j R.length;have hsz:=hB.size;obtain⟨b,off,rfl,_,hv,_⟩:=(r7.o.under hB (λ_ h=>h)).cP (m:=3) (λ_=>rfl) he oQ;have x0:wr.cell? ⟨b,off+j*3,none⟩=some (.string e.nm):=hv 0 _ rfl;have x1:wr.cell? ⟨b,off+j*3+1,none⟩=some (.int .i64 e.fr):=hv 1 _ rfl;have x2:wr.cell? ⟨b,off+j*3+2,none⟩=some (.int .i64 e.fl):=hv 2 _ rfl;clear hv;by_cases hn:(j:Int)=n
  .subst hn;have hE:=Wt (x:=x) he rfl;obtain⟨b2,jG,rfl,y0,y1,y2⟩:=Ba.o wr (az.trans (hB.mono cL));replace hE:=Hd hE;have he':=Hd he;clear he;replace⟨x0,x1,x2⟩:=H3 x0 x1 x2;have Ld:True:=trivial;have Le:True:=trivial;go_wp2_with (first
    |(at_builtin;have _t:=Ld;clear Ld;refine ez rfl (.tmp 22) (.tmp 27) _ rfl (m:=1) (news:=dt x) Bx (hO.alloc (.cells ⟨jA x⟩ 173)) rfl rfl (Src.lit (gY wr _ x)) rfl oQ oQ (by simp;omega) ?_;intro v' w1 ax aw bu;have ch:=(hB.alloc hB.size (.cells ⟨jA x⟩ 173)).grown aw (by simp;omega) (λq hq=>(hO.lt q hq).1);obtain⟨z0,z1,z2⟩:=(show w1.cell? ⟨b,off+j*3,none⟩=some (.string e.nm)/\w1.cell? ⟨b,off+j*3+1,none⟩=some (.int .i64 e.fr)/\w1.cell? ⟨b,off+j*3+2,none⟩=some (.int .i64 e.fl)from(by obtain⟨b',tX,e',_,hv,_⟩:=(r7.o.under ch (λ_ h=>h)).cP (m:=3) (λ_=>rfl) he'.o oQ;injection e' with e';injection e' with e1 e2;subst e1 e2;exact⟨hv 0 _ rfl,hv 1 _ rfl,hv 2 _ rfl⟩));have aj0:=ch.size;clear y0 y1 y2)
    |(at_builtin;have _t:=Le;clear Le;refine ez rfl (.tmp 29) (.tmp 34) _ rfl (m:=1) (news:=dt e) Bx (ax.alloc (.cells ⟨jA e⟩ 173)) rfl rfl (Src.lit (gY w1 _ e)) rfl oQ oQ (by simp;omega) ?_;intro v'' w2 iK mc n7))
   go_roundw
   .refine⟨j+1,oQ,gQ,?_,(ch.alloc ch.size (.cells ⟨jA e⟩ 173)).grown mc (by simp;omega) (λq hq=>(ax.lt q hq).1)⟩;rw[hE.o];simpa using iK
   exact mQ
  .have hE:=Hd (Sb (x:=x) he (n:=n) (λh=>hn h.symm));clear he;go_wp2_with (at_builtin;refine ez rfl (.tmp 29) (.tmp 34) _ rfl (m:=1) (news:=dt e) Bx (hO.alloc (.cells ⟨jA e⟩ 173)) rfl rfl (Src.lit (gY wr _ e)) rfl oQ oQ (by simp;omega) ?_;intro v'' w2 iK mc n7);go_roundw
   .refine⟨j+1,oQ,gQ,?_,(hB.alloc hB.size (.cells ⟨jA e⟩ 173)).grown mc (by simp;omega) (λq hq=>(hO.lt q hq).1)⟩;rw[hE.o];simpa using iK
   exact mQ
 .have Ki:j=R.length:=oQ;subst Ki;have hsz:=hB.size;obtain⟨b2,jG,rfl,y0,y1,y2⟩:=Ba.o wr (az.trans (hB.mono cL));by_cases hn:(R.length:Int)=n
  .subst hn;go_wp2_with (at_builtin;refine ez rfl (.tmp 40) (.tmp 45) _ rfl (m:=1) (news:=dt x) Bx (hO.alloc (.cells ⟨jA x⟩ 173)) rfl rfl (Src.lit (gY wr _ x)) rfl oQ oQ (by simp;omega) ?_;intro v'' w2 iK mc n7);go_ret;refine⟨_,nJ R x R.length R.length++[x],rfl,λh0 h1=>?_,by simp;omega,?_,az.trans (((hB.alloc hB.size (.cells ⟨jA x⟩ 173)).grown mc (by simp;omega) (λq hq=>(hO.lt q hq).1)).mono cL)⟩
   .have:=nk.o h0 h1;rwa [if_pos trivial]at this
   .have:=iK.base cL;simpa using this
  .go_wp2;go_ret;refine⟨_,nJ R x n R.length,rfl,λh0 h1=>?_,oQ,hO.base cL,az.trans (hB.mono cL)⟩;have:=nk.o h0 h1;rwa [if_neg hn]at this
end di
def je (c:Cg)(B:Option Addr)(d:Nat):List Value:=[.int .i64 c.kd,.string c.ty,.string c.at_,.string c.nm,.slice B c.ats.length d,.int .i64 c.n]
def fh (l:List Fd)(c:Cg)(w:World)(e:Ending)(w':World):Prop:=∃v b,e=.returned (.tuple #[v,.bool b])/\
 (∀fs,jx l c=some fs->b=true/\OL w' w.heap.size (λ_=>False) 173 3 v fs.length (fs.flatMap dt))/\(jx l c=none->b=false)/\Bw w w'
theorem fh.ey {l fs c w w' v}(h:jx l c=some fs)(hO:OL w' w.heap.size (λ_=>False) 173 3 v fs.length (fs.flatMap dt))(hb:Bw w w'):fh l c w (.returned (.tuple #[v,.bool true])) w':=
 ⟨v,true,rfl,λSd h'=>by rw[h]at h';injection h' with h';subst h';exact⟨rfl,hO⟩,λh'=>(by rw[h]at h';cases h'),hb⟩
theorem fh.du {l c w w' v}(h:jx l c=none)(hb:Bw w w'):fh l c w (.returned (.tuple #[v,.bool false])) w':=
 ⟨v,false,rfl,λSd h'=>(by rw[h]at h';cases h'),λ_=>rfl,hb⟩
theorem pz {α:Type}{l:List α}{k x}(h:l[k]? =some x)(f):l.modify k f=l.set k (f x):=by
 apply List.ext_getElem?;intro i;rw[List.getElem?_modify,xL];have gC:=(zC.1 h).1;by_cases hk:k=i
 .subst hk;have e:l[k]=x:=by rw[zI gC]at h;exact eO h
  simp[gC,e]
 .simp[hk]
theorem NR (l:List Fd):∀(k:Nat)(x:Fd)(s:ByteArray),l[k]? =some x->(l.flatMap dt).set (k*3) (.v (.string s))=(l.set k {x with nm:=s}).flatMap dt:=by
 induction l with
 |nil=>intro k x s h;simp at h
 |cons a l ih=>
  intro k x s h;cases k with
  |zero=>
   simp only[zY,Option.some.injEq]at h;subst h;rfl
  |succ k=>
   simp only[xA]at h;rw[List.set_cons_succ,zK,zK,<-ih k x s h,List.set_append,show(dt a).length=3 from rfl,if_neg oQ,show(k+1)*3-3=k*3 by omega]
theorem fh.ag9 {l c w w' v b}(h:jx l c=none)(hb:Bw w w')(hf:b=false):fh l c w (.returned (.tuple #[v,.bool b])) w':=by subst hf;exact fh.du h hb
namespace di
open cH
theorem Se (A B ca d F l c)(hk4:4<=c.kd)(hk7:c.kd<=7)(hl:l.length<=1048576)(w)(hF:∀b,F b->b<w.heap.size)(r:Rd w F (.slice A l.length ca) (.sl l.length (l.flatMap dt))):
  Cl 123 #[.slice A l.length ca,.agg #[.int .i64 c.kd,.string c.ty,.string c.at_,.string c.nm,.slice B c.ats.length d,.int .i64 c.n]] w (fh l c w):=by
 have ka:∀W,Bw w W->Cl 151 #[.slice A l.length ca,.string c.at_] W λe w'=>e=.returned (.int .i64 (cm (iB l c.at_)))/\w'=W:=λW hW=>NN A ca F l c.at_ hl W (r.under hW hF)
 have kw:∀W k,Bw w W->Cl 152 #[.slice A l.length ca,.int .i64 ((k:Nat):Int)] W λe w'=>∃v,e=.returned v/\OL w' W.heap.size (λ_=>False) 173 3 v (l.eraseIdx k).length ((l.eraseIdx k).flatMap dt)/\Bw W w':=λW k hW=>yR A ca F l k hl W (λb h=>zF (hF b h) hW.size) (r.under hW hF)
 have km:∀W k x,l[k]? =some x->Bw w W->Cl 153 #[.slice A l.length ca,.int .i64 ((k:Nat):Int),.int .i64 c.n] W (NQ l k c.n W):=λW k x hx hW=>Sc A ca F l k x hx c.n hl W (λb h=>zF (hF b h) hW.size) (r.under hW hF)
 replace⟨r,hF,ka,kw,km⟩:=H5 r hF ka kw km;go_enter func123,ntmps123;go_wp2;go_loopw [6,7] (λv x wr=>∃j:Nat,j<=l.length/\x=.int .i64 j/\OL wr (w.heap.size+1) (λ_=>False) 173 3 v j ((l.take j).flatMap dt)/\ao wr w.heap.size 73 (je c B d)/\Bw w wr) (λ_ x _=>l.length- (intOf x).toNat)
 .exact⟨0,zE _,rfl,.nil _ _ _ _ _,ao.new _ _ _,bA⟩
 obtain⟨j,hj,rfl,hO,hX,hB⟩:=hrel;have hsz:=hX.lt;by_cases hlt:j<l.length
 .obtain⟨e,he⟩:=av hlt;have g0:=aH j;have g1:=aV j l.length;obtain⟨b,off,rfl,_,hv,_⟩:=(r.o.under hB hF.o).cP (m:=3) (λ_=>rfl) he oQ;have x0:wr.cell? ⟨b,off+j*3,none⟩=some (.string e.nm):=hv 0 _ rfl;have x1:wr.cell? ⟨b,off+j*3+1,none⟩=some (.int .i64 e.fr):=hv 1 _ rfl;have x2:wr.cell? ⟨b,off+j*3+2,none⟩=some (.int .i64 e.fl):=hv 2 _ rfl;have vL:(l.take (j+1)).flatMap dt=(l.take j).flatMap dt++dt e:=by rw[zJ,he];simp
  replace⟨vL,hX⟩:=H2 vL hX;clear hv he;go_wp2_with (at_builtin;refine ez rfl (.tmp 15) (.tmp 20) _ rfl (m:=1) (news:=dt e) Bx (hO.alloc (.cells ⟨jA e⟩ 173)) rfl rfl (Src.lit (gY wr _ e)) rfl oQ oQ (by simp;omega) ?_;intro v' w1 ax aw bu);go_roundw
  .exact⟨j+1,oQ,gQ,by rw[vL.o];exact ax,(hX.o.alloc _).grown aw (λe=>by have:=(hO.lt _ e.symm).1;omega),(hB.alloc hB.size (.cells ⟨jA e⟩ 173)).grown aw (by simp;omega) (λq hq=>by have:=(hO.lt q hq).1;omega)⟩
  exact mQ
 .obtain rfl:j=l.length:=oQ;rw[zL]at hO;have z0:wr.cell? ⟨w.heap.size,0,none⟩=some (.int .i64 c.kd):=hX.cell 0;have z2:wr.cell? ⟨w.heap.size,2,none⟩=some (.string c.at_):=hX.cell 2;have z3:wr.cell? ⟨w.heap.size,3,none⟩=some (.string c.nm):=hX.cell 3;have z5:wr.cell? ⟨w.heap.size,5,none⟩=some (.int .i64 c.n):=hX.cell 5;obtain⟨kd,ty,at_,nm,ats,n⟩:=c;dsimp only at*;replace hX:=Hd hX;by_cases e4:kd=4
  .subst e4;have hch:=Hd (show jx l ⟨4,ty,at_,nm,ats,n⟩=some (l++[⟨nm,-1,n⟩]) from if_pos rfl);go_wp2_with (at_builtin;refine ez rfl (.tmp 25) (.tmp 31) _ rfl (m:=1) (news:=dt ⟨nm,-1,n⟩) Bx (hO.alloc (.cells ⟨jA ⟨nm,-1,n⟩⟩ 173)) rfl rfl (Src.lit (gY wr _ ⟨nm,-1,n⟩)) rfl oQ oQ (by simp;omega) ?_;intro v' w1 ax aw bu);go_ret2;refine fh.ey hch.o ?_ ((hB.alloc hB.size _).grown aw (by simp;omega) (λq hq=>by have:=(hO.lt q hq).1;omega));have:=ax.base (B':=w.heap.size) oQ;simpa using this
  .have d4:¬(kd==4)=true:=(by simpa using e4);cases yB:iB l at_ with
   |none=>
    have hch:jx l ⟨kd,ty,at_,nm,ats,n⟩=none:=(by unfold jx;rw[if_neg e4,yB]);rw[yB,show cm none= -1 from rfl]at ka;replace hch:=Hd hch;go_wp2_with (go_at_call 151;refine(ka.o _ hB).aR ?_);go_ret2;exact fh.du hch.o hB
   |some k=>
    have ux:=uF yB;obtain⟨x,hx⟩:=av ux;rw[yB,show cm (some k)=(k:Int)from rfl]at ka;have g0:=aH k;have g1:=aV k l.length;by_cases e5:kd=5
    .subst e5;have hch:jx l ⟨5,ty,at_,nm,ats,n⟩=some (l.eraseIdx k):=by unfold jx;rw[if_neg e4,yB];exact if_pos rfl
     replace hch:=Hd hch;go_wp2_with (first
      |(go_at_call 151;refine(ka.o _ hB).aR ?_)
      |(go_at_call 152;refine(kw.o _ k hB).mono ?_;rintro e w' ⟨v,rfl,ax,az⟩))
     go_ret2;exact fh.ey hch.o (ax.base oQ) (hB.trans (az.mono hB.size))
    .have d5:¬(kd==5)=true:=(by simpa using e5);by_cases e6:kd=6
     .subst e6;have hch:jx l ⟨6,ty,at_,nm,ats,n⟩=some (l.set k {x with nm:=nm}):=by unfold jx;rw[if_neg e4,yB];show(if _ then _ else if _ then _ else _)=_;rw[if_neg e5,if_pos rfl,pz hx]
      replace hch:=Hd hch;obtain⟨g,cap,rfl,Gn,tC,O6,hc⟩:=hO.row oQ;obtain⟨u,hu,_⟩:=hc (k*3+0) _ (po (f:=dt) (m:=3) (λ_=>rfl) hx rfl);have Ey:wr.cell? ⟨g,k*3,none⟩=some u:=hu;have hf0:wr.frozen? ⟨g,k*3,none⟩=false:=O6 _;have ax:=hO.set (j:=k*3) (u:=.string nm) (d:=.v (.string nm)) (.v _ rfl);rw[NR l k x nm hx]at ax;replace ax:=Hd ax;clear hc O6 hO;go_wp2_with (go_at_call 151;refine(ka.o _ hB).aR ?_);go_ret2;exact fh.ey hch.o (by simpa using ax.o.base oQ) (hB.setCell (by show _<=g;omega) _)
     .obtain rfl:kd=7:=oQ;have ZT:=λW hW=>km.o W k x hx hW
      replace ZT:=Hd ZT;by_cases hn:0<=n
      .by_cases tK:n<l.length
       .have hch:=Hd (show jx l ⟨7,ty,at_,nm,ats,n⟩=some (yu l k n.toNat) by unfold jx;rw[if_neg e4,yB];exact(if_neg e5).trans ((if_neg e6).trans (if_pos ⟨hn,tK⟩)));clear hx;go_upto_region 17 with(go_at_call 151;refine(ka.o _ hB).aR ?_)
        go_region_law ((go_simp;go_at_call 153;refine(ZT.o _ hB.drew).mono ?_;rintro e w2 ⟨v,L',rfl,hL,jn,ax,az⟩;have y5:w2.cell? ⟨w.heap.size,5,none⟩=some (.int .i64 n):=(ao.stay (show ao (World.drew _) _ _ _ from hX.o) az).cell 5))
        all_goals
         go_wp2;go_ret2;exact fh.ey hch.o (hL hn tK▸ax.base hB.size) (hB.drew.trans (az.mono hB.size))
       .have hch:=Hd (show jx l ⟨7,ty,at_,nm,ats,n⟩=none by unfold jx;rw[if_neg e4,yB];exact(if_neg e5).trans ((if_neg e6).trans (if_neg (λh'=>tK h'.2))));have hd:decide (n<(l.length:Int))=false:=zV tK;clear hx;go_upto_region 17 with(go_at_call 151;refine(ka.o _ hB).aR ?_)
        go_region_law ((go_simp;go_at_call 153;refine(ZT.o _ hB.drew).mono ?_;rintro e w2 ⟨v,L',rfl,hL,jn,ax,az⟩;have y5:w2.cell? ⟨w.heap.size,5,none⟩=some (.int .i64 n):=(ao.stay (show ao (World.drew _) _ _ _ from hX.o) az).cell 5))
        all_goals
         go_wp2;go_ret2;exact fh.du hch.o (hB.drew.trans (az.mono hB.size))
      .have hch:=Hd (show jx l ⟨7,ty,at_,nm,ats,n⟩=none by unfold jx;rw[if_neg e4,yB];exact(if_neg e5).trans ((if_neg e6).trans (if_neg (λh'=>hn h'.1))));have hd:decide (0<=n)=false:=zV hn;have HE:decide (n>=0)=false:=zV hn;clear hx;go_upto_region 17 with(go_at_call 151;refine(ka.o _ hB).aR ?_)
       first|go_region_law ((go_simp;go_at_call 153;refine(ZT.o _ hB.drew).mono ?_;rintro e w2 ⟨v,L',rfl,hL,jn,ax,az⟩;have y5:w2.cell? ⟨w.heap.size,5,none⟩=some (.int .i64 n):=(ao.stay (show ao (World.drew _) _ _ _ from hX.o) az).cell 5))|fail
       all_goals
        go_wp2;go_ret2;exact fh.du hch.o (hB.drew.trans (az.mono hB.size))
end di
theorem vS (l):(e9 l).length=l.length:=by simp[e9]
theorem vT (S):(fu S).length=S.length:=by simp[fu]
theorem yU {l k a}(h:l[k]? =some a):((e9 l).take (k+1)).flatMap dt=((e9 l).take k).flatMap dt++dt ⟨a,k,0⟩:=by
 rw[zJ,e9,xQ,h];simp
theorem JF {S k t}(h:S[k]? =some t):((fu S).take (k+1)).flatMap lW=((fu S).take k).flatMap lW++lW ⟨t.name,k,e9 t.attrs⟩:=by
 rw[zJ,fu,xQ,h];simp
theorem OL.now {w w':World}{B e size n v ds F}(h:OL w B F e size v n ds)(hF:∀b,F b->b<w'.heap.size):OL w B (λb=>b<w'.heap.size) e size v n ds:=h.mono hF
structure IB (wo wr:World)(T:Nat)(nm:ByteArray)(fr:Int)(u:Value)(E:Nat)(k:Nat)(ds:List D):Prop where
 hb:Bw wo wr
 bx:ao wr wo.heap.size T [.string nm,.int .i64 fr,u]
 ol:OL wr (wo.heap.size+1) (λ_=>False) E 3 u k ds
theorem IB.stay {wo wr w2 T E k nm fr u ds}(h:IB wo wr T nm fr u E k ds)(hb:Bw wr w2):IB wo w2 T nm fr u E k ds:=
 ⟨h.hb.trans (hb.mono h.hb.size),h.bx.stay hb,h.ol.stay hb⟩
theorem IB.put {wo wr w1 T E k m nm fr u v ds BM row}(h:IB wo wr T nm fr u E k ds)(hg:wr.grownBy w1 row)(hr:∀q,row=some q->wo.heap.size+1<=q)(hO:OL w1 (wo.heap.size+1) (λ_=>False) E 3 v m BM):
  IB wo (w1.setCell ⟨wo.heap.size,2,none⟩ v) T nm fr v E m BM:=by
 refine⟨(h.hb.grown hg h.hb.size (λq hq=>by have:=hr q hq;omega)).setCell nR _,(h.bx.grown hg (λe=>by have:=hr _ e.symm;omega)).dz 2 v,hO.setCell (λe=>by have:=(hO.lt _ e).1;simp at this;omega) (λh=>h) _⟩
structure SX (w wr:World)(vs:Value):Prop where
 hb:Bw w wr
 bx:ao wr w.heap.size 24 [vs]
theorem SX.grown {w wr w1 vs row}(h:SX w wr vs)(hg:wr.grownBy w1 row)(hr:∀q,row=some q->w.heap.size<q):SX w w1 vs:=
 ⟨h.hb.grown hg h.hb.size (λq hq=>by have:=hr q hq;omega),h.bx.grown hg (λe=>by have:=hr _ e.symm;omega)⟩
theorem SX.stay {w wr w2 vs}(h:SX w wr vs)(hb:Bw wr w2):SX w w2 vs:=⟨h.hb.trans (hb.mono h.hb.size),h.bx.stay hb⟩
namespace di
open cH
theorem Sf (A c F S)(hS:iI S)(w)(hF:∀b,F b->b<w.heap.size)(r:Rd w F (.slice A S.length c) (.sl S.length (S.flatMap fj))):
  Cl 78 #[.agg #[.slice A S.length c]] w λe w'=>∃v,e=.returned v/\OL w' w.heap.size (λb=>b<w'.heap.size) 171 3 v S.length ((fu S).flatMap lW)/\Bw w w':=by
 obtain⟨qK,lp⟩:=hS;replace⟨lp,hF,r⟩:=H3 lp hF r;go_enter func78,ntmps78;go_wp2;go_loopw [3,4] (λv x wr=>∃(j:Nat)(s3:Value),s3=v/\j<=S.length/\x=.int .i64 j/\OL wr (w.heap.size+1) (λb=>b<wr.heap.size) 171 3 s3 j (((fu S).take j).flatMap lW)/\SX w wr (.slice A S.length c)) (λ_ x _=>S.length- (intOf x).toNat)
 .exact⟨0,_,rfl,zE _,rfl,.nil _ _ _ _ _,bA,ao.new _ _ _⟩
 obtain⟨j,s3,rfl,hj,rfl,hO,hX⟩:=hrel;have z0:wr.cell? ⟨w.heap.size,0,none⟩=some (.slice A S.length c):=hX.bx.cell 0;by_cases hlt:j<S.length
 .obtain⟨t,ht⟩:=av hlt;obtain⟨eC,ia,EP⟩:=lp.o t (zA ht);obtain⟨b,off,rfl,pZ,hv,hsl⟩:=r.o.cP (m:=2) (λ_=>rfl) ht oQ;have kO:=hF.o b pZ;obtain⟨A2,c2,a1,r2⟩:=hsl 1 _ _ rfl;have kc:∀W,SX w W (.slice (some ⟨b,off,none⟩) S.length c)->W.cell? ⟨b,off+j*2+1,none⟩=some (.slice A2 t.attrs.length c2)/\W.cell? ⟨w.heap.size,0,none⟩=some (.slice (some ⟨b,off,none⟩) S.length c)/\Rd W F (.slice A2 t.attrs.length c2) (.sl t.attrs.length (t.attrs.flatMap aG)):=λW hW=>
   ⟨(hW.hb.cell (p:=⟨b,off+j*2+1,none⟩) kO).trans a1,hW.bx.cell 0,r2.under hW.hb hF.o⟩
  have v0:wr.cell? ⟨b,off+j*2,none⟩=some (.string t.name):=(hX.hb.cell (p:=⟨b,off+j*2,none⟩) kO).trans (hv 0 _ rfl);have g0:=aH j;have g1:=aV j S.length;have vL:=JF ht;obtain⟨wo,gU⟩:=aB wr
  subst gU;have Tw:=hX.bx.lt;replace⟨kc,vL,hO,hX⟩:=H4 kc vL hO hX;clear hv hsl r2 a1 ht;go_wp2;go_loopw [6] (λy wr=>∃(k:Nat)(u:Value),k<=t.attrs.length/\y=.int .i64 k/\IB wo wr 171 t.name j u 173 k (((e9 t.attrs).take k).flatMap dt)) (λy _=>t.attrs.length- (intOf y).toNat)
  .exact⟨0,.slice none 0 0,zE _,rfl,bA,ao.new _ _ _,.nil _ _ _ _ _⟩
  obtain⟨k,u,hk,rfl,hI⟩:=hrel;have Ps:=hX.o.stay hI.hb;obtain⟨a1,z1,r3⟩:=kc.o wr Ps;have i2:wr.cell? ⟨wo.heap.size,2,none⟩=some u:=hI.bx.cell 2;clear z0 v0;by_cases kW:k<t.attrs.length
  .obtain⟨a,ha⟩:=av kW;obtain⟨b2,jG,rfl,Sg,n7⟩:=r3.at_ ha;have q0:wr.cell? ⟨b2,jG+k,none⟩=some (.string a):=n7;have g2:=aH k;have g3:=aV k t.attrs.length;have tM:=Hd (yU ha);have hz:=hI.bx.lt;have Ec:=Hd hI;clear n7 r3 ha Ps hI;go_upto_region 9 with fail
   go_region_law ((refine dj (by rfl) (.tmp 34) (.tmp 46) _ (by rfl) (m:=1) (news:=dt ⟨a,k,0⟩) Bx (by exact(Ec.o.ol.alloc (.cells ⟨jA ⟨a,k,0⟩⟩ 173)).drew) (by rfl) (by rfl) (by exact(Src.lit (gY wr _ ⟨a,k,0⟩)).drew) rfl oQ oQ (by simp;omega) ?_;intro v' w1 ax aw bu;obtain⟨B3,d3,rfl⟩:=ax.form;have hg:=iD aw;have hB:=Ec.o.stay (bX (.cells ⟨jA ⟨a,k,0⟩⟩ 173));have t0:=hB.bx.grown hg (λe=>by have:=(Ec.o.ol.lt _ e.symm).1;omega);have t1:w1.cell? ⟨wo.heap.size,2,none⟩=some u:=t0.cell 2;have t2:w1.frozen? ⟨wo.heap.size,2,none⟩=false:=t0.frozen 2))
   all_goals
    have dB:=hB.put hg (λq hq=>(Ec.o.ol.lt q hq).1) ax;rw[<-tM.o]at dB;go_wp2_with fail;go_roundw
    .exact⟨k+1,_,oQ,gQ,dB⟩
    exact mQ
  .have qy:k=t.attrs.length:=oQ;subst qy;have jR:(e9 t.attrs).take t.attrs.length=e9 t.attrs:=xH (by simp[e9]);rw[jR]at hI;obtain⟨U,cu,rfl⟩:=hI.ol.form;have i0:wr.cell? ⟨wo.heap.size,0,none⟩=some (.string t.name):=hI.bx.cell 0;have i1:wr.cell? ⟨wo.heap.size,1,none⟩=some (.int .i64 j):=hI.bx.cell 1;have hz:=hI.bx.lt;have iK:=(hO.o.stay hI.hb).mono (G:=λb=>b<wr.heap.size) (λb h=>by omega);have qI:∀q,s3.ownBlock=some q->q<wo.heap.size:=λq hq=>(hO.o.lt q hq).2
   have uc:fB wr (λb=>b<wr.heap.size/\some b≠s3.ownBlock) [.string t.name,.int .i64 j,.slice U t.attrs.length cu] (lW ⟨t.name,j,e9 t.attrs⟩):=by
    refine⟨.v _ rfl,.v _ rfl,?_,trivial⟩;show Rd _ _ _ (.sl (e9 t.attrs).length _)
    rw[vS];exact hI.ol.Kr (λ_ h _=>h.elim) (λb hb h1 h2=>⟨h2,λe=>by have:=qI b e.symm;omega⟩)
   replace uc:=Hd uc;have Ec:=Hd hI;clear hI r3 jR;go_wp2_with (at_builtin;refine ez rfl (.tmp 49) (.tmp 51) _ rfl (m:=1) (news:=lW ⟨t.name,j,e9 t.attrs⟩) JE (iK.alloc (.cells ⟨[.string t.name,.int .i64 j,.slice U t.attrs.length cu]⟩ 171)) rfl rfl (Src.lit uc.o) rfl oQ oQ (by simp;omega) ?_;intro v' w1 ax aw bu);go_roundw
   .refine⟨j+1,_,rfl,oQ,gQ,?_,((Ps.stay bA).grown aw (λq hq=>(iK.lt q hq).1))⟩;rw[vL.o];exact ax.mono λb h=>by have:=aw.size;simp at this;omega
   exact mQ
 .have Ki:j=S.length:=oQ;subst Ki;have jR:(fu S).take S.length=fu S:=xH (by simp[fu]);rw[jR]at hO;go_wp2;go_ret;exact⟨_,rfl,hO.base oQ,hX.hb⟩
end di
structure IC (wo wr:World)(T:Nat)(nm:ByteArray)(u:Value)(E:Nat)(k:Nat)(ds:List D):Prop where
 hb:Bw wo wr
 bx:ao wr wo.heap.size T [.string nm,u]
 ol:OL wr (wo.heap.size+1) (λ_=>False) E 1 u k ds
theorem IC.stay {wo wr w2 T E k nm u ds}(h:IC wo wr T nm u E k ds)(hb:Bw wr w2):IC wo w2 T nm u E k ds:=
 ⟨h.hb.trans (hb.mono h.hb.size),h.bx.stay hb,h.ol.stay hb⟩
theorem IC.put {wo wr w1 T E k m nm u v ds BM row}(h:IC wo wr T nm u E k ds)(hg:wr.grownBy w1 row)(hr:∀q,row=some q->wo.heap.size+1<=q)(hO:OL w1 (wo.heap.size+1) (λ_=>False) E 1 v m BM):
  IC wo (w1.setCell ⟨wo.heap.size,1,none⟩ v) T nm v E m BM:=by
 refine⟨(h.hb.grown hg h.hb.size (λq hq=>by have:=hr q hq;omega)).setCell nR _,(h.bx.grown hg (λe=>by have:=hr _ e.symm;omega)).dz 1 v,hO.setCell (λe=>by have:=(hO.lt _ e).1;simp at this;omega) (λh=>h) _⟩
structure PB (w wr:World)(u:Value)(j:Nat)(ds:List D):Prop where
 hb:Bw w wr
 b0:ao wr w.heap.size 24 [.slice none 0 0]
 b1:ao wr (w.heap.size+1) 24 [u]
 ol:OL wr (w.heap.size+1+1) (λb=>w.heap.size+1<b/\b<wr.heap.size) 95 2 u j ds
theorem PB.stay {w wr w2 u j ds}(h:PB w wr u j ds)(hb:Bw wr w2):PB w w2 u j ds:=
 ⟨h.hb.trans (hb.mono h.hb.size),h.b0.stay hb,h.b1.stay hb,(h.ol.stay hb).mono λb h=>⟨h.1,by have:=hb.size;omega⟩⟩
theorem PB.put {w wr w1 u v j m ds BM row}(h:PB w wr u j ds)(hg:wr.grownBy w1 row)(hr:∀q,row=some q->w.heap.size+1<q)(hO:OL w1 (w.heap.size+1+1) (λb=>w.heap.size+1<b/\b<w1.heap.size) 95 2 v m BM):
  PB w (w1.setCell ⟨w.heap.size+1,0,none⟩ v) v m BM:=by
 have hs:(w1.setCell ⟨w.heap.size+1,0,none⟩ v).heap.size=w1.heap.size:=sJ;refine⟨(h.hb.grown hg h.hb.size (λq hq=>by have:=hr q hq;omega)).setCell (by show _<=w.heap.size+1;omega) _,(h.b0.grown hg (λe=>by have:=hr _ e.symm;omega)).far (by show w.heap.size≠w.heap.size+1;omega) _,(h.b1.grown hg (λe=>by have:=hr _ e.symm;omega)).dz 0 v,?_⟩;rw[hs];exact hO.setCell (λe=>by have:=(hO.lt _ e).1;simp at this;omega) (by show¬(w.heap.size+1<w.heap.size+1/\_);omega) _
theorem NT {l:List Kd}{k t}(h:l[k]? =some t):((l.map cR).take (k+1)).flatMap fj=((l.map cR).take k).flatMap fj++fj (cR t):=by
 rw[zJ,zG,h];simp
theorem Ed {l:List Fd}{k t}(h:l[k]? =some t):((l.map (·.nm)).take (k+1)).flatMap aG=((l.map (·.nm)).take k).flatMap aG++aG t.nm:=by
 rw[zJ,zG,h];simp
def Gp (T:List Td)(w:World)(e:Ending)(w':World):Prop:=∃v,e=.returned (.agg #[v])/\OL w' w.heap.size (λb=>w.heap.size<=b/\b<w'.heap.size) 95 2 v T.length (T.flatMap fj)/\Bw w w'
def SzK (l:List Kd):Prop:=l.length<=1048577/\∀k∈l,k.fs.length<=1048577
namespace di
open cH
theorem HX (A c F l)(hS:SzK l)(w)(hF:∀b,F b->b<w.heap.size)(r:Rd w F (.slice A l.length c) (.sl l.length (l.flatMap lW))):
  Cl 48 #[.slice A l.length c] w (Gp (l.map cR) w):=by
 obtain⟨qK,lp⟩:=hS;replace⟨lp,hF,r⟩:=H3 lp hF r;go_enter func48,ntmps48;go_wp2;go_loopw [4] (λx wr=>∃(j:Nat)(u:Value),j<=l.length/\x=.int .i64 j/\PB w wr u j (((l.map cR).take j).flatMap fj)) (λx _=>l.length- (intOf x).toNat)
 .refine⟨0,.slice none 0 0,zE _,rfl,?_,?_,?_,.nil _ _ _ _ _⟩
  .exact(bA).alloc sJ _
  .exact(ao.new _ _ _).alloc _
  .exact ao.new' sJ
 obtain⟨j,s3,hj,rfl,hP⟩:=hrel;by_cases hlt:j<l.length
 .obtain⟨t,ht⟩:=av hlt;have ia:=lp.o t (zA ht);obtain⟨b,off,rfl,pZ,hv,hsl⟩:=r.o.cP (m:=3) (λ_=>rfl) ht oQ;have kO:=hF.o b pZ;obtain⟨A2,c2,a1,r2⟩:=hsl 2 _ _ rfl;have kc:∀W,Bw w W->W.cell? ⟨b,off+j*3+2,none⟩=some (.slice A2 t.fs.length c2)/\Rd W F (.slice A2 t.fs.length c2) (.sl t.fs.length (t.fs.flatMap dt)):=λW hW=>
   ⟨(hW.cell (p:=⟨b,off+j*3+2,none⟩) kO).trans a1,r2.under hW hF.o⟩
  have v0:wr.cell? ⟨b,off+j*3,none⟩=some (.string t.nm):=(hP.hb.cell (p:=⟨b,off+j*3,none⟩) kO).trans (hv 0 _ rfl);have g0:=aH j;have g1:=aV j l.length;have vL:=NT ht;obtain⟨wo,gU⟩:=aB wr
  subst gU;have Tw:=hP.b1.lt;replace⟨kc,vL,hP⟩:=H3 kc vL hP;clear hv hsl r2 a1 ht;go_wp2;go_loopw [6] (λy wr=>∃(k:Nat)(u:Value),k<=t.fs.length/\y=.int .i64 k/\IC wo wr 95 t.nm u 9 k (((t.fs.map (·.nm)).take k).flatMap aG)) (λy _=>t.fs.length- (intOf y).toNat)
  .exact⟨0,.slice none 0 0,zE _,rfl,bA,ao.new _ _ _,.nil _ _ _ _ _⟩
  obtain⟨k,u,hk,rfl,hI⟩:=hrel;have JG:=hP.o.stay hI.hb;obtain⟨a1,r3⟩:=kc.o wr JG.hb;have i2:wr.cell? ⟨wo.heap.size,1,none⟩=some u:=hI.bx.cell 1;clear v0;by_cases kW:k<t.fs.length
  .obtain⟨a,ha⟩:=av kW;obtain⟨b2,jG,rfl,Sg,n7,_⟩:=r3.cP (m:=3) (λ_=>rfl) ha oQ;have q0:wr.cell? ⟨b2,jG+k*3,none⟩=some (.string a.nm):=n7 0 _ rfl;have g2:=aH k;have g3:=aV k t.fs.length;have tM:=Hd (Ed ha);have hz:=hI.bx.lt;have Ec:=Hd hI;clear n7 r3 ha JG hI;go_upto_region 9 with fail
   go_region_law ((refine dj (by rfl) (.tmp 30) (.tmp 40) _ (by rfl) (m:=1) (news:=aG a.nm) rm (by exact(Ec.o.ol.alloc (.cells ⟨[.string a.nm]⟩ 9)).drew) (by rfl) (by rfl) (by exact(Src.lit (show fB wr _ [.string a.nm] (aG a.nm)from⟨.v _ rfl,trivial⟩)).drew) rfl oQ oQ (by simp;omega) ?_;intro v' w1 ax aw bu;obtain⟨B3,d3,rfl⟩:=ax.form;have hg:=iD aw;have hB:=Ec.o.stay (bX (.cells ⟨[.string a.nm]⟩ 9));have t0:=hB.bx.grown hg (λe=>by have:=(Ec.o.ol.lt _ e.symm).1;omega);have t1:w1.cell? ⟨wo.heap.size,1,none⟩=some u:=t0.cell 1;have t2:w1.frozen? ⟨wo.heap.size,1,none⟩=false:=t0.frozen 1))
   all_goals
    have dB:=hB.put hg (λq hq=>(Ec.o.ol.lt q hq).1) ax;rw[<-tM.o]at dB;go_wp2_with fail;go_roundw
    .exact⟨k+1,_,oQ,gQ,dB⟩
    exact mQ
  .have qy:k=t.fs.length:=oQ;subst qy;have jR:(t.fs.map (·.nm)).take t.fs.length=t.fs.map (·.nm):=xH sJ;rw[jR]at hI;obtain⟨U,cu,rfl⟩:=hI.ol.form;have i0:wr.cell? ⟨wo.heap.size,0,none⟩=some (.string t.nm):=hI.bx.cell 0;have hz:=hI.bx.lt;have qI:∀q,s3.ownBlock=some q->w.heap.size+1<q/\q<wo.heap.size:=λq hq=>hP.o.ol.lt q hq
   have uc:fB wr (λb=>(w.heap.size+1<b/\b<wr.heap.size)/\some b≠s3.ownBlock) [.string t.nm,.slice U t.fs.length cu] (fj (cR t)):=by
    refine⟨.v _ rfl,?_,trivial⟩;show Rd _ _ _ (.sl (t.fs.map (·.nm)).length _)
    rw[xC];exact hI.ol.Kr (λ_ h _=>h.elim) (λb hb h1 h2=>⟨⟨oQ,h2⟩,λe=>by have:=qI b e.symm;omega⟩)
   have z1:wr.cell? ⟨w.heap.size+1,0,none⟩=some s3:=JG.b1.cell 0;replace uc:=Hd uc;have Ec:=Hd hI;replace JG:=Hd JG;clear hI r3 jR;go_wp2_with (at_builtin;refine ez rfl (.tmp 44) (.tmp 46) _ rfl (m:=1) (news:=fj (cR t)) VO (JG.o.ol.alloc (.cells ⟨[.string t.nm,.slice U t.fs.length cu]⟩ 95)) rfl rfl (Src.lit uc.o) rfl oQ oQ (by simp;omega) ?_;intro v' w1 ax aw bu;obtain⟨B3,d3,rfl⟩:=ax.form;have hB:=JG.o.stay (bX (.cells ⟨[.string t.nm,.slice U t.fs.length cu]⟩ 95));have t0:=hB.b1.grown aw (λe=>by have:=qI _ e.symm;omega);have t1:w1.cell? ⟨w.heap.size+1,0,none⟩=some s3:=t0.cell 0;have t2:w1.frozen? ⟨w.heap.size+1,0,none⟩=false:=t0.frozen 0);have hP3:=hB.put aw (λq hq=>(qI q hq).1) (ax.mono λb h=>by have:=aw.size;simp at this;omega);rw[<-vL.o]at hP3;go_roundw
   .exact⟨j+1,_,oQ,gQ,hP3⟩
   exact mQ
 .have Ki:j=l.length:=oQ;subst Ki;have jR:(l.map cR).take l.length=l.map cR:=xH sJ;rw[jR]at hP;obtain⟨U,cu,rfl⟩:=hP.ol.form;have z1:wr.cell? ⟨w.heap.size+1,0,none⟩=some (.slice U l.length cu):=hP.b1.cell 0;have p0:wr.cell? ⟨w.heap.size,0,none⟩=some (.slice none 0 0):=hP.b0.cell 0;have f0:wr.frozen? ⟨w.heap.size,0,none⟩=false:=hP.b0.frozen 0;have e1:ao (wr.setCell ⟨w.heap.size,0,none⟩ (.slice U l.length cu)) w.heap.size 24 [.slice U l.length cu]:=hP.b0.dz 0 _;have e2:OL (wr.setCell ⟨w.heap.size,0,none⟩ (.slice U l.length cu)) w.heap.size (λb=>w.heap.size<=b/\b<(wr.setCell ⟨w.heap.size,0,none⟩ (.slice U l.length cu)).heap.size) 95 2 (.slice U l.length cu) (l.map cR).length ((l.map cR).flatMap fj):=by
   rw[xC,show(wr.setCell ⟨w.heap.size,0,none⟩ (.slice U l.length cu)).heap.size=wr.heap.size by simp];exact((hP.ol.setCell (p:=⟨w.heap.size,0,none⟩) (λe=>by have:=(hP.ol.lt _ e).1;simp at this;omega) (by show¬(_<w.heap.size/\_);omega) _).base oQ).mono λb h=>⟨oQ,h.2⟩
  have e3:=Hd (hP.hb.setCell (p:=⟨w.heap.size,0,none⟩) sJ (.slice U l.length cu));replace⟨e1,e2⟩:=H2 e1 e2;clear hP jR;go_wp2;exact l5 rfl e1.o DT rfl rfl ⟨_,rfl,e2.o,e3.o⟩
end di
def mp (f:Kd->List Kd):List Kd->Nat->List Kd
 | [],_=>[]
 |x::r,0=>f x++r
 |x::r,i+1=>x::mp f r i
theorem HY (f){l:List Kd}{j i x}(h:l[j]? =some x):mp f (l.take (j+1)) i=mp f (l.take j) i++(if j=i then f x else [x]):=by
 induction l generalizing i j with
 |nil=>simp at h
 |cons a l ih=>
  cases j with
  |zero=>
   simp only[zY,Option.some.injEq]at h;subst h;cases i with
   |zero=>simp[mp]
   |succ i=>simp[mp]
  |succ j=>
   simp only[xA]at h;rw[List.take_succ_cons,List.take_succ_cons];cases i with
   |zero=>simp[mp,zJ,h]
   |succ i=>simp[mp,ih h]
theorem Wv (f)(hf:∀x,(f x).length<=1)(l i):(mp f l i).length<=l.length:=by
 induction l generalizing i with
 |nil=>simp[mp]
 |cons a l ih=>
  cases i with
  |zero=>have:=hf a;simp[mp];omega
  |succ i=>have:=ih i;simp[mp];omega
theorem NU {f l i x}(h:l[i]? =some x)(hf:f x=[]):mp f l i=l.eraseIdx i:=by
 induction l generalizing i with
 |nil=>simp at h
 |cons a l ih=>
  cases i with
  |zero=>simp only[zY,Option.some.injEq]at h;subst h;simp[mp,hf]
  |succ i=>simp only[xA]at h;simp[mp,ih h]
theorem NV {f l i x y}(h:l[i]? =some x)(hf:f x=[y]):mp f l i=l.set i y:=by
 induction l generalizing i with
 |nil=>simp at h
 |cons a l ih=>
  cases i with
  |zero=>simp only[zY,Option.some.injEq]at h;subst h;simp[mp,hf]
  |succ i=>simp only[xA]at h;simp[mp,ih h]
theorem ZU {f}(hf:∀x,f x=[x])(l i):mp f l i=l:=by
 induction l generalizing i with
 |nil=>simp[mp]
 |cons a l ih=>cases i<;>simp[mp,hf,ih]
def fK (c:Cg)(x:Kd):List Kd:=if c.kd=2 then []else if c.kd=3 then [{x with nm:=c.nm}]else if 4<=c.kd then(match jx x.fs c with |some fs=>[{x with fs:=fs}]|none=>[x])else [x]
theorem Ww (c x):(fK c x).length<=1:=by
 unfold fK;split
 .simp
 .split
  .simp
  .split
   .split<;>simp
   .simp
theorem TH {l c}(h:c.kd=1):l6 l c=some (l++[lS c]):=if_pos h
theorem HZ {l c}(h:c.kd<1\/7<c.kd):l6 l c=none:=by
 unfold l6;rw[if_neg oQ,if_neg oQ]
theorem vU {l c}(h:c.kd≠1)(ht:eu l c.ty=none):l6 l c=none:=by
 unfold l6;rw[if_neg h];split
 .rw[ht]
 .rfl
theorem Wy {l c i x}(h2:2<=c.kd)(h7:c.kd<=7)(ht:eu l c.ty=some i)(hx:l[i]? =some x)(cK:4<=c.kd->jx x.fs c≠none):l6 l c=some (mp (fK c) l i):=by
 unfold l6;rw[if_neg oQ,if_pos ⟨h2,h7⟩,ht];show(if _ then _ else if _ then _ else _)=_
 by_cases e2:c.kd=2
 .rw[if_pos e2,NU hx (by unfold fK;rw[if_pos e2])]
 .rw[if_neg e2];by_cases e3:c.kd=3
  .rw[if_pos e3,NV hx (y:={x with nm:=c.nm}) (by unfold fK;rw[if_neg e2,if_pos e3]),pz hx]
  .rw[if_neg e3,hx];have h4:4<=c.kd:=oQ;cases hc:jx x.fs c with
   |none=>exact absurd hc (cK h4)
   |some fs=>rw[NV hx (y:={x with fs:=fs}) (by unfold fK;rw[if_neg e2,if_neg e3,if_pos h4,hc])];show Option.map _ (jx x.fs c)=_;rw[hc];rfl
theorem vV {l c i x}(h2:4<=c.kd)(ht:eu l c.ty=some i)(hx:l[i]? =some x)(cK:jx x.fs c=none):l6 l c=none:=by
 unfold l6;rw[if_neg oQ];split
 .rw[ht];show(if _ then _ else if _ then _ else _)=_
  rw[if_neg oQ,if_neg oQ,hx];show Option.map _ (jx x.fs c)=_
  rw[cK];rfl
 .rfl
structure BX (w wr:World)(T:Nat)(cs:List Value):Prop where
 hb:Bw w wr
 bx:ao wr w.heap.size T cs
theorem BX.stay {w wr w2 T cs}(h:BX w wr T cs)(hb:Bw wr w2):BX w w2 T cs:=⟨h.hb.trans (hb.mono h.hb.size),h.bx.stay hb⟩
theorem BX.grown {w wr w1 T cs row}(h:BX w wr T cs)(hg:wr.grownBy w1 row)(hr:∀q,row=some q->w.heap.size<q):BX w w1 T cs:=
 ⟨h.hb.grown hg h.hb.size (λq hq=>by have:=hr q hq;omega),h.bx.grown hg (λe=>by have:=hr _ e.symm;omega)⟩
def jr (l:List Kd)(c:Cg)(w:World)(e:Ending)(w':World):Prop:=∃v b,e=.returned (.tuple #[v,.bool b])/\
 (∀l',l6 l c=some l'->b=true/\Rd w' (λb=>b<w'.heap.size) v (.sl l'.length (l'.flatMap lW)))/\(l6 l c=none->b=false)/\Bw w w'
theorem jr.ey {l l' c w w' v}(h:l6 l c=some l')(hO:Rd w' (λb=>b<w'.heap.size) v (.sl l'.length (l'.flatMap lW)))(hb:Bw w w'):jr l c w (.returned (.tuple #[v,.bool true])) w':=
 ⟨v,true,rfl,λSd h'=>by rw[h]at h';injection h' with h';subst h';exact⟨rfl,hO⟩,λh'=>(by rw[h]at h';cases h'),hb⟩
theorem jr.du {l c w w' v}(h:l6 l c=none)(hb:Bw w w'):jr l c w (.returned (.tuple #[v,.bool false])) w':=
 ⟨v,false,rfl,λSd h'=>(by rw[h]at h';cases h'),λ_=>rfl,hb⟩
theorem Bz {W G A n c x}(hn:x.fs.length=n)(h:Rd W G (.slice A n c) (.sl x.fs.length (x.fs.flatMap dt))):fB W G [.string x.nm,.int .i64 x.fr,.slice A n c] (lW x):=⟨.v _ rfl,.v _ rfl,h,trivial⟩
theorem Src.F6 {w G cs}{t g:Nat}{ds}(hg:w.heap.size=g)(h:fB w G cs ds):Src (w.alloc (.cells ⟨cs⟩ t)) (some ⟨g,0,none⟩) ds G:=by subst hg;exact Src.lit h
theorem Ee {c}(h:c.kd=1)(x):fK c x=[x]:=by unfold fK;rw[if_neg oQ,if_neg oQ,if_neg oQ]
theorem aeX {c}(h:c.kd=2)(x):fK c x=[]:=by unfold fK;rw[if_pos h]
theorem aeY {c}(h:c.kd=3)(x):fK c x=[{x with nm:=c.nm}]:=by unfold fK;rw[if_neg oQ,if_pos h]
theorem aeZ {c}(h:4<=c.kd){x fs}(hc:jx x.fs c=some fs):fK c x=[{x with fs:=fs}]:=by unfold fK;rw[if_neg oQ,if_neg oQ,if_pos h,hc]
structure CL (w wr:World)(c:Cg)(B:Option Addr)(d:Nat)(l:List Kd)(i:Nat)(v:Value)(j:Nat):Prop where
 bx:BX w wr 73 (je c B d)
 ol:OL wr (w.heap.size+1) (λb=>b<wr.heap.size) 171 3 v (mp (fK c) (l.take j) i).length ((mp (fK c) (l.take j) i).flatMap lW)
theorem CL.split {w wr c B d l i j v}(h:CL w wr c B d l i v j):∃n6,n6=(mp (fK c) (l.take j) i).length/\OL wr (w.heap.size+1) (λb=>b<wr.heap.size) 171 3 v n6 ((mp (fK c) (l.take j) i).flatMap lW):=⟨_,rfl,h.ol⟩
theorem CL.next {w wo W w1 c B d l i j v v' x y o}(h:CL w wo c B d l i v j)(hW:Bw wo W)(hx:l[j]? =some x)(hy:j=i/\fK c x=[y]\/j≠i/\y=x)(hg:(W.alloc o).grownBy w1 v.ownBlock){n6}(hn:n6=(mp (fK c) (l.take j) i).length)(hO:OL w1 (w.heap.size+1) (λb=>b<W.heap.size) 171 3 v' (n6+1) ((mp (fK c) (l.take j) i).flatMap lW++lW y)):CL w w1 c B d l i v' (j+1):=by
 subst hn;refine⟨((h.bx.stay hW).stay ((bR).alloc nR o)).grown hg (λq hq=>(h.ol.lt q hq).1),?_⟩;have hy':(if j=i then fK c x else [x])=[y]:=by
  rcases hy with⟨h1,h2⟩|⟨h1,h2⟩
  .rw[if_pos h1,h2]
  .rw[if_neg h1,h2]
 rw[HY _ hx,hy',zH,xD];have:=hO.mono (G:=λb=>b<w1.heap.size) λb h=>by have:=hg.size;simp at this;omega
 simpa using this
theorem CL.skip {w wo W c B d l i j v x}(h:CL w wo c B d l i v j)(hW:Bw wo W)(hx:l[j]? =some x)(hj:j=i)(hy:fK c x=[]):CL w W c B d l i v (j+1):=by
 refine⟨h.bx.stay hW,?_⟩;rw[HY _ hx,if_pos hj,hy,zT];exact(h.ol.stay hW).mono λb hb=>by have:=hW.size;omega
theorem Wz {wo w':World}{o}{v u:Value}{T n B ds}(h:OL w' (wo.alloc o).heap.size (λ_=>False) T 3 v n ds)(qI:∀q,u.ownBlock=some q->B<q/\q<wo.heap.size){x}:
  Rd (w'.setCell ⟨wo.heap.size,2,none⟩ x) (λb=>b<(w'.setCell ⟨wo.heap.size,2,none⟩ x).heap.size/\some b≠u.ownBlock) v (.sl n ds):=by
 have h1:=h.setCell (p:=⟨wo.heap.size,2,none⟩) (λe=>by have:=(h.lt _ e).1;simp at this;omega) (λh=>h) x;exact h1.Kr (λ_ h _=>h.elim) (λb hb h1 h2=>⟨h2,λe=>by have:=(qI b e.symm).2;simp at h1;omega⟩)
theorem H0 {l:List ByteArray}{k a}(h:l[k]? =some a):((l.map λa=>(⟨a,-1,0⟩:Fd)).take (k+1)).flatMap dt=((l.map λa=>(⟨a,-1,0⟩:Fd)).take k).flatMap dt++dt ⟨a,-1,0⟩:=by
 rw[zJ,zG,h];simp
def BA (w:World)(c:Cg)(B:Option Addr)(d:Nat)(l:List Kd)(i:Nat)(v x:Value)(wr:World):Prop:=
 ∃j:Nat,j<=l.length/\x=.int .i64 j/\CL w wr c B d l i v j/\(4<=c.kd->i<j->∀x,l[i]? =some x->jx x.fs c≠none)
theorem BA.mk {w wr c B d l i v x}(j)(h1:j<=l.length)(h2:x=.int .i64 j)(h3:CL w wr c B d l i v j)(h4:4<=c.kd->i<j->∀x,l[i]? =some x->jx x.fs c≠none):BA w c B d l i v x wr:=⟨j,h1,h2,h3,h4⟩
namespace di
open cH
theorem NW (A B ca d F G l c)(hl:l.length<=1048576)(lp:∀k∈l,k.fs.length<=1048576)(sa:c.ats.length<=1048576)(w)(hF:∀b,F b->b<w.heap.size)(hG:∀b,G b->b<w.heap.size)(r:Rd w F (.slice A l.length ca) (.sl l.length (l.flatMap lW)))(rc:Rd w G (.slice B c.ats.length d) (.sl c.ats.length (c.ats.flatMap aG))):
  Cl 79 #[.slice A l.length ca,.agg #[.int .i64 c.kd,.string c.ty,.string c.at_,.string c.nm,.slice B c.ats.length d,.int .i64 c.n]] w (jr l c w):=by
 have kt:∀W,Bw w W->Cl 122 #[.slice A l.length ca,.string c.ty] W λe w'=>e=.returned (.int .i64 (cm (eu l c.ty)))/\w'=W:=λW hW=>NM A ca F l c.ty hl W (r.under hW hF)
 have ka:∀W x V cv,x∈l->4<=c.kd->c.kd<=7->Bw w W->Rd W F (.slice V x.fs.length cv) (.sl x.fs.length (x.fs.flatMap dt))->Cl 123 #[.slice V x.fs.length cv,.agg #[.int .i64 c.kd,.string c.ty,.string c.at_,.string c.nm,.slice B c.ats.length d,.int .i64 c.n]] W (fh x.fs c W):=λW x V cv hx h4 h7 hW hr=>
  Se V B cv d F x.fs c h4 h7 (lp x hx) W (λb h=>zF (hF b h) hW.size) hr
 have h0:Bw w (w.alloc (.cells ⟨je c B d⟩ 73)):=bA;have y0:(w.alloc (.cells ⟨je c B d⟩ 73)).cell? ⟨w.heap.size,0,none⟩=some (.int .i64 c.kd):=(ao.new _ _ _).cell 0;have y1:(w.alloc (.cells ⟨je c B d⟩ 73)).cell? ⟨w.heap.size,1,none⟩=some (.string c.ty):=(ao.new _ _ _).cell 1;have iz:BX w (w.alloc (.cells ⟨je c B d⟩ 73)) 73 (je c B d):=⟨h0,ao.new _ _ _⟩;by_cases nB:c.kd<1\/7<c.kd
 .have hch:=Hd (HZ (l:=l) nB);replace⟨kt,h0,iz⟩:=H3 kt h0 iz;rcases nB with zf |hhi
  .have hd:decide (c.kd<1)=true:=zW zf;clear ka lp hF hG r rc;go_enter func79,ntmps79;go_wp2_with (go_at_call 122;refine(kt.o _ h0.o).aR ?_);go_ret2;exact jr.du hch.o h0.o
  .have hd:decide (c.kd<1)=false:=zV oQ;have HE:decide (7<c.kd)=true:=zW hhi;clear ka lp hF hG r rc;go_enter func79,ntmps79;go_wp2_with (go_at_call 122;refine(kt.o _ h0.o).aR ?_);go_ret2;exact jr.du hch.o h0.o
 .have hd:decide (c.kd<1)=false:=zV oQ;have HE:decide (7<c.kd)=false:=zV oQ;by_cases hno:c.kd≠1/\eu l c.ty=none
  .have hch:=vU hno.1 hno.2;rw[hno.2,show cm none= -1 from rfl]at kt;have hne:=hno.1;replace⟨kt,h0,hch,iz⟩:=H4 kt h0 hch iz;clear ka lp hF hG r rc hno nB;go_enter func79,ntmps79;go_wp2_with (go_at_call 122;refine(kt.o _ h0.o).aR ?_);go_ret2;exact jr.du hch.o h0.o
  .obtain⟨i,hi⟩:=aB ((eu l c.ty).getD l.length)
   have ha:∀j,j<l.length->((j:Int)=cm (eu l c.ty)<->j=i):=λj hj=>by
    rw[hi];cases eu l c.ty with
    |none=>simp[cm];omega
    |some q=>simp[cm];omega
   have n7:cm (eu l c.ty)<0->c.kd=1:=λh=>by
    apply Classical.byContradiction;intro h1;refine hno ⟨h1,?_⟩;cases e:eu l c.ty with
    |none=>rfl
    |some q=>rw[e]at h;simp[cm]at h;omega
   have hty:c.kd≠1->eu l c.ty=some i/\i<l.length:=λh1=>by
    cases e:eu l c.ty with
    |none=>exact absurd ⟨h1,e⟩ hno
    |some q=>rw[e]at hi;subst hi;exact⟨rfl,lC e⟩
   generalize cm (eu l c.ty)=a at*;replace⟨kt,ka,h0,iz,ha,n7,hty,lp,hF,hG,r,rc⟩:=uM kt ka h0 iz ha n7 hty lp hF hG r rc;have aj1:1<=c.kd:=oQ;have ZV:c.kd<=7:=oQ;clear hno hi nB;have hgo:decide (a<0)=false\/decide (a<0)=true/\(c.kd==1)=true:=by
    by_cases h:a<0
    .exact .inr ⟨zW h,by have:=n7.o h;simpa using this⟩
    .exact .inl (zV h)
   replace hgo:=Hd hgo;go_enter func79,ntmps79;go_upto_region 3 with(go_at_call 122;refine(kt.o _ h0.o).aR ?_)
   go_cut [34] (λt wx=>t=.bool false/\wx=w.alloc (.cells ⟨je c B d⟩ 73))
   .rcases hgo.o with h |⟨h,h'⟩
    .have h2:¬a<0:=(by simpa using h);go_wp2_with fail
     all_goals(go_meet;exact⟨rfl,rfl⟩)
    .have h2:a<0:=(by simpa using h);have h3:=n7.o h2;go_wp2_with fail
     all_goals(go_meet;exact⟨rfl,rfl⟩)
   obtain⟨rfl,rfl⟩:=hcut;clear hgo n7;go_wp2;go_loopw [6,8] (λv x wr=>BA w c B d l i v x wr) (λ_ x _=>l.length- (intOf x).toNat)
   .refine BA.mk 0 (zE _) rfl ⟨iz.o,?_⟩ (λ_ h=>by omega);show OL _ _ _ _ _ _ (mp (fK c) [] i).length ((mp (fK c) [] i).flatMap lW)
    rw[show mp (fK c) [] i=[] by simp[mp]];exact .nil _ _ _ _ _
   obtain⟨j,hj,rfl,hC,hz⟩:=hrel;obtain⟨n6,Gq,sB⟩:=hC.split;obtain⟨U6,c6,rfl⟩:=sB.form;replace hz:=Hd hz;have B0:=Wv (fK c) (Ww c) (l.take j) i;rw[zO,Nat.min_eq_left hj,<-Gq]at B0;have e0:wr.cell? ⟨w.heap.size,0,none⟩=some (.int .i64 c.kd):=hC.bx.bx.cell 0;have e1:wr.cell? ⟨w.heap.size,1,none⟩=some (.string c.ty):=hC.bx.bx.cell 1;have e3:wr.cell? ⟨w.heap.size,3,none⟩=some (.string c.nm):=hC.bx.bx.cell 3;clear y0 y1;by_cases hlt:j<l.length
   .obtain⟨x,hx⟩:=av hlt;have xx:=lp.o x (zA hx);obtain⟨b,off,rfl,pZ,hv,hsl⟩:=r.o.cP (m:=3) (λ_=>rfl) hx oQ;have kO:=hF.o b pZ;obtain⟨A2,c2,a1,r2⟩:=hsl 2 _ _ rfl;have v0:wr.cell? ⟨b,off+j*3,none⟩=some (.string x.nm):=(hC.bx.hb.cell (p:=⟨b,off+j*3,none⟩) kO).trans (hv 0 _ rfl);have v1:wr.cell? ⟨b,off+j*3+1,none⟩=some (.int .i64 x.fr):=(hC.bx.hb.cell (p:=⟨b,off+j*3+1,none⟩) kO).trans (hv 1 _ rfl);have v2:wr.cell? ⟨b,off+j*3+2,none⟩=some (.slice A2 x.fs.length c2):=(hC.bx.hb.cell (p:=⟨b,off+j*3+2,none⟩) kO).trans a1;have g0:=aH j;have g1:=aV j l.length;have Tw:=hC.bx.bx.lt;have qI:∀q,(Value.slice U6 n6 c6).ownBlock=some q->w.heap.size<q/\q<wr.heap.size:=λq hq=>sB.lt q hq
    have hold:∀W,Bw wr W->Rd W (λb=>b<W.heap.size/\some b≠(Value.slice U6 n6 c6).ownBlock) (.slice A2 x.fs.length c2) (.sl x.fs.length (x.fs.flatMap dt)):=λW hW=>by
     have hWw:=hC.bx.hb.trans (hW.mono hC.bx.hb.size);exact(r2.under hWw hF.o).mono λb hb h=>⟨h,λe=>by have:=hF.o b hb;have:=(qI b e.symm).1;omega⟩
    have hO:∀W,Bw wr W->OL W (w.heap.size+1) (λb=>b<W.heap.size) 171 3 (.slice U6 n6 c6) n6 ((mp (fK c) (l.take j) i).flatMap lW):=λW hW=>(sB.stay hW).mono λb h=>by have:=hW.size;omega
    obtain⟨wo,gU⟩:=aB wr
    subst gU;have tt:Bw wo (wo.alloc (.cells ⟨[.string x.nm,.int .i64 x.fr,.slice A2 x.fs.length c2]⟩ 171)):=bA;have BP:=λW V cv=>ka.o W x V cv (zA hx)
    replace⟨BP,hold,hO,hC,sB⟩:=H5 BP hold hO hC sB;have jW:=Hd hx;replace⟨Gq,tt⟩:=H2 Gq tt;clear hv hsl a1 hx;by_cases sQ:j=i
    .have hje:((j:Int)==a)=true:=(by simpa using (ha.o j hlt).2 sQ);replace sQ:=Hd sQ;by_cases k1:c.kd=1
     .have hy:=Hd (Ee k1 x);have d2:(c.kd==2)=false:=by simp[k1]
      have d3:(c.kd==3)=false:=(by simp[k1]);have d4:decide (c.kd>=4)=false:=zV oQ;have d4':decide (4<=c.kd)=false:=zV oQ;replace k1:=Hd k1;clear r2;go_wp2_with (at_builtin;refine ez rfl (.tmp 83) (.tmp 85) _ rfl (m:=1) (news:=lW x) JE ((hO.o _ tt.o).alloc (.cells ⟨[.string x.nm,.int .i64 x.fr,.slice A2 x.fs.length c2]⟩ 171)) rfl rfl (Src.F6 sJ (Bz (x:=x) rfl (hold.o _ tt.o))) rfl oQ oQ (by simp;omega) ?_;intro v' w1 ax aw bu);go_roundw
      .exact BA.mk (j+1) oQ gQ (hC.o.next tt.o jW.o (.inl ⟨sQ.o,hy.o⟩) aw Gq.o ax) (λh4 h5=>by have:=k1.o;omega)
      exact mQ
     .have d1:(c.kd==1)=false:=(by simpa using k1);by_cases k2:c.kd=2
      .have hy:=Hd (aeX k2 x);have d2:(c.kd==2)=true:=by simpa using k2
       replace k2:=Hd k2;clear r2;go_wp2;go_roundw
       .exact BA.mk (j+1) oQ gQ (hC.o.skip tt.o jW.o sQ.o hy.o) (λh4 h5=>by have:=k2.o;omega)
       exact mQ
      .have d2:(c.kd==2)=false:=(by simpa using k2);by_cases k3:c.kd=3
       .have hy:=Hd (aeY k3 x);have d3:(c.kd==3)=true:=by simpa using k3
        have d4:decide (c.kd>=4)=false:=zV oQ;have d4':decide (4<=c.kd)=false:=zV oQ;replace k3:=Hd k3;have NY:=Hd (show Bw wo (wo.alloc (.cells ⟨[.string c.nm,.int .i64 x.fr,.slice A2 x.fs.length c2]⟩ 171))from bA);clear r2;go_wp2_with (at_builtin;refine ez rfl (.tmp 83) (.tmp 85) _ rfl (m:=1) (news:=lW {x with nm:=c.nm}) JE ((hO.o _ NY.o).alloc (.cells ⟨[.string c.nm,.int .i64 x.fr,.slice A2 x.fs.length c2]⟩ 171)) rfl rfl (Src.F6 sJ (Bz (x:={x with nm:=c.nm}) rfl (hold.o _ NY.o))) rfl oQ oQ (by simp;omega) ?_;intro v' w1 ax aw bu);go_roundw
        .exact BA.mk (j+1) oQ gQ (hC.o.next NY.o jW.o (.inl ⟨sQ.o,hy.o⟩) aw Gq.o ax) (λh4 h5=>by have:=k3.o;omega)
        exact mQ
       .have d3:(c.kd==3)=false:=(by simpa using k3);have k4:4<=c.kd:=oQ;have d4:decide (c.kd>=4)=true:=zW k4;have d4':decide (4<=c.kd)=true:=zW k4;have e2:wo.cell? ⟨w.heap.size,2,none⟩=some (.string c.at_):=hC.o.bx.bx.cell 2;have e4:wo.cell? ⟨w.heap.size,4,none⟩=some (.slice B c.ats.length d):=hC.o.bx.bx.cell 4;have e5:wo.cell? ⟨w.heap.size,5,none⟩=some (.int .i64 c.n):=hC.o.bx.bx.cell 5;have WA:Cl 123 #[.slice A2 x.fs.length c2,.agg #[.int .i64 c.kd,.string c.ty,.string c.at_,.string c.nm,.slice B c.ats.length d,.int .i64 c.n]] (wo.alloc (.cells ⟨[.string x.nm,.int .i64 x.fr,.slice A2 x.fs.length c2]⟩ 171)) (fh x.fs c (wo.alloc (.cells ⟨[.string x.nm,.int .i64 x.fr,.slice A2 x.fs.length c2]⟩ 171))):=by
         have hWw:=hC.o.bx.hb.trans (tt.o.mono hC.o.bx.hb.size);exact BP.o _ _ _ k4 ZV hWw (r2.under hWw hF.o)
        have pK:=Hd (show ao (wo.alloc (.cells ⟨[.string x.nm,.int .i64 x.fr,.slice A2 x.fs.length c2]⟩ 171)) wo.heap.size 171 [.string x.nm,.int .i64 x.fr,.slice A2 x.fs.length c2] from ao.new _ _ _);have ae1:=Hd (hty.o k1);replace WA:=Hd WA;clear r2 BP;cases EA:jx x.fs c with
        |none=>
         have hch:=Hd (show l6 l c=none from vV k4 ae1.o.1 (sQ.o▸jW.o) EA);replace EA:=Hd EA;go_wp2_with (go_at_call 123;refine WA.o.mono ?_;rintro e w' ⟨v,b,rfl,_,bL,az⟩;obtain rfl:=bL EA.o;clear bL);go_ret2;exact jr.du hch.o ((hC.o.bx.hb.trans (tt.o.mono hC.o.bx.hb.size)).trans (az.mono (by have:=Tw;simp;omega)))
        |some fs=>
         have hy:=Hd (aeZ k4 EA);replace EA:=Hd EA;go_wp2_with (first
          |(go_at_call 123;refine WA.o.mono ?_;rintro e w' ⟨v,b,rfl,gp,_,az⟩;obtain⟨rfl,hOf⟩:=gp fs EA.o;clear gp;obtain⟨A3,c3,rfl⟩:=hOf.form;have ZW:wo.heap.size+1<=w'.heap.size:=(by have:=az.size;simpa using this);have t0:=pK.o.stay az;have t1:w'.frozen? ⟨wo.heap.size,2,none⟩=false:=t0.frozen 2;have t2:w'.cell? ⟨wo.heap.size,0,none⟩=some (.string x.nm):=t0.cell 0;have t3:w'.cell? ⟨wo.heap.size,1,none⟩=some (.int .i64 x.fr):=t0.cell 1;have t4:w'.cell? ⟨wo.heap.size,2,none⟩=some (.slice A2 x.fs.length c2):=t0.cell 2;have cD:Bw wo (w'.setCell ⟨wo.heap.size,2,none⟩ (.slice A3 fs.length c3)):=(tt.o.trans (az.mono tt.o.size)).setCell nR _;replace⟨cD,hOf⟩:=H2 cD hOf)
          |(at_builtin;refine ez rfl (.tmp 83) (.tmp 85) _ rfl (m:=1) (news:=lW {x with fs:=fs}) JE ((hO.o _ cD.o).alloc (.cells ⟨[.string x.nm,.int .i64 x.fr,.slice A3 fs.length c3]⟩ 171)) rfl rfl (Src.F6 sJ (Bz (x:={x with fs:=fs}) rfl (Wz hOf.o qI))) rfl oQ oQ (by simp;omega) ?_;intro v' w1 ax aw bu))
         go_roundw
         .exact BA.mk (j+1) oQ gQ (hC.o.next cD.o jW.o (.inl ⟨sQ.o,hy.o⟩) aw Gq.o ax) (λh4 h5 x' iq=>by rw[<-sQ.o,jW.o]at iq;injection iq with iq;subst iq;rw[EA.o];simp)
         exact mQ
    .have hja:¬(j:Int)=a:=λe=>sQ ((ha.o j hlt).1 e)
     clear r2;go_wp2_with (at_builtin;refine ez rfl (.tmp 83) (.tmp 85) _ rfl (m:=1) (news:=lW x) JE ((hO.o _ tt.o).alloc (.cells ⟨[.string x.nm,.int .i64 x.fr,.slice A2 x.fs.length c2]⟩ 171)) rfl rfl (Src.F6 sJ (Bz rfl (hold.o _ tt.o))) rfl oQ oQ (by simp;omega) ?_;intro v' w1 ax aw bu);go_roundw
     .exact BA.mk (j+1) oQ gQ (hC.o.next tt.o jW.o (.inr ⟨sQ,rfl⟩) aw Gq.o ax) (λh4 h5=>hz.o h4 oQ)
     exact mQ
   .obtain rfl:j=l.length:=oQ;rw[zL]at sB Gq;by_cases k1:c.kd=1
    .have hch:=TH (l:=l) k1;rw[ZU (Ee k1)]at sB Gq;subst Gq;obtain⟨wo,gU⟩:=aB wr
     subst gU;have Tw:=hC.bx.bx.lt;have qI:∀q,(Value.slice U6 l.length c6).ownBlock=some q->w.heap.size<q/\q<wo.heap.size:=λq hq=>sB.lt q hq
     have hX:=Hd hC.bx;replace⟨sB,hch⟩:=H2 sB hch;have d1:(c.kd==1)=true:=by simpa using k1
     replace k1:=Hd k1;clear hC;go_wp2;go_loopw [13] (λy wr=>∃(k:Nat)(u:Value),k<=c.ats.length/\y=.int .i64 k/\IB wo wr 171 c.ty (-1) u 173 k (((c.ats.map λa=>(⟨a,-1,0⟩:Fd)).take k).flatMap dt)) (λy _=>c.ats.length- (intOf y).toNat)
     .exact⟨0,.slice none 0 0,zE _,rfl,bA,ao.new _ _ _,.nil _ _ _ _ _⟩
     obtain⟨k,u,hk,rfl,hI⟩:=hrel;have Ps:=hX.o.stay hI.hb;have y4:wr.cell? ⟨w.heap.size,4,none⟩=some (.slice B c.ats.length d):=Ps.bx.cell 4;have i2:wr.cell? ⟨wo.heap.size,2,none⟩=some u:=hI.bx.cell 2;clear e0 e1 e3;by_cases kW:k<c.ats.length
     .obtain⟨a,ha⟩:=av kW;obtain⟨b2,jG,rfl,Sg,n7⟩:=(rc.o.under Ps.hb hG.o).at_ ha;have q0:wr.cell? ⟨b2,jG+k,none⟩=some (.string a):=n7;have g2:=aH k;have g3:=aV k c.ats.length;have tM:=Hd (H0 ha);have Rf:=hI.bx.lt;have Ec:=Hd hI;clear n7 ha Ps hI;go_upto_region 23 with fail
      go_region_law ((refine dj (by rfl) (.tmp 101) (.tmp 108) _ (by rfl) (m:=1) (news:=dt ⟨a,-1,0⟩) Bx (by exact(Ec.o.ol.alloc (.cells ⟨jA ⟨a,-1,0⟩⟩ 173)).drew) (by rfl) (by rfl) (by exact(Src.lit (gY wr _ ⟨a,-1,0⟩)).drew) rfl oQ oQ (by simp;omega) ?_;intro v' w1 ax aw bu;obtain⟨B3,d3,rfl⟩:=ax.form;have hg:=iD aw;have hB:=Ec.o.stay (bX (.cells ⟨jA ⟨a,-1,0⟩⟩ 173));have t0:=hB.bx.grown hg (λe=>by have:=(Ec.o.ol.lt _ e.symm).1;omega);have t1:w1.cell? ⟨wo.heap.size,2,none⟩=some u:=t0.cell 2;have t2:w1.frozen? ⟨wo.heap.size,2,none⟩=false:=t0.frozen 2))
      all_goals
       have dB:=hB.put hg (λq hq=>(Ec.o.ol.lt q hq).1) ax;rw[<-tM.o]at dB;go_wp2_with fail;go_roundw
       .exact⟨k+1,_,oQ,gQ,dB⟩
       exact mQ
     .have qy:k=c.ats.length:=oQ;subst qy;have jR:(c.ats.map λa=>(⟨a,-1,0⟩:Fd)).take c.ats.length=c.ats.map λa=>(⟨a,-1,0⟩:Fd):=xH sJ
      rw[jR]at hI;obtain⟨U,cu,rfl⟩:=hI.ol.form;have i0:wr.cell? ⟨wo.heap.size,0,none⟩=some (.string c.ty):=hI.bx.cell 0;have i1:wr.cell? ⟨wo.heap.size,1,none⟩=some (.int .i64 (-1)):=hI.bx.cell 1;have Rf:=hI.bx.lt;have iK:=(sB.o.stay hI.hb).mono (G:=λb=>b<wr.heap.size) (λb h=>by omega);have uc:fB wr (λb=>b<wr.heap.size/\some b≠(Value.slice U6 l.length c6).ownBlock) [.string c.ty,.int .i64 (-1),.slice U c.ats.length cu] (lW (lS c)):=by
       refine⟨.v _ rfl,.v _ rfl,?_,trivial⟩;show Rd _ _ _ (.sl (c.ats.map λa=>(⟨a,-1,0⟩:Fd)).length _)
       rw[xC];exact hI.ol.Kr (λ_ h _=>h.elim) (λb hb h1 h2=>⟨h2,λe=>by have:=qI b e.symm;omega⟩)
      replace uc:=Hd uc;have Ec:=Hd hI;clear hI jR;go_wp2_with (at_builtin;refine ez rfl (.tmp 111) (.tmp 113) _ rfl (m:=1) (news:=lW (lS c)) JE (iK.alloc (.cells ⟨[.string c.ty,.int .i64 (-1),.slice U c.ats.length cu]⟩ 171)) rfl rfl (Src.lit uc.o) rfl oQ oQ (by simp;omega) ?_;intro v' w1 ax aw bu);go_ret2;have az:=(Ps.hb.alloc Ps.hb.size (.cells ⟨[.string c.ty,.int .i64 (-1),.slice U c.ats.length cu]⟩ 171)).grown aw (by have:=Ps.hb.size;simp;omega) (λq hq=>by have:=(qI q hq).1;omega);refine jr.ey hch.o ?_ az;have lR:=ax.rd (G:=λb=>b<w1.heap.size) (λb h h2=>h2) (λb h h2=>h2);rw[show(l++[lS c]).length=l.length+1 by simp,show(l++[lS c]).flatMap lW=l.flatMap lW++lW (lS c) by simp];exact lR
    .obtain⟨ht,iT⟩:=hty.o k1;obtain⟨x,hx⟩:=av iT;have hch:l6 l c=some (mp (fK c) l i):=Wy oQ ZV ht hx (λh4=>hz.o h4 iT x hx);have d1:(c.kd==1)=false:=by simpa using k1
     subst Gq;have hR:=Hd (sB.rd (G:=λb=>b<wr.heap.size) (λb h h2=>h2) (λb h h2=>h2));have Rg:=Hd hC.bx.hb;replace hch:=Hd hch;clear hC sB hx ht;go_wp2;go_ret2;exact jr.ey hch.o hR.o Rg.o
end di
