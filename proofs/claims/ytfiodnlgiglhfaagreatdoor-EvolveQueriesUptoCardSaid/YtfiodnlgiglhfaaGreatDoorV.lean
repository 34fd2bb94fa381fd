/- Schemas that change. -/
import Derived.Test.YtfiodnlgiglhfaaGreatDoorSc4
namespace Go.Proofs.YtfiodnlgiglhfaaGreatDoor
set_option maxRecDepth 100000
set_option maxHeartbeats 16000000
open Go.RowKit Go.Deep
set_option linter.unusedVariables false
structure Fd where
 nm:ByteArray
 fr:Int
 fl:Int
deriving Inhabited
structure Kd where
 nm:ByteArray
 fr:Int
 fs:List Fd
deriving Inhabited
structure Cg where
 kd:Int
 ty:ByteArray
 at_:ByteArray
 nm:ByteArray
 ats:List ByteArray
 n:Int
def fdV (f:Fd):List Value:=[.string f.nm,.int .i64 f.fr,.int .i64 f.fl]
def fdD (f:Fd):List D:=[.v (.string f.nm),.v (.int .i64 f.fr),.v (.int .i64 f.fl)]
def kdD (k:Kd):List D:=[.v (.string k.nm),.v (.int .i64 k.fr),.sl k.fs.length (k.fs.flatMap fdD)]
def cgD (c:Cg):List D:=[.v (.int .i64 c.kd),.v (.string c.ty),.v (.string c.at_),.v (.string c.nm),.sl c.ats.length (c.ats.flatMap strD),.v (.int .i64 c.n)]
def tdOf (k:Kd):Td:=⟨k.nm,k.fs.map (·.nm)⟩
theorem fdD_rd (w:World)(G:Nat→Prop)(f:Fd):RdL w G (fdV f) (fdD f):=⟨.v _ rfl,.v _ rfl,.v _ rfl,trivial⟩
def idxA (l:List ByteArray)(s:ByteArray):Option Nat:=l.findIdx? (fun a=>decide (a=s))
theorem idxA_lt {l:List ByteArray}{s:ByteArray}{j:Nat}(h:idxA l s=some j):j<l.length:=by
 rw[idxA,List.findIdx?_eq_some_iff_getElem]at h;exact h.1
def optI:Option Nat→Int
 |some i=>i
 |none=> -1
def tyAt (l:List Kd)(s:ByteArray):Option Nat:=idxA (l.map (·.nm)) s
def flAt (l:List Fd)(s:ByteArray):Option Nat:=idxA (l.map (·.nm)) s
theorem tyAt_lt {l:List Kd}{s:ByteArray}{j:Nat}(h:tyAt l s=some j):j<l.length:=by simpa using idxA_lt h
theorem flAt_lt {l:List Fd}{s:ByteArray}{j:Nat}(h:flAt l s=some j):j<l.length:=by simpa using idxA_lt h
def mvF (l:List Fd)(k n:Nat):List Fd:=(l.eraseIdx k).take n++(l[k]?.toList++(l.eraseIdx k).drop n)
def chF (l:List Fd)(c:Cg):Option (List Fd):=
 if c.kd=4 then some (l++[⟨c.nm,-1,c.n⟩])else
  match flAt l c.at_ with
  |none=>none
  |some k=>if c.kd=5 then some (l.eraseIdx k)else if c.kd=6 then some (l.modify k fun f=>{f with nm:=c.nm})else if 0≤c.n∧c.n<l.length then some (mvF l k c.n.toNat)else none
def addK (c:Cg):Kd:=⟨c.ty,-1,c.ats.map fun a=>⟨a,-1,0⟩⟩
def chK (l:List Kd)(c:Cg):Option (List Kd):=
 if c.kd=1 then some (l++[addK c])else
  if 2≤c.kd∧c.kd≤7 then
   match tyAt l c.ty with
   |none=>none
   |some i=>if c.kd=2 then some (l.eraseIdx i)else if c.kd=3 then some (l.modify i fun k=>{k with nm:=c.nm})else
    match l[i]? with
    |none=>none
    |some k=>(chF k.fs c).map fun fs=>l.set i {k with fs:=fs}
  else none
def fstF (l:List ByteArray):List Fd:=l.mapIdx fun j a=>⟨a,j,0⟩
def fstK (S:List Td):List Kd:=S.mapIdx fun i t=>⟨t.name,i,fstF t.attrs⟩
def mdTo (S:List Td)(L:List Cg):Nat→List Kd
 |0=>fstK S
 |k+1=>match L[k]? with
  |some c=>(chK (mdTo S L k) c).getD []
  |none=>mdTo S L k
def okAt (S:List Td)(L:List Cg)(k:Nat):Prop:=∃c l,L[k]? =some c∧chK (mdTo S L k) c=some l∧scC (l.map tdOf)=0
theorem mdTo_next {S:List Td}{L:List Cg}{k:Nat}{c:Cg}{l:List Kd}(h:L[k]? =some c)(hc:chK (mdTo S L k) c=some l):mdTo S L (k+1)=l:=by
 rw[mdTo,h];simp[hc]
def MdIs (S:List Td)(L:List Cg)(T:Option (List Kd))(code at_:Int):Prop:=
 (scC S≠0∧T=none∧code=scC S∧at_=0)∨(scC S=0∧32<L.length∧T=none∧code=290∧at_=32)∨
 (scC S=0∧L.length≤32∧∃k,k<L.length∧(∀j,j<k→okAt S L j)∧¬okAt S L k∧T=none∧code=290∧at_=k)∨
 (scC S=0∧L.length≤32∧(∀j,j<L.length→okAt S L j)∧T=some (mdTo S L L.length)∧code=0∧at_=0)
theorem MdIs.uniq {S:List Td}{L:List Cg}{T T':Option (List Kd)}{c c' a a':Int}(h:MdIs S L T c a)(h':MdIs S L T' c' a'):T'=T∧c'=c∧a'=a:=by
 rcases h with⟨h1,rfl,rfl,rfl⟩|⟨h1,h2,rfl,rfl,rfl⟩|⟨h1,h2,k,hk,hj,hn,rfl,rfl,rfl⟩|⟨h1,h2,hj,rfl,rfl,rfl⟩<;>
  rcases h' with⟨g1,rfl,rfl,rfl⟩|⟨g1,g2,rfl,rfl,rfl⟩|⟨g1,g2,m,gk,gj,gn,rfl,rfl,rfl⟩|⟨g1,g2,gj,rfl,rfl,rfl⟩<;>first|exact⟨rfl,rfl,rfl⟩|omega |skip
 ·have:k=m:=by
   rcases Nat.lt_trichotomy k m with h |h |h
   ·exact absurd (gj k h) hn
   ·exact h
   ·exact absurd (hj m h) gn
  subst this;exact⟨rfl,rfl,rfl⟩
 ·exact absurd (gj k hk) hn
 ·exact absurd (hj m gk) gn
theorem optI_place (l:List ByteArray)(s:ByteArray):optI (idxA l s)=placeI l s:=by unfold placeI idxA optI;cases l.findIdx? (fun a=>decide (a=s))<;>rfl
theorem elFd:ElT Tryz.prog 154 158 3 32:=.of Tryz.underlying154 (by kernel_rfl) (by omega)
theorem elKd:ElT Tryz.prog 69 156 3 48:=.of Tryz.underlying69 (by kernel_rfl) (by omega)
theorem er_step {α:Type}{l:List α}{j k:Nat}{x:α}(h:l[j]? =some x)(hne:j≠k):(l.take (j+1)).eraseIdx k=(l.take j).eraseIdx k++[x]:=by
 have hj:=(zC.1 h).1;rw[zJ,h];rcases Nat.lt_or_gt_of_ne hne with hlt |hgt
 ·rw[List.eraseIdx_of_length_le (by simp;omega),List.eraseIdx_of_length_le (by simp;omega)];rfl
 ·rw[List.eraseIdx_append_of_lt_length (by simp;omega)];rfl
theorem er_same {α:Type}{l:List α}{k:Nat}{x:α}(h:l[k]? =some x):(l.take (k+1)).eraseIdx k=(l.take k).eraseIdx k:=by
 have hj:=(zC.1 h).1;have e1:(l.take k).length=k:=by simp;omega
 rw[zJ,h,List.eraseIdx_append_of_length_le (by omega),e1,Nat.sub_self,List.eraseIdx_of_length_le (l:=l.take k) (by omega)];simp
namespace evW
open nmW
theorem typeAt_k (A:Option Addr)(c:Nat)(F:Nat→Prop)(l:List Kd)(s:ByteArray)(hl:l.length≤1048576)(w:World)(r:Rd w F (.slice A l.length c) (.sl l.length (l.flatMap kdD))):
  Calls Tryz.prog 97 #[.slice A l.length c,.string s] w fun e w'=>e=.returned (.int .i64 (optI (tyAt l s)))∧w'=w:=by
 rw[tyAt,optI_place];replace r:=Hd r;generalize hc:placeI (l.map (·.nm)) s=b;replace hc:=Hd hc;go_enter Tryz.func97,Tryz.ntmps97;go_wp2;go_loopw [5] (fun i wr=>∃j:Nat,j≤l.length∧i=.int .i64 j∧wr=w∧(∀(i:Nat) a,(l.map (·.nm))[i]? =some a→i<j→a≠s)) (fun i _=>l.length- (intOf i).toNat)
 case atStart=>exact⟨0,zE _,rfl,rfl,fun i a h h3=>by omega⟩
 case round=>
  obtain⟨j,hj,rfl,rfl,hp⟩:=hrel;replace hp:=Hd hp;by_cases hlt:j<l.length
  ·obtain⟨x,hx⟩:=getx hlt;obtain⟨g,off,rfl,_,ha,_⟩:=r.out.rowv (m:=3) (fun _=>rfl) hx (by omega);have a0:wr.cell? ⟨g,off+j*3,none⟩=some (.string x.nm):=ha 0 _ rfl;have g0:(0:Int)≤(j:Int):=by omega
   have g1:(j:Int)<l.length:=by omega
   have hx2:(l.map (·.nm))[j]? =some x.nm:=by rw[zG,hx];rfl
   replace hx2:=Hd hx2;clear ha hx;by_cases hu:x.nm=s
   ·have hu':(x.nm.toList==s.toList)=true:=(by rw[bqb];exact zW hu);obtain rfl:b=(j:Int):=by rw[←hc.out];exact placeI_at (by rw[hx2.out,hu]) hp.out
    replace hu:=Hd hu;go_wp2;go_ret;exact⟨rfl,rfl⟩
   ·have hu':(x.nm.toList==s.toList)=false:=(by rw[bqb];exact zV hu);replace hu:=Hd hu;go_wp2;go_roundw
    case rel=>
     refine⟨j+1,by omega,by go_num,by trivial,fun i a h h3=>?_⟩;by_cases hij:i=j
     ·subst hij;obtain rfl:x.nm=a:=by have:=hx2.out;rw[h]at this;exact(zq9 this).symm
      exact hu.out
     ·exact hp.out i a h (by omega)
    case measure=>simp[intOf];omega
  ·have g1:¬(j:Int)<l.length:=by omega
   have g2:decide (j<l.length)=false:=zV hlt;obtain rfl:b= -1:=by
    rw[←hc.out];exact placeI_none fun i a h=>hp.out i a h (by have:=(zC.1 h).1;simp at this;omega)
   go_wp2;go_ret;exact⟨rfl,rfl⟩
theorem attrAt_k (A:Option Addr)(c:Nat)(F:Nat→Prop)(l:List Fd)(s:ByteArray)(hl:l.length≤1048576)(w:World)(r:Rd w F (.slice A l.length c) (.sl l.length (l.flatMap fdD))):
  Calls Tryz.prog 129 #[.slice A l.length c,.string s] w fun e w'=>e=.returned (.int .i64 (optI (flAt l s)))∧w'=w:=by
 rw[flAt,optI_place];replace r:=Hd r;generalize hc:placeI (l.map (·.nm)) s=b;replace hc:=Hd hc;go_enter Tryz.func129,Tryz.ntmps129;go_wp2;go_loopw [5] (fun i wr=>∃j:Nat,j≤l.length∧i=.int .i64 j∧wr=w∧(∀(i:Nat) a,(l.map (·.nm))[i]? =some a→i<j→a≠s)) (fun i _=>l.length- (intOf i).toNat)
 case atStart=>exact⟨0,zE _,rfl,rfl,fun i a h h3=>by omega⟩
 case round=>
  obtain⟨j,hj,rfl,rfl,hp⟩:=hrel;replace hp:=Hd hp;by_cases hlt:j<l.length
  ·obtain⟨x,hx⟩:=getx hlt;obtain⟨g,off,rfl,_,ha,_⟩:=r.out.rowv (m:=3) (fun _=>rfl) hx (by omega);have a0:wr.cell? ⟨g,off+j*3,none⟩=some (.string x.nm):=ha 0 _ rfl;have g0:(0:Int)≤(j:Int):=by omega
   have g1:(j:Int)<l.length:=by omega
   have hx2:(l.map (·.nm))[j]? =some x.nm:=by rw[zG,hx];rfl
   replace hx2:=Hd hx2;clear ha hx;by_cases hu:x.nm=s
   ·have hu':(x.nm.toList==s.toList)=true:=(by rw[bqb];exact zW hu);obtain rfl:b=(j:Int):=by rw[←hc.out];exact placeI_at (by rw[hx2.out,hu]) hp.out
    replace hu:=Hd hu;go_wp2;go_ret;exact⟨rfl,rfl⟩
   ·have hu':(x.nm.toList==s.toList)=false:=(by rw[bqb];exact zV hu);replace hu:=Hd hu;go_wp2;go_roundw
    case rel=>
     refine⟨j+1,by omega,by go_num,by trivial,fun i a h h3=>?_⟩;by_cases hij:i=j
     ·subst hij;obtain rfl:x.nm=a:=by have:=hx2.out;rw[h]at this;exact(zq9 this).symm
      exact hu.out
     ·exact hp.out i a h (by omega)
    case measure=>simp[intOf];omega
  ·have g1:¬(j:Int)<l.length:=by omega
   have g2:decide (j<l.length)=false:=zV hlt;obtain rfl:b= -1:=by
    rw[←hc.out];exact placeI_none fun i a h=>hp.out i a h (by have:=(zC.1 h).1;simp at this;omega)
   go_wp2;go_ret;exact⟨rfl,rfl⟩
theorem without_k (A:Option Addr)(c:Nat)(F:Nat→Prop)(l:List Fd)(k:Nat)(hl:l.length≤1048576)(w:World)(hF:∀b,F b→b<w.heap.size)(r:Rd w F (.slice A l.length c) (.sl l.length (l.flatMap fdD))):
  Calls Tryz.prog 130 #[.slice A l.length c,.int .i64 k] w fun e w'=>∃v,e=.returned v∧OL w' w.heap.size (fun _=>False) 158 3 v (l.eraseIdx k).length ((l.eraseIdx k).flatMap fdD)∧Bw w w':=by
 replace r:=Hd r;replace hF:=Hd hF;go_enter Tryz.func130,Tryz.ntmps130;go_wp2;go_loopw [5,6] (fun v x wr=>∃j:Nat,j≤l.length∧x=.int .i64 j∧OL wr w.heap.size (fun _=>False) 158 3 v ((l.take j).eraseIdx k).length (((l.take j).eraseIdx k).flatMap fdD)∧Bw w wr) (fun _ x _=>l.length- (intOf x).toNat)
 case atStart=>exact⟨0,zE _,rfl,.nil _ _ _ _ _,.refl _ _⟩
 case round=>
  obtain⟨j,hj,rfl,hO,hB⟩:=hrel;by_cases hlt:j<l.length
  ·obtain⟨e,he⟩:=getx hlt;have g0:(0:Int)≤(j:Int):=by omega
   have g1:(j:Int)<l.length:=by omega
   have hsz:=hB.size;by_cases hk:j=k
   ·subst hk;have hE:=Hd (er_same he);clear he;go_wp2;go_roundw
    case rel=>exact⟨j+1,by omega,by go_num,by rw[hE.out];exact hO,hB⟩
    case measure=>simp[intOf];omega
   ·have hE:=er_step (k:=k) he hk;have hle:((l.take j).eraseIdx k).length≤1048576:=by
     have:=List.length_eraseIdx_le (l.take j) k;simp at this ⊢;omega
    have hki:¬((j:Int)=k):=(by omega);obtain⟨b,off,rfl,_,hv,_⟩:=(r.out.under hB hF.out).rowv (m:=3) (fun _=>rfl) he (by omega);have x0:wr.cell? ⟨b,off+j*3,none⟩=some (.string e.nm):=hv 0 _ rfl;have x1:wr.cell? ⟨b,off+j*3+1,none⟩=some (.int .i64 e.fr):=hv 1 _ rfl;have x2:wr.cell? ⟨b,off+j*3+2,none⟩=some (.int .i64 e.fl):=hv 2 _ rfl;replace hE:=Hd hE;clear hv he;go_wp2_with (at_builtin;refine wpa rfl (.tmp 16) (.tmp 21) _ rfl (m:=1) (news:=fdD e) elFd (hO.alloc (.cells ⟨fdV e⟩ 158)) rfl rfl (Src.lit (fdD_rd wr _ e)) rfl (by omega) (by omega) (by simp;omega) ?_;intro v' w1 hO1 hg1 ha1);go_roundw
    case rel=>
     refine⟨j+1,by omega,by go_num,?_,(hB.alloc hB.size (.cells ⟨fdV e⟩ 158)).grown hg1 (by simp;omega) (fun q hq=>(hO.lt q hq).1)⟩;rw[hE.out];simpa using hO1
    case measure=>simp[intOf];omega
  ·obtain rfl:j=l.length:=by omega
   rw[zL]at hO;go_wp2;go_ret;exact⟨_,rfl,hO,hB⟩
end evW
def mvTo (rest:List Fd)(x:Fd)(n:Int)(i:Nat):List Fd:=if 0≤n∧n<i then rest.take n.toNat++([x]++(rest.take i).drop n.toNat)else rest.take i
theorem mv_hit {rest:List Fd}{x e:Fd}{n:Int}{i:Nat}(h:rest[i]? =some e)(hn:n=i):mvTo rest x n (i+1)=(mvTo rest x n i++[x])++[e]:=by
 have hi:=(zC.1 h).1;subst hn;rw[mvTo,if_pos (by omega),mvTo,if_neg (by omega),Int.toNat_natCast,zJ,h,List.drop_append_of_le_length (by simp;omega),List.drop_of_length_le (by simp;omega)];simp
theorem mv_miss {rest:List Fd}{x e:Fd}{n:Int}{i:Nat}(h:rest[i]? =some e)(hn:n≠i):mvTo rest x n (i+1)=mvTo rest x n i++[e]:=by
 have hi:=(zC.1 h).1;rw[mvTo,mvTo];by_cases h0:0≤n∧n<i
 ·rw[if_pos (by omega),if_pos h0,zJ,h,List.drop_append_of_le_length (by simp;omega)];simp
 ·rw[if_neg (by omega),if_neg h0,zJ,h];rfl
theorem mvTo_len (rest:List Fd)(x:Fd)(n:Int)(i:Nat):(mvTo rest x n i).length≤rest.length+1:=by
 unfold mvTo;split
 ·simp;omega
 ·simp;omega
theorem mv_end {l:List Fd}{k:Nat}{x:Fd}{n:Int}(h:l[k]? =some x)(h0:0≤n)(h1:n<l.length):
  (if((l.eraseIdx k).length:Int)=n then mvTo (l.eraseIdx k) x n (l.eraseIdx k).length++[x]else mvTo (l.eraseIdx k) x n (l.eraseIdx k).length)=mvF l k n.toNat:=by
 have hk:=(zC.1 h).1;have hlen:(l.eraseIdx k).length=l.length-1:=List.length_eraseIdx_of_lt hk;unfold mvF mvTo;rw[h];split
 ·rename_i e;have:n.toNat=(l.eraseIdx k).length:=by omega
  rw[if_neg (by omega),this];simp
 ·rename_i e;rw[if_pos ⟨h0,by omega⟩];simp
def MvPost (l:List Fd)(k:Nat)(n:Int)(w:World)(e:Ending)(w':World):Prop:=∃v L',e=.returned v∧(0≤n→n<l.length→L'=mvF l k n.toNat)∧L'.length≤l.length+1∧OL w' w.heap.size (fun _=>False) 158 3 v L'.length (L'.flatMap fdD)∧Bw w w'
namespace evW
open nmW
theorem moved_k (A:Option Addr)(c:Nat)(F:Nat→Prop)(l:List Fd)(k:Nat)(x:Fd)(hx:l[k]? =some x)(n:Int)(hl:l.length≤1048576)(w:World)(hF:∀b,F b→b<w.heap.size)(r:Rd w F (.slice A l.length c) (.sl l.length (l.flatMap fdD))):
  Calls Tryz.prog 131 #[.slice A l.length c,.int .i64 k,.int .i64 n] w (MvPost l k n w):=by
 have hk:=(zC.1 hx).1;have hlen:(l.eraseIdx k).length=l.length-1:=List.length_eraseIdx_of_lt hk;have hend:=mv_end (n:=n) hx;have kw:=without_k A c F l k hl w hF r;have krow:∀W,Bw w W→∃b off,A=some ⟨b,off,none⟩∧W.cell? ⟨b,off+k*3,none⟩=some (.string x.nm)∧W.cell? ⟨b,off+k*3+1,none⟩=some (.int .i64 x.fr)∧W.cell? ⟨b,off+k*3+2,none⟩=some (.int .i64 x.fl):=fun W hW=>by
  obtain⟨b,off,e,_,hv,_⟩:=(r.under hW hF).rowv (m:=3) (fun _=>rfl) hx (by omega);exact⟨b,off,e,hv 0 _ rfl,hv 1 _ rfl,hv 2 _ rfl⟩
 have q0:(0:Int)≤(k:Int):=by omega
 have q1:(k:Int)<l.length:=by omega
 generalize hR:l.eraseIdx k=R at*;have hR1:R.length+1≤l.length:=by omega
 clear hlen;replace kw:=Hd kw;replace krow:=Hd krow;replace hend:=Hd hend;clear r hF hx hR;go_enter Tryz.func131,Tryz.ntmps131;go_wp2_with (go_at_call 130;refine kw.out.mono ?_;rintro e W1 ⟨v7,rfl,hO7,hB1⟩;obtain⟨U7,c7,rfl⟩:=hO7.form);have hz1:=hB1.size;have r7:=Hd (show Rd W1 (fun b=>b<W1.heap.size) (.slice U7 R.length c7) (.sl R.length (R.flatMap fdD)) from hO7.rd (fun _ h=>h.elim) (fun _ _ h=>h));clear hO7;go_loopw [8,9] (fun v y wr=>∃j:Nat,j≤R.length∧y=.int .i64 j∧OL wr W1.heap.size (fun _=>False) 158 3 v (mvTo R x n j).length ((mvTo R x n j).flatMap fdD)∧Bw W1 wr) (fun _ y _=>R.length- (intOf y).toNat)
 case atStart=>
  refine⟨0,zE _,rfl,?_,.refl _ _⟩;have:mvTo R x n 0=[]:=by unfold mvTo;rw[if_neg (by omega)];rfl
  rw[this];exact .nil _ _ _ _ _
 case round=>
  obtain⟨j,hj,rfl,hO,hB⟩:=hrel;have hle:=mvTo_len R x n j;by_cases hlt:j<R.length
  ·obtain⟨e,he⟩:=getx hlt;have g0:(0:Int)≤(j:Int):=by omega
   have g1:(j:Int)<R.length:=by omega
   have hsz:=hB.size;obtain⟨b,off,rfl,_,hv,_⟩:=(r7.out.under hB (fun _ h=>h)).rowv (m:=3) (fun _=>rfl) he (by omega);have x0:wr.cell? ⟨b,off+j*3,none⟩=some (.string e.nm):=hv 0 _ rfl;have x1:wr.cell? ⟨b,off+j*3+1,none⟩=some (.int .i64 e.fr):=hv 1 _ rfl;have x2:wr.cell? ⟨b,off+j*3+2,none⟩=some (.int .i64 e.fl):=hv 2 _ rfl;clear hv;by_cases hn:(j:Int)=n
   ·subst hn;have hE:=mv_hit (x:=x) he rfl;obtain⟨b2,off2,rfl,y0,y1,y2⟩:=krow.out wr (hB1.trans (hB.mono hz1));replace hE:=Hd hE;have he':=Hd he;clear he;replace x0:=Hd x0;replace x1:=Hd x1;replace x2:=Hd x2;have tok1:True:=trivial;have tok2:True:=trivial;go_wp2_with (first
     |(at_builtin;have _t:=tok1;clear tok1;refine wpa rfl (.tmp 22) (.tmp 27) _ rfl (m:=1) (news:=fdD x) elFd (hO.alloc (.cells ⟨fdV x⟩ 158)) rfl rfl (Src.lit (fdD_rd wr _ x)) rfl (by omega) (by omega) (by simp;omega) ?_;intro v' w1 hO1 hg1 ha1;have hb1:=(hB.alloc hB.size (.cells ⟨fdV x⟩ 158)).grown hg1 (by simp;omega) (fun q hq=>(hO.lt q hq).1);obtain⟨z0,z1,z2⟩:=(show w1.cell? ⟨b,off+j*3,none⟩=some (.string e.nm)∧w1.cell? ⟨b,off+j*3+1,none⟩=some (.int .i64 e.fr)∧w1.cell? ⟨b,off+j*3+2,none⟩=some (.int .i64 e.fl)from(by obtain⟨b',off',e',_,hv,_⟩:=(r7.out.under hb1 (fun _ h=>h)).rowv (m:=3) (fun _=>rfl) he'.out (by omega);injection e' with e';injection e' with e1 e2;subst e1 e2;exact⟨hv 0 _ rfl,hv 1 _ rfl,hv 2 _ rfl⟩));have hz1':=hb1.size;clear y0 y1 y2)
     |(at_builtin;have _t:=tok2;clear tok2;refine wpa rfl (.tmp 29) (.tmp 34) _ rfl (m:=1) (news:=fdD e) elFd (hO1.alloc (.cells ⟨fdV e⟩ 158)) rfl rfl (Src.lit (fdD_rd w1 _ e)) rfl (by omega) (by omega) (by simp;omega) ?_;intro v'' w2 hO2 hg2 ha2))
    go_roundw
    case rel=>
     refine⟨j+1,by omega,by go_num,?_,(hb1.alloc hb1.size (.cells ⟨fdV e⟩ 158)).grown hg2 (by simp;omega) (fun q hq=>(hO1.lt q hq).1)⟩;rw[hE.out];simpa using hO2
    case measure=>simp[intOf];omega
   ·have hE:=Hd (mv_miss (x:=x) he (n:=n) (fun h=>hn h.symm));clear he;go_wp2_with (at_builtin;refine wpa rfl (.tmp 29) (.tmp 34) _ rfl (m:=1) (news:=fdD e) elFd (hO.alloc (.cells ⟨fdV e⟩ 158)) rfl rfl (Src.lit (fdD_rd wr _ e)) rfl (by omega) (by omega) (by simp;omega) ?_;intro v'' w2 hO2 hg2 ha2);go_roundw
    case rel=>
     refine⟨j+1,by omega,by go_num,?_,(hB.alloc hB.size (.cells ⟨fdV e⟩ 158)).grown hg2 (by simp;omega) (fun q hq=>(hO.lt q hq).1)⟩;rw[hE.out];simpa using hO2
    case measure=>simp[intOf];omega
  ·have hjn:j=R.length:=by omega
   subst hjn;have hsz:=hB.size;obtain⟨b2,off2,rfl,y0,y1,y2⟩:=krow.out wr (hB1.trans (hB.mono hz1));by_cases hn:(R.length:Int)=n
   ·subst hn;go_wp2_with (at_builtin;refine wpa rfl (.tmp 40) (.tmp 45) _ rfl (m:=1) (news:=fdD x) elFd (hO.alloc (.cells ⟨fdV x⟩ 158)) rfl rfl (Src.lit (fdD_rd wr _ x)) rfl (by omega) (by omega) (by simp;omega) ?_;intro v'' w2 hO2 hg2 ha2);go_ret;refine⟨_,mvTo R x R.length R.length++[x],rfl,fun h0 h1=>?_,by simp;omega,?_,hB1.trans (((hB.alloc hB.size (.cells ⟨fdV x⟩ 158)).grown hg2 (by simp;omega) (fun q hq=>(hO.lt q hq).1)).mono hz1)⟩
    ·have:=hend.out h0 h1;rwa [if_pos trivial]at this
    ·have:=hO2.base hz1;simpa using this
   ·go_wp2;go_ret;refine⟨_,mvTo R x n R.length,rfl,fun h0 h1=>?_,by omega,hO.base hz1,hB1.trans (hB.mono hz1)⟩;have:=hend.out h0 h1;rwa [if_neg hn]at this
end evW
def cgC (c:Cg)(B:Option Addr)(d:Nat):List Value:=[.int .i64 c.kd,.string c.ty,.string c.at_,.string c.nm,.slice B c.ats.length d,.int .i64 c.n]
def AtPost (l:List Fd)(c:Cg)(w:World)(e:Ending)(w':World):Prop:=∃v b,e=.returned (.tuple #[v,.bool b])∧
 (∀fs,chF l c=some fs→b=true∧OL w' w.heap.size (fun _=>False) 158 3 v fs.length (fs.flatMap fdD))∧(chF l c=none→b=false)∧Bw w w'
theorem AtPost.mk_some {l fs:List Fd}{c:Cg}{w w':World}{v:Value}(h:chF l c=some fs)(hO:OL w' w.heap.size (fun _=>False) 158 3 v fs.length (fs.flatMap fdD))(hb:Bw w w'):AtPost l c w (.returned (.tuple #[v,.bool true])) w':=
 ⟨v,true,rfl,fun fs' h'=>by rw[h]at h';injection h' with h';subst h';exact⟨rfl,hO⟩,fun h'=>(by rw[h]at h';cases h'),hb⟩
theorem AtPost.mk_none {l:List Fd}{c:Cg}{w w':World}{v:Value}(h:chF l c=none)(hb:Bw w w'):AtPost l c w (.returned (.tuple #[v,.bool false])) w':=
 ⟨v,false,rfl,fun fs' h'=>(by rw[h]at h';cases h'),fun _=>rfl,hb⟩
theorem mod_set {α:Type}{l:List α}{k:Nat}{x:α}(h:l[k]? =some x)(f:α→α):l.modify k f=l.set k (f x):=by
 apply List.ext_getElem?;intro i;rw[List.getElem?_modify,xL];have hk':=(zC.1 h).1;by_cases hk:k=i
 ·subst hk;have e:l[k]=x:=by rw[zI hk']at h;exact zq9 h
  simp[hk',e]
 ·simp[hk]
theorem fd_set (l:List Fd):∀(k:Nat)(x:Fd)(s:ByteArray),l[k]? =some x→(l.flatMap fdD).set (k*3) (.v (.string s))=(l.set k {x with nm:=s}).flatMap fdD:=by
 induction l with
 |nil=>intro k x s h;simp at h
 |cons a l ih=>
  intro k x s h;cases k with
  |zero=>
   simp only[zY,Option.some.injEq]at h;subst h;rfl
  |succ k=>
   simp only[xA]at h;rw[List.set_cons_succ,zK,zK,←ih k x s h,List.set_append,show(fdD a).length=3 from rfl,if_neg (by omega),show(k+1)*3-3=k*3 by omega]
namespace evW
open nmW
theorem attrs_k (A B:Option Addr)(ca d:Nat)(F:Nat→Prop)(l:List Fd)(c:Cg)(hk4:4≤c.kd)(hk7:c.kd≤7)(hl:l.length≤1048576)(w:World)(hF:∀b,F b→b<w.heap.size)(r:Rd w F (.slice A l.length ca) (.sl l.length (l.flatMap fdD))):
  Calls Tryz.prog 98 #[.slice A l.length ca,.agg #[.int .i64 c.kd,.string c.ty,.string c.at_,.string c.nm,.slice B c.ats.length d,.int .i64 c.n]] w (AtPost l c w):=by
 have ka:∀W,Bw w W→Calls Tryz.prog 129 #[.slice A l.length ca,.string c.at_] W fun e w'=>e=.returned (.int .i64 (optI (flAt l c.at_)))∧w'=W:=fun W hW=>attrAt_k A ca F l c.at_ hl W (r.under hW hF)
 have kw:∀W k,Bw w W→Calls Tryz.prog 130 #[.slice A l.length ca,.int .i64 ((k:Nat):Int)] W fun e w'=>∃v,e=.returned v∧OL w' W.heap.size (fun _=>False) 158 3 v (l.eraseIdx k).length ((l.eraseIdx k).flatMap fdD)∧Bw W w':=fun W k hW=>without_k A ca F l k hl W (fun b h=>zF (hF b h) hW.size) (r.under hW hF)
 have km:∀W k x,l[k]? =some x→Bw w W→Calls Tryz.prog 131 #[.slice A l.length ca,.int .i64 ((k:Nat):Int),.int .i64 c.n] W (MvPost l k c.n W):=fun W k x hx hW=>moved_k A ca F l k x hx c.n hl W (fun b h=>zF (hF b h) hW.size) (r.under hW hF)
 replace r:=Hd r;replace hF:=Hd hF;replace ka:=Hd ka;replace kw:=Hd kw;replace km:=Hd km;go_enter Tryz.func98,Tryz.ntmps98;go_wp2;go_loopw [6,7] (fun v x wr=>∃j:Nat,j≤l.length∧x=.int .i64 j∧OL wr (w.heap.size+1) (fun _=>False) 158 3 v j ((l.take j).flatMap fdD)∧Blk wr w.heap.size 51 (cgC c B d)∧Bw w wr) (fun _ x _=>l.length- (intOf x).toNat)
 case atStart=>exact⟨0,zE _,rfl,.nil _ _ _ _ _,Blk.new _ _ _,bA⟩
 case round=>
  obtain⟨j,hj,rfl,hO,hX,hB⟩:=hrel;have hsz:=hX.lt;by_cases hlt:j<l.length
  ·obtain⟨e,he⟩:=getx hlt;have g0:(0:Int)≤(j:Int):=by omega
   have g1:(j:Int)<l.length:=by omega
   obtain⟨b,off,rfl,_,hv,_⟩:=(r.out.under hB hF.out).rowv (m:=3) (fun _=>rfl) he (by omega);have x0:wr.cell? ⟨b,off+j*3,none⟩=some (.string e.nm):=hv 0 _ rfl;have x1:wr.cell? ⟨b,off+j*3+1,none⟩=some (.int .i64 e.fr):=hv 1 _ rfl;have x2:wr.cell? ⟨b,off+j*3+2,none⟩=some (.int .i64 e.fl):=hv 2 _ rfl;have hfm:(l.take (j+1)).flatMap fdD=(l.take j).flatMap fdD++fdD e:=by rw[zJ,he];simp
   replace hfm:=Hd hfm;replace hX:=Hd hX;clear hv he;go_wp2_with (at_builtin;refine wpa rfl (.tmp 15) (.tmp 20) _ rfl (m:=1) (news:=fdD e) elFd (hO.alloc (.cells ⟨fdV e⟩ 158)) rfl rfl (Src.lit (fdD_rd wr _ e)) rfl (by omega) (by omega) (by simp;omega) ?_;intro v' w1 hO1 hg1 ha1);go_roundw
   case rel=>exact⟨j+1,by omega,by go_num,by rw[hfm.out];exact hO1,(hX.out.alloc _).grown hg1 (fun e=>by have:=(hO.lt _ e.symm).1;omega),(hB.alloc hB.size (.cells ⟨fdV e⟩ 158)).grown hg1 (by simp;omega) (fun q hq=>by have:=(hO.lt q hq).1;omega)⟩
   case measure=>simp[intOf];omega
  ·obtain rfl:j=l.length:=by omega
   rw[zL]at hO;have z0:wr.cell? ⟨w.heap.size,0,none⟩=some (.int .i64 c.kd):=hX.cell 0;have z2:wr.cell? ⟨w.heap.size,2,none⟩=some (.string c.at_):=hX.cell 2;have z3:wr.cell? ⟨w.heap.size,3,none⟩=some (.string c.nm):=hX.cell 3;have z5:wr.cell? ⟨w.heap.size,5,none⟩=some (.int .i64 c.n):=hX.cell 5;obtain⟨kd,ty,at_,nm,ats,n⟩:=c;dsimp only at*;replace hX:=Hd hX;by_cases e4:kd=4
   ·subst e4;have hch:=Hd (show chF l ⟨4,ty,at_,nm,ats,n⟩=some (l++[⟨nm,-1,n⟩]) from if_pos rfl);go_wp2_with (at_builtin;refine wpa rfl (.tmp 25) (.tmp 31) _ rfl (m:=1) (news:=fdD ⟨nm,-1,n⟩) elFd (hO.alloc (.cells ⟨fdV ⟨nm,-1,n⟩⟩ 158)) rfl rfl (Src.lit (fdD_rd wr _ ⟨nm,-1,n⟩)) rfl (by omega) (by omega) (by simp;omega) ?_;intro v' w1 hO1 hg1 ha1);go_ret2;refine AtPost.mk_some hch.out ?_ ((hB.alloc hB.size _).grown hg1 (by simp;omega) (fun q hq=>by have:=(hO.lt q hq).1;omega));have:=hO1.base (B':=w.heap.size) (by omega);simpa using this
   ·have d4:¬(kd==4)=true:=(by simpa using e4);cases hfl:flAt l at_ with
    |none=>
     have hch:chF l ⟨kd,ty,at_,nm,ats,n⟩=none:=(by unfold chF;rw[if_neg e4,hfl]);rw[hfl,show optI none= -1 from rfl]at ka;replace hch:=Hd hch;go_wp2_with (go_at_call 129;refine(ka.out _ hB).mono ?_;rintro e w' ⟨rfl,rfl⟩);go_ret2;exact AtPost.mk_none hch.out hB
    |some k=>
     have hkl:=flAt_lt hfl;obtain⟨x,hx⟩:=getx hkl;rw[hfl,show optI (some k)=(k:Int)from rfl]at ka;have g0:(0:Int)≤(k:Int):=by omega
     have g1:(k:Int)<l.length:=(by omega);by_cases e5:kd=5
     ·subst e5;have hch:chF l ⟨5,ty,at_,nm,ats,n⟩=some (l.eraseIdx k):=by unfold chF;rw[if_neg e4,hfl];exact if_pos rfl
      replace hch:=Hd hch;go_wp2_with (first
       |(go_at_call 129;refine(ka.out _ hB).mono ?_;rintro e w' ⟨rfl,rfl⟩)
       |(go_at_call 130;refine(kw.out _ k hB).mono ?_;rintro e w' ⟨v,rfl,hO1,hB1⟩))
      go_ret2;exact AtPost.mk_some hch.out (hO1.base (by omega)) (hB.trans (hB1.mono hB.size))
     ·have d5:¬(kd==5)=true:=(by simpa using e5);by_cases e6:kd=6
      ·subst e6;have hch:chF l ⟨6,ty,at_,nm,ats,n⟩=some (l.set k {x with nm:=nm}):=by unfold chF;rw[if_neg e4,hfl];show(if _ then _ else if _ then _ else _)=_;rw[if_neg e5,if_pos rfl,mod_set hx]
       replace hch:=Hd hch;obtain⟨g,cap,rfl,hgB,hgl,hfz,hc⟩:=hO.row (by omega);obtain⟨u,hu,_⟩:=hc (k*3+0) _ (fmg (f:=fdD) (m:=3) (fun _=>rfl) hx rfl);have hu0:wr.cell? ⟨g,k*3,none⟩=some u:=hu;have hf0:wr.frozen? ⟨g,k*3,none⟩=false:=hfz _;have hO1:=hO.set (j:=k*3) (u:=.string nm) (d:=.v (.string nm)) (.v _ rfl);rw[fd_set l k x nm hx]at hO1;replace hO1:=Hd hO1;clear hc hfz hO;go_wp2_with (go_at_call 129;refine(ka.out _ hB).mono ?_;rintro e w' ⟨rfl,rfl⟩);go_ret2;exact AtPost.mk_some hch.out (by simpa using hO1.out.base (by omega)) (hB.setCell (by show _≤g;omega) _)
      ·obtain rfl:kd=7:=by omega
       have kmx:=fun W hW=>km.out W k x hx hW
       replace kmx:=Hd kmx;by_cases hn:0≤n
       ·by_cases hnl:n<l.length
        ·have hch:=Hd (show chF l ⟨7,ty,at_,nm,ats,n⟩=some (mvF l k n.toNat) by unfold chF;rw[if_neg e4,hfl];exact(if_neg e5).trans ((if_neg e6).trans (if_pos ⟨hn,hnl⟩)));clear hx;go_upto_region 17 with(go_at_call 129;refine(ka.out _ hB).mono ?_;rintro e w' ⟨rfl,rfl⟩)
         go_region_law ((go_simp;go_at_call 131;refine(kmx.out _ hB.drew).mono ?_;rintro e w2 ⟨v,L',rfl,hL,hL2,hO1,hB1⟩;have y5:w2.cell? ⟨w.heap.size,5,none⟩=some (.int .i64 n):=(Blk.stay (show Blk (World.drew _) _ _ _ from hX.out) hB1).cell 5))
         all_goals
          go_wp2;go_ret2;exact AtPost.mk_some hch.out (hL hn hnl▸hO1.base hB.size) (hB.drew.trans (hB1.mono hB.size))
        ·have hch:=Hd (show chF l ⟨7,ty,at_,nm,ats,n⟩=none by unfold chF;rw[if_neg e4,hfl];exact(if_neg e5).trans ((if_neg e6).trans (if_neg (fun h'=>hnl h'.2))));have hd:decide (n<(l.length:Int))=false:=zV hnl;clear hx;go_upto_region 17 with(go_at_call 129;refine(ka.out _ hB).mono ?_;rintro e w' ⟨rfl,rfl⟩)
         go_region_law ((go_simp;go_at_call 131;refine(kmx.out _ hB.drew).mono ?_;rintro e w2 ⟨v,L',rfl,hL,hL2,hO1,hB1⟩;have y5:w2.cell? ⟨w.heap.size,5,none⟩=some (.int .i64 n):=(Blk.stay (show Blk (World.drew _) _ _ _ from hX.out) hB1).cell 5))
         all_goals
          go_wp2;go_ret2;exact AtPost.mk_none hch.out (hB.drew.trans (hB1.mono hB.size))
       ·have hch:=Hd (show chF l ⟨7,ty,at_,nm,ats,n⟩=none by unfold chF;rw[if_neg e4,hfl];exact(if_neg e5).trans ((if_neg e6).trans (if_neg (fun h'=>hn h'.1))));have hd:decide (0≤n)=false:=zV hn;have hd2:decide (n≥0)=false:=zV hn;clear hx;go_upto_region 17 with(go_at_call 129;refine(ka.out _ hB).mono ?_;rintro e w' ⟨rfl,rfl⟩)
        first|go_region_law ((go_simp;go_at_call 131;refine(kmx.out _ hB.drew).mono ?_;rintro e w2 ⟨v,L',rfl,hL,hL2,hO1,hB1⟩;have y5:w2.cell? ⟨w.heap.size,5,none⟩=some (.int .i64 n):=(Blk.stay (show Blk (World.drew _) _ _ _ from hX.out) hB1).cell 5))|fail
        all_goals
         go_wp2;go_ret2;exact AtPost.mk_none hch.out (hB.drew.trans (hB1.mono hB.size))
end evW
theorem fstF_len (l:List ByteArray):(fstF l).length=l.length:=by simp[fstF]
theorem fstK_len (S:List Td):(fstK S).length=S.length:=by simp[fstK]
theorem fstF_next {l:List ByteArray}{k:Nat}{a:ByteArray}(h:l[k]? =some a):((fstF l).take (k+1)).flatMap fdD=((fstF l).take k).flatMap fdD++fdD ⟨a,k,0⟩:=by
 rw[zJ,fstF,xQ,h];simp
theorem fstK_next {S:List Td}{k:Nat}{t:Td}(h:S[k]? =some t):((fstK S).take (k+1)).flatMap kdD=((fstK S).take k).flatMap kdD++kdD ⟨t.name,k,fstF t.attrs⟩:=by
 rw[zJ,fstK,xQ,h];simp
structure IB (wo wr:World)(T:Nat)(nm:ByteArray)(fr:Int)(u:Value)(E:Nat)(k:Nat)(ds:List D):Prop where
 hb:Bw wo wr
 bx:Blk wr wo.heap.size T [.string nm,.int .i64 fr,u]
 ol:OL wr (wo.heap.size+1) (fun _=>False) E 3 u k ds
theorem IB.stay {wo wr w2:World}{T E k:Nat}{nm:ByteArray}{fr:Int}{u:Value}{ds:List D}(h:IB wo wr T nm fr u E k ds)(hb:Bw wr w2):IB wo w2 T nm fr u E k ds:=
 ⟨h.hb.trans (hb.mono h.hb.size),h.bx.stay hb,h.ol.stay hb⟩
theorem IB.put {wo wr w1:World}{T E k m:Nat}{nm:ByteArray}{fr:Int}{u v:Value}{ds ds':List D}{row:Option Nat}(h:IB wo wr T nm fr u E k ds)(hg:wr.grownBy w1 row)(hr:∀q,row=some q→wo.heap.size+1≤q)(hO:OL w1 (wo.heap.size+1) (fun _=>False) E 3 v m ds'):
  IB wo (w1.setCell ⟨wo.heap.size,2,none⟩ v) T nm fr v E m ds':=by
 refine⟨(h.hb.grown hg h.hb.size (fun q hq=>by have:=hr q hq;omega)).setCell nR _,(h.bx.grown hg (fun e=>by have:=hr _ e.symm;omega)).set_ 2 v,hO.setCell (fun e=>by have:=(hO.lt _ e).1;simp at this;omega) (fun h=>h) _⟩
structure SX (w wr:World)(vs:Value):Prop where
 hb:Bw w wr
 bx:Blk wr w.heap.size 24 [vs]
theorem SX.grown {w wr w1:World}{vs:Value}{row:Option Nat}(h:SX w wr vs)(hg:wr.grownBy w1 row)(hr:∀q,row=some q→w.heap.size<q):SX w w1 vs:=
 ⟨h.hb.grown hg h.hb.size (fun q hq=>by have:=hr q hq;omega),h.bx.grown hg (fun e=>by have:=hr _ e.symm;omega)⟩
theorem SX.stay {w wr w2:World}{vs:Value}(h:SX w wr vs)(hb:Bw wr w2):SX w w2 vs:=⟨h.hb.trans (hb.mono h.hb.size),h.bx.stay hb⟩
namespace evW
open nmW
theorem first_k (A:Option Addr)(c:Nat)(F:Nat→Prop)(S:List Td)(hS:SzT S)(w:World)(hF:∀b,F b→b<w.heap.size)(r:Rd w F (.slice A S.length c) (.sl S.length (S.flatMap tdD))):
  Calls Tryz.prog 48 #[.agg #[.slice A S.length c]] w fun e w'=>∃v,e=.returned v∧OL w' w.heap.size (fun b=>b<w'.heap.size) 156 3 v S.length ((fstK S).flatMap kdD)∧Bw w w':=by
 obtain⟨hl1,hl2⟩:=hS;replace hl2:=Hd hl2;replace hF:=Hd hF;replace r:=Hd r;go_enter Tryz.func48,Tryz.ntmps48;go_wp2;go_loopw [3,4] (fun v x wr=>∃(j:Nat)(s3:Value),s3=v∧j≤S.length∧x=.int .i64 j∧OL wr (w.heap.size+1) (fun b=>b<wr.heap.size) 156 3 s3 j (((fstK S).take j).flatMap kdD)∧SX w wr (.slice A S.length c)) (fun _ x _=>S.length- (intOf x).toNat)
 case atStart=>exact⟨0,_,rfl,zE _,rfl,.nil _ _ _ _ _,bA,Blk.new _ _ _⟩
 case round=>
  obtain⟨j,s3,rfl,hj,rfl,hO,hX⟩:=hrel;have z0:wr.cell? ⟨w.heap.size,0,none⟩=some (.slice A S.length c):=hX.bx.cell 0;by_cases hlt:j<S.length
  ·obtain⟨t,ht⟩:=getx hlt;obtain⟨hs1,hs2,hs3⟩:=hl2.out t (zA ht);obtain⟨b,off,rfl,hFb,hv,hsl⟩:=r.out.rowv (m:=2) (fun _=>rfl) ht (by omega);have hfB:=hF.out b hFb;obtain⟨A2,c2,a1,r2⟩:=hsl 1 _ _ rfl;have kc:∀W,SX w W (.slice (some ⟨b,off,none⟩) S.length c)→W.cell? ⟨b,off+j*2+1,none⟩=some (.slice A2 t.attrs.length c2)∧W.cell? ⟨w.heap.size,0,none⟩=some (.slice (some ⟨b,off,none⟩) S.length c)∧Rd W F (.slice A2 t.attrs.length c2) (.sl t.attrs.length (t.attrs.flatMap strD)):=fun W hW=>
    ⟨(hW.hb.cell (p:=⟨b,off+j*2+1,none⟩) hfB).trans a1,hW.bx.cell 0,r2.under hW.hb hF.out⟩
   have v0:wr.cell? ⟨b,off+j*2,none⟩=some (.string t.name):=(hX.hb.cell (p:=⟨b,off+j*2,none⟩) hfB).trans (hv 0 _ rfl);have g0:(0:Int)≤(j:Int):=by omega
   have g1:(j:Int)<S.length:=by omega
   have hfm:=fstK_next ht;obtain⟨wo,hwo⟩:∃wo:World,wo=wr:=⟨_,rfl⟩
   subst hwo;have hw0:=hX.bx.lt;replace kc:=Hd kc;replace hfm:=Hd hfm;replace hO:=Hd hO;replace hX:=Hd hX;clear hv hsl r2 a1 ht;go_wp2;go_loopw [6] (fun y wr=>∃(k:Nat)(u:Value),k≤t.attrs.length∧y=.int .i64 k∧IB wo wr 156 t.name j u 158 k (((fstF t.attrs).take k).flatMap fdD)) (fun y _=>t.attrs.length- (intOf y).toNat)
   case atStart=>exact⟨0,.slice none 0 0,zE _,rfl,bA,Blk.new _ _ _,.nil _ _ _ _ _⟩
   case round=>
    obtain⟨k,u,hk,rfl,hI⟩:=hrel;have hXr:=hX.out.stay hI.hb;obtain⟨a1,z1,r3⟩:=kc.out wr hXr;have i2:wr.cell? ⟨wo.heap.size,2,none⟩=some u:=hI.bx.cell 2;clear z0 v0;by_cases hlk:k<t.attrs.length
    ·obtain⟨a,ha⟩:=getx hlk;obtain⟨b2,off2,rfl,hFb2,ha2⟩:=r3.at_ ha;have q0:wr.cell? ⟨b2,off2+k,none⟩=some (.string a):=ha2;have g2:(0:Int)≤(k:Int):=by omega
     have g3:(k:Int)<t.attrs.length:=(by omega);have hfk:=Hd (fstF_next ha);have hz:=hI.bx.lt;have hI':=Hd hI;clear ha2 r3 ha hXr hI;go_upto_region 9 with fail
     go_region_law ((refine step_app (by rfl) (.tmp 34) (.tmp 46) _ (by rfl) (m:=1) (news:=fdD ⟨a,k,0⟩) elFd (by exact(hI'.out.ol.alloc (.cells ⟨fdV ⟨a,k,0⟩⟩ 158)).drew) (by rfl) (by rfl) (by exact(Src.lit (fdD_rd wr _ ⟨a,k,0⟩)).drew) rfl (by omega) (by omega) (by simp;omega) ?_;intro v' w1 hO1 hg1 ha1;obtain⟨B3,d3,rfl⟩:=hO1.form;have hg:=undrew hg1;have hB:=hI'.out.stay (bX (.cells ⟨fdV ⟨a,k,0⟩⟩ 158));have t0:=hB.bx.grown hg (fun e=>by have:=(hI'.out.ol.lt _ e.symm).1;omega);have t1:w1.cell? ⟨wo.heap.size,2,none⟩=some u:=t0.cell 2;have t2:w1.frozen? ⟨wo.heap.size,2,none⟩=false:=t0.frozen 2))
     all_goals
      have hI3:=hB.put hg (fun q hq=>(hI'.out.ol.lt q hq).1) hO1;rw[←hfk.out]at hI3;go_wp2_with fail;go_roundw
      case rel=>exact⟨k+1,_,by omega,by go_num,hI3⟩
      case measure=>simp[intOf];omega
    ·have hkn:k=t.attrs.length:=(by omega);subst hkn;have htk:(fstF t.attrs).take t.attrs.length=fstF t.attrs:=xH (by simp[fstF]);rw[htk]at hI;obtain⟨U,cu,rfl⟩:=hI.ol.form;have i0:wr.cell? ⟨wo.heap.size,0,none⟩=some (.string t.name):=hI.bx.cell 0;have i1:wr.cell? ⟨wo.heap.size,1,none⟩=some (.int .i64 j):=hI.bx.cell 1;have hz:=hI.bx.lt;have hO2:=(hO.out.stay hI.hb).mono (G:=fun b=>b<wr.heap.size) (fun b h=>by omega);have hlow:∀q,s3.ownBlock=some q→q<wo.heap.size:=fun q hq=>(hO.out.lt q hq).2
     have hRL:RdL wr (fun b=>b<wr.heap.size∧some b≠s3.ownBlock) [.string t.name,.int .i64 j,.slice U t.attrs.length cu] (kdD ⟨t.name,j,fstF t.attrs⟩):=by
      refine⟨.v _ rfl,.v _ rfl,?_,trivial⟩;show Rd _ _ _ (.sl (fstF t.attrs).length _)
      rw[fstF_len];exact hI.ol.rd' (fun _ h _=>h.elim) (fun b hb h1 h2=>⟨h2,fun e=>by have:=hlow b e.symm;omega⟩)
     replace hRL:=Hd hRL;have hI':=Hd hI;clear hI r3 htk;go_wp2_with (at_builtin;refine wpa rfl (.tmp 49) (.tmp 51) _ rfl (m:=1) (news:=kdD ⟨t.name,j,fstF t.attrs⟩) elKd (hO2.alloc (.cells ⟨[.string t.name,.int .i64 j,.slice U t.attrs.length cu]⟩ 156)) rfl rfl (Src.lit hRL.out) rfl (by omega) (by omega) (by simp;omega) ?_;intro v' w1 hO1 hg1 ha1);go_roundw
     case rel=>
      refine⟨j+1,_,rfl,by omega,by go_num,?_,((hXr.stay bA).grown hg1 (fun q hq=>(hO2.lt q hq).1))⟩;rw[hfm.out];exact hO1.mono fun b h=>by have:=hg1.size;simp at this;omega
     case measure=>simp[intOf];omega
  ·have hjn:j=S.length:=by omega
   subst hjn;have htk:(fstK S).take S.length=fstK S:=xH (by simp[fstK]);rw[htk]at hO;go_wp2;go_ret;exact⟨_,rfl,hO.base (by omega),hX.hb⟩
end evW
end Go.Proofs.YtfiodnlgiglhfaaGreatDoor
