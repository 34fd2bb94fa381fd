/- The document's parents and below. -/
import Derived.Test.YthaabihjeomipaaGreatDoorQGd
namespace Go.Proofs.YthaabihjeomipaaGreatDoor
set_option maxRecDepth 100000
set_option maxHeartbeats 16000000
open Go.RowKit Go.Deep Go.Maps
set_option linter.unusedVariables false
set_option linter.unusedSimpArgs false
theorem rg_get {f:Nat→Value}{n k:Nat}(h:k<n):((List.range n).map f)[k]? =some (f k):=by rw[zG,List.getElem?_range h];rfl
theorem rg_set {f:Nat→Value}{n k:Nat}{v:Value}:((List.range n).map f).set k v=(List.range n).map fun j=>if j=k then v else f j:=by
 apply List.ext_getElem?;intro i;rw[xL];by_cases hik:k=i
 ·subst hik;rw[if_pos rfl];by_cases hl:k<n
  ·rw[if_pos (by simpa using hl),rg_get hl,if_pos rfl]
  ·rw[if_neg (by simpa using hl),xO (by simp;omega)]
 ·rw[if_neg hik];by_cases hl:i<n
  ·rw[rg_get hl,rg_get hl,if_neg (fun e=>hik e.symm)]
  ·rw[xO (by simp;omega),xO (by simp;omega)]
theorem rg_congr {f g:Nat→Value}{n:Nat}(h:∀j,j<n→f j=g j):(List.range n).map f=(List.range n).map g:=List.map_congr_left fun j hj=>h j (List.mem_range.1 hj)
theorem elBool:ElT Tryz.prog 113 4 1 1:=.of Tryz.underlying113 kQ oQ
def upV (t:List Nd)(n i:Nat):List Value:=(List.range n).map fun j=>.int .i64 (upF t i j)
theorem upF_lt {t:List Nd}{k j:Nat}{i:Nat}(h:upF t k j=(i:Int)):i<k:=(upF_some h).1
theorem upF_ge (t:List Nd)(k j:Nat): -1≤upF t k j∧upF t k j<(k:Int)∨upF t k j= -1:=by
 rcases upF_cases t k j with⟨h,_⟩|⟨i,h⟩
 ·exact .inr h
 ·left;rw[h];have:=upF_lt h;omega
theorem upF_next {t:List Nd}{i:Nat}{x:Nd}(hx:t[i]? =some x)(j:Nat):upF t (i+1) j=if x.a=(j:Int)∨x.b=(j:Int)then(i:Int)else upF t i j:=by
 show(match t[i]? with |some x=>_ |none=>_)=_
 rw[hx]
theorem upV_step {t:List Nd}{n i g:Nat}{x:Nd}{W:World}(hx:t[i]? =some x)(hb:Blk W g 3 (upV t n i)):
  (∀m k:Nat,x.a=m→x.b=k→Blk ((W.setCell ⟨g,m,none⟩ (.int .i64 i)).setCell ⟨g,k,none⟩ (.int .i64 i)) g 3 (upV t n (i+1)))∧
  (∀m:Nat,x.a=m→¬0≤x.b→Blk (W.setCell ⟨g,m,none⟩ (.int .i64 i)) g 3 (upV t n (i+1)))∧
  (∀k:Nat,¬0≤x.a→x.b=k→Blk (W.setCell ⟨g,k,none⟩ (.int .i64 i)) g 3 (upV t n (i+1)))∧
  (¬0≤x.a→¬0≤x.b→Blk W g 3 (upV t n (i+1))):=by
 refine⟨fun m k h1 h2=>?_,fun m h1 h2=>?_,fun k h1 h2=>?_,fun h1 h2=>?_⟩
 ·have:=(hb.set_ m (.int .i64 i)).set_ k (.int .i64 i);unfold upV at this ⊢;rw[rg_set,rg_set]at this;rw[show((List.range n).map fun j=>Value.int .i64 (upF t (i+1) j))=_ from rg_congr fun j _=>?_]
  ·exact this
  ·rw[upF_next hx,h1,h2];by_cases e1:j=k
   ·subst e1;rw[if_pos (.inr rfl),if_pos rfl]
   ·rw[if_neg e1];by_cases e2:j=m
    ·subst e2;rw[if_pos (.inl rfl),if_pos rfl]
    ·rw[if_neg oQ,if_neg e2]
 ·have:=hb.set_ m (.int .i64 i);unfold upV at this ⊢;rw[rg_set]at this;rw[show((List.range n).map fun j=>Value.int .i64 (upF t (i+1) j))=_ from rg_congr fun j _=>?_]
  ·exact this
  ·rw[upF_next hx,h1];by_cases e2:j=m
   ·subst e2;rw[if_pos (.inl rfl),if_pos rfl]
   ·rw[if_neg oQ,if_neg e2]
 ·have:=hb.set_ k (.int .i64 i);unfold upV at this ⊢;rw[rg_set]at this;rw[show((List.range n).map fun j=>Value.int .i64 (upF t (i+1) j))=_ from rg_congr fun j _=>?_]
  ·exact this
  ·rw[upF_next hx,h2];by_cases e2:j=k
   ·subst e2;rw[if_pos (.inr rfl),if_pos rfl]
   ·rw[if_neg oQ,if_neg e2]
 ·have:upV t n (i+1)=upV t n i:=rg_congr fun j _=>by rw[upF_next hx,if_neg oQ]
  rw[this];exact hb
def RowPost (e t n:Nat)(cs:List Value)(w:World)(x:Ending)(w':World):Prop:=∃g,x=.returned (.slice (some ⟨g,0,none⟩) n n)∧w.heap.size≤g∧Blk w' g t cs∧Bw w w'
theorem RowPost.mk {e t n g:Nat}{cs:List Value}{w w':World}(h:w.heap.size≤g)(hb:Blk w' g t cs)(hB:Bw w w'):RowPost e t n cs w (.returned (.slice (some ⟨g,0,none⟩) n n)) w':=⟨g,rfl,h,hb,hB⟩
def inB (b r i:Nat):Bool:=decide (b≤i)&&decide (i≤r)
theorem inB_eq {t:List Nd}{b r:Nat}(h:Sp t b r)(ha:AllSp t t.length){i:Nat}(hi:i<t.length):inB b r i=(decide (i=r)||(match upF t t.length i with | .ofNat k=>inB b r k | .negSucc _=>false)):=by
 have hle:=h.le;by_cases e:i=r
 ·subst e;unfold inB;simp[hle]
 ·rw[zV e,Bool.false_or];by_cases e2:b≤i∧i<r
  ·obtain⟨k,a1,a2,a3,_⟩:=h.upIn ha e2.1 e2.2;rw[a1];show _=inB b r k
   unfold inB;rw[zW e2.1,zW oQ,zW (by omega:b≤k),zW a3]
  ·have hf:inB b r i=false:=by
    unfold inB;by_cases h1:b≤i
    ·rw[zV (by omega:¬i≤r),Bool.and_false]
    ·rw[zV h1,Bool.false_and]
   rw[hf];rcases upF_cases t t.length i with⟨hu,_⟩|⟨k,hu⟩
   ·rw[hu];rfl
   ·rw[hu];show false=inB b r k
    obtain⟨_,_,c3⟩:=h.upOut ha (by omega:i<b∨r≤i) hu;unfold inB;rcases c3 with h1 |h1
    ·rw[zV (by omega:¬b≤k),Bool.false_and]
    ·rw[zV (by omega:¬k≤r),Bool.and_false]
theorem up_gt {t:List Nd}(ha:AllSp t t.length){i k:Nat}(h:upF t t.length i=(k:Int)):i<k∧k<t.length:=by
 obtain⟨c1,c2,_⟩:=upF_some h;obtain⟨b,hb⟩:=ha k c1;exact⟨(hb.kids c2).2,c1⟩
namespace ckW
open nmW
theorem parents_k (A:Option Addr)(c:Nat)(F:Nat→Prop)(t:List Nd)(hl:t.length≤1048576)(ht:treeB t=true)(w:World)(hF:∀b,F b→b<w.heap.size)(r:Rd w F (.slice A t.length c) (.sl t.length (t.flatMap ndD))):
  Calls Tryz.prog 59 #[.slice A t.length c] w (RowPost 62 3 t.length (upV t t.length t.length) w):=by
 have hab:=treeB_lt ht;obtain⟨zs,hz,hmk⟩:=run_made (P:=Tryz.prog) elInt t.length hl oQ;have hb0:Blk (w.alloc (.cells ⟨zs⟩ 3)) w.heap.size 3 zs:=Blk.new _ _ _;have hB0:Bw w (w.alloc (.cells ⟨zs⟩ 3)):=bA;replace r:=r.under hB0 hF;replace hz:zs.length=t.length:=oQ;generalize hn:t.length=n at*;replace hab:=Hd hab;replace hb0:=Hd hb0;replace hB0:=Hd hB0;have hnH:=Hd hn;clear hn ht;go_enter Tryz.func59,Tryz.ntmps59;go_wp2;go_loopw [4] (fun i wr=>∃(j:Nat)(cs:List Value),j≤n∧i=.int .i64 j∧Bw w wr∧Blk wr w.heap.size 3 cs∧cs.length=n∧Hid (∀k,k<j→cs[k]? =some (.int .i64 (-1)))) (fun i _=>n- (intOf i).toNat)
 case atStart=>exact⟨0,zs,zE _,rfl,hB0.out,hb0.out,hz,fun k hk=>by omega⟩
 case round=>
  clear hb0 hB0;obtain⟨j,cs,hj,rfl,hB,hb,hcl,hc⟩:=hrel;by_cases hlt:j<n
  ·obtain⟨u,hu⟩:=getx (l:=cs) (i:=j) oQ;have c4:=(hb.cell j).trans hu;have d4:=hb.frozen j;have g1:(0:Int)≤(j:Int):=oQ;have g2:(j:Int)<n:=oQ;have hnx:Hid (∀k,k<j+1→(cs.set j (.int .i64 (-1)))[k]? =some (.int .i64 (-1))):=fun k hk=>by
    rw[xL];by_cases e:j=k
    ·rw[if_pos e,if_pos oQ]
    ·rw[if_neg e];exact hc.out k oQ
   have hb2:=Hd (hb.set_ j (.int .i64 (-1)));have hB2:=Hd (hB.setCell (p:=⟨w.heap.size,j,none⟩) nR (.int .i64 (-1)));replace hb:=Hd hb;replace hB:=Hd hB;replace hu:=Hd hu;have hcl2:=Hd hcl;clear hcl;go_wp2;go_roundw
   case rel=>exact⟨j+1,_,oQ,gQ,hB2.out,hb2.out,by rw[List.length_set];exact hcl2.out,hnx⟩
   case measure=>exact mQ
  ·have g1:¬(j:Int)<n:=oQ;obtain rfl:j=n:=oQ;have hcs:cs=upV t j 0:=by
    apply List.ext_getElem?;intro i;by_cases hi:i<j
    ·rw[hc.out i hi];unfold upV;rw[rg_get hi];rfl
    ·rw[xO oQ,xO (by unfold upV;simp;omega)]
   rw[hcs]at hb;replace hb:=Hd hb;replace hB:=Hd hB;replace hcs:=Hd hcs;clear hcl;go_wp2;go_loopw [5] (fun i wr=>∃k:Nat,k≤j∧i=.int .i64 k∧Bw w wr∧Blk wr w.heap.size 3 (upV t j k)) (fun i _=>j- (intOf i).toNat)
   case atStart=>exact⟨0,zE _,rfl,hB.out,hb.out⟩
   case round=>
    clear hB hb;obtain⟨k,hk,rfl,hB,hb⟩:=hrel;by_cases hlt2:k<j
    ·obtain⟨x,hx⟩:=getx (l:=t) (i:=k) (by rw[hnH.out];exact hlt2);obtain⟨⟨xa1,xa2⟩,xb1,xb2⟩:=hab.out x (zA hx);have hst:=upV_step (n:=j) hx hb;have hr:∃g off,A=some ⟨g,off,none⟩∧wr.cell? ⟨g,off+k*6+4,none⟩=some (.int .i64 x.a)∧wr.cell? ⟨g,off+k*6+5,none⟩=some (.int .i64 x.b)∧g≠w.heap.size:=by
      have rr:=r;rw[←hnH.out]at rr;obtain⟨g,off,e,hg,_,_,_,_,z4,z5⟩:=nd_at rr hx;have hgl:=hF g hg;have e1:wr.cell? ⟨g,off+k*6+4,none⟩=w.cell? ⟨g,off+k*6+4,none⟩:=hB.cell (p:=⟨g,off+k*6+4,none⟩) hgl;have e2:wr.cell? ⟨g,off+k*6+5,none⟩=w.cell? ⟨g,off+k*6+5,none⟩:=hB.cell (p:=⟨g,off+k*6+5,none⟩) hgl;have hh:Bw w (w.alloc (.cells ⟨zs⟩ 3)):=bA;have e3:=hh.cell (p:=⟨g,off+k*6+4,none⟩) hgl;have e4:=hh.cell (p:=⟨g,off+k*6+5,none⟩) hgl;exact⟨g,off,e,by rw[e1,←e3];exact z4,by rw[e2,←e4];exact z5,oQ⟩
     obtain⟨g,off,rfl,z4,z5,hgne⟩:=hr;have g1:(0:Int)≤(k:Int):=oQ;have g2:(k:Int)<j:=oQ;have cc:∀m:Nat,m<j→∃u,wr.cell? ⟨w.heap.size,m,none⟩=some u:=fun m hm=>⟨_,(hb.cell m).trans (by unfold upV;exact rg_get hm)⟩
     have ff:=fun m=>hb.frozen m
     have hB2:=fun(m:Nat) v=>hB.setCell (p:=⟨w.heap.size,m,none⟩) nR v
     have hB3:=fun(m:Nat) v (m2:Nat) v2=>(hB2 m v).setCell (p:=⟨w.heap.size,m2,none⟩) nR v2
     replace hB2:=Hd hB2;replace hB3:=Hd hB3;replace cc:=Hd cc;replace ff:=Hd ff;replace hst:=Hd hst;replace hB:=Hd hB;replace hb:=Hd hb;replace hx:=Hd hx;by_cases pa:0≤x.a
     ·obtain⟨m,hm⟩:∃m:Nat,x.a=m:=⟨x.a.toNat,oQ⟩
      have hm2:(m:Int)<j:=oQ;have hm0:(0:Int)≤(m:Int):=oQ;obtain⟨u1,q1⟩:=cc.out m oQ;have f1:=ff.out m;rw[hm]at z4;by_cases pb:0≤x.b
      ·obtain⟨m2,hm3⟩:∃m:Nat,x.b=m:=⟨x.b.toNat,oQ⟩
       have hm4:(m2:Int)<j:=oQ;have hm5:(0:Int)≤(m2:Int):=oQ;obtain⟨u2,q2⟩:=cc.out m2 oQ;have f2:=ff.out m2;rw[hm3]at z5;have hfin:=Hd (hst.out.1 m m2 hm hm3);replace hm:=Hd hm;replace hm3:=Hd hm3;have hB4:=Hd (hB3.out m (.int .i64 k) m2 (.int .i64 k));by_cases hmm:m=m2
       ·subst hmm;go_wp2;go_roundw
        case rel=>exact⟨k+1,oQ,gQ,hB4.out,hfin.out⟩
        case measure=>exact mQ
       ·go_wp2;go_roundw
        case rel=>exact⟨k+1,oQ,gQ,hB4.out,hfin.out⟩
        case measure=>exact mQ
      ·have hfin:=Hd (hst.out.2.1 m hm pb);have hB4:=Hd (hB2.out m (.int .i64 k));replace hm:=Hd hm;go_wp2;go_roundw
       case rel=>exact⟨k+1,oQ,gQ,hB4.out,hfin.out⟩
       case measure=>exact mQ
     ·by_cases pb:0≤x.b
      ·obtain⟨m2,hm3⟩:∃m:Nat,x.b=m:=⟨x.b.toNat,oQ⟩
       have hm4:(m2:Int)<j:=oQ;have hm5:(0:Int)≤(m2:Int):=oQ;obtain⟨u2,q2⟩:=cc.out m2 oQ;have f2:=ff.out m2;rw[hm3]at z5;have hfin:=Hd (hst.out.2.2.1 m2 pa hm3);have hB4:=Hd (hB2.out m2 (.int .i64 k));replace hm3:=Hd hm3;go_wp2;go_roundw
       case rel=>exact⟨k+1,oQ,gQ,hB4.out,hfin.out⟩
       case measure=>exact mQ
      ·have hfin:=Hd (hst.out.2.2.2 pa pb);go_wp2;go_roundw
       case rel=>exact⟨k+1,oQ,gQ,hB.out,hfin.out⟩
       case measure=>exact mQ
    ·have g1:¬(k:Int)<j:=oQ;obtain rfl:k=j:=oQ;replace hB:=Hd hB;replace hb:=Hd hb;go_wp2;go_ret;exact RowPost.mk nR hb.out hB.out
theorem below_k (A:Option Addr)(c:Nat)(F:Nat→Prop)(t:List Nd)(hl:t.length≤1048576)(ht:treeB t=true){b rt:Nat}(hsp:Sp t b rt)(w:World)(hF:∀b,F b→b<w.heap.size)(r:Rd w F (.slice A t.length c) (.sl t.length (t.flatMap ndD))):
  Calls Tryz.prog 60 #[.slice A t.length c,.int .i64 rt] w (RowPost 113 4 t.length ((List.range t.length).map fun i=>.bool (inB b rt i)) w):=by
 have k1:=parents_k A c F t hl ht w hF r;obtain⟨_,ha,_⟩:=treeB_sp ht;have heq:=fun i=>inB_eq hsp ha (i:=i)
 have hgt:=fun i k=>up_gt ha (i:=i) (k:=k)
 have hge:=fun i=>upF_ge t t.length i
 have hrl:=hsp.lt;obtain⟨zs,hz,hmk⟩:=run_made (P:=Tryz.prog) elBool t.length hl oQ;replace hz:zs.length=t.length:=oQ;generalize hn:t.length=n at*;have hup:upV t n n=(List.range n).map fun j=>.int .i64 (upF t n j):=rfl
 generalize hU:upF t n=U at*;replace heq:=Hd heq;replace hgt:=Hd hgt;replace hge:=Hd hge;replace k1:=Hd k1;replace hup:=Hd hup;replace hU:=Hd hU;replace hn:=Hd hn;have nw:IntKind.i64.wrap ((n:Int) -1)=(n:Int) -1:=by rw[xI];omega
 clear ht hsp ha r hF;go_enter Tryz.func60,Tryz.ntmps60;go_wp2_with (go_at_call 59;refine k1.out.mono ?_;rintro e W ⟨gu,rfl,hgu,hbu,hW⟩;rw[hup.out]at hbu;have hgl:=hbu.lt;replace hbu:=Hd hbu;replace hW:=Hd hW);have hb0:Blk (W.alloc (.cells ⟨zs⟩ 4)) W.heap.size 4 zs:=Blk.new _ _ _;have hX0:Bw W (W.alloc (.cells ⟨zs⟩ 4)):=bA;have hws:=hW.out.size;go_loopw [7] (fun i wr=>∃(m:Nat)(cs:List Value),m≤n∧i=.int .i64 ((m:Int) -1)∧Bw W wr∧Blk wr W.heap.size 4 cs∧cs.length=n∧Hid (∀k,m≤k→k<n→cs[k]? =some (.bool (inB b rt k)))) (fun i _=>((intOf i)+1).toNat)
 case atStart=>exact⟨n,zs,nR,rfl,hX0,hb0,hz,fun k hk h2=>by omega⟩
 case round=>
  clear hX0 hb0;obtain⟨m,cs,hm,hi,hB,hb,hcl,hc⟩:=hrel;have hB':Bw w wr:=hW.out.trans (hB.mono hws);by_cases hm0:m=0
  ·subst hm0;obtain rfl:=(hi.trans rfl:_=Value.int .i64 (-1));clear hi;have hcs:cs=(List.range n).map fun i=>.bool (inB b rt i):=by
    apply List.ext_getElem?;intro i;by_cases hi:i<n
    ·rw[hc.out i (zE _) hi,rg_get hi]
    ·rw[xO oQ,xO (by simp;omega)]
   rw[hcs]at hb;replace hb:=Hd hb;replace hB':=Hd hB';replace hcs:=Hd hcs;clear hcl hB;go_wp2;go_ret;exact RowPost.mk hws hb.out hB'.out
  ·obtain⟨k,rfl⟩:∃k,m=k+1:=⟨m-1,oQ⟩
   obtain rfl:=(hi.trans (by congr 1;omega):_=Value.int .i64 (k:Int));clear hi hm0;have hkn:k<n:=oQ;obtain⟨u,hu⟩:=getx (l:=cs) (i:=k) oQ;have c4:=(hb.cell k).trans hu;have d4:=hb.frozen k;have cu:∀j,j<n→wr.cell? ⟨gu,j,none⟩=some (.int .i64 (U j)):=fun j hj=>by
    have h1:=(hbu.out.stay hB).cell j;rw[h1,rg_get hj]
   have q1:=cu k hkn;have hek:=heq.out k hkn;have g1:(0:Int)≤(k:Int):=oQ;have g2:(k:Int)<n:=oQ;have hgne:gu≠W.heap.size:=oQ;have fin:∀v:Bool,v=inB b rt k→Hid (∀k',k≤k'→k'<n→(cs.set k (.bool v))[k']? =some (.bool (inB b rt k'))):=fun v hv k' hk hk'=>by
    rw[xL];by_cases e:k=k'
    ·subst e;rw[if_pos rfl,if_pos oQ,hv]
    ·rw[if_neg e];exact hc.out k' oQ hk'
   have hb2:=fun v:Bool=>hb.set_ k (.bool v)
   have hB2:=fun v:Bool=>hB.setCell (p:=⟨W.heap.size,k,none⟩) nR (.bool v)
   have hil:=Hd (show (k:Int)=((k:Int)+1-1) from oQ);have hmk2:k≤n:=oQ;have hgg:=hge.out k;replace fin:=Hd fin;replace hb2:=Hd hb2;replace hB2:=Hd hB2;replace hB':=Hd hB';have hcl2:=Hd hcl;by_cases hkr:k=rt
   ·have e1:((k:Int)==(rt:Int))=true:=beqT oQ;have e2:(k==rt)=true:=by simpa using hkr
    have hv:true=inB b rt k:=(by rw[hek,zW hkr];rfl);have hfin:=Hd (fin.out true hv);have hfb:=Hd (hb2.out true);have hfB:=Hd (hB2.out true);replace hkr:=Hd hkr;replace hv:=Hd hv;replace hek:=Hd hek;replace hb:=Hd hb;replace hB:=Hd hB;replace hu:=Hd hu;clear hcl cu hgg;go_wp2;go_roundw
    case rel=>exact⟨k,_,hmk2,gQ,hfB.out,hfb.out,by rw[List.length_set];exact hcl2.out,hfin.out⟩
    case measure=>simp[intOf]
   ·have e1:((k:Int)==(rt:Int))=false:=beqF oQ;have e2:(k==rt)=false:=by simpa using hkr
    by_cases hu0:0≤U k
    ·obtain⟨p,hp⟩:∃p:Nat,U k=p:=⟨(U k).toNat,oQ⟩
     obtain⟨p1,p2⟩:=hgt.out k p hp;have hcp:=(hb.cell p).trans (hc.out p oQ p2);have p3:(p:Int)<n:=oQ;have p4:(0:Int)≤(p:Int):=oQ;have hv:inB b rt p=inB b rt k:=by rw[hek,zV hkr,hp];rfl
     have hfin:=Hd (fin.out (inB b rt p) hv);have hfb:=Hd (hb2.out (inB b rt p));have hfB:=Hd (hB2.out (inB b rt p));rw[hp]at q1;generalize inB b rt p=vp at*;replace hkr:=Hd hkr;replace hv:=Hd hv;replace hek:=Hd hek;replace hb:=Hd hb;replace hB:=Hd hB;replace hu:=Hd hu;replace hp:=Hd hp;clear hcl cu hgg hu0;cases vp with
     |true=>
      go_wp2;go_roundw
      case rel=>exact⟨k,_,hmk2,gQ,hfB.out,hfb.out,by rw[List.length_set];exact hcl2.out,hfin.out⟩
      case measure=>simp[intOf]
     |false=>
      go_wp2;go_roundw
      case rel=>exact⟨k,_,hmk2,gQ,hfB.out,hfb.out,by rw[List.length_set];exact hcl2.out,hfin.out⟩
      case measure=>simp[intOf]
    ·have hum:U k= -1:=oQ;have hv:false=inB b rt k:=by rw[hek,zV hkr,hum];rfl
     have hfin:=Hd (fin.out false hv);have hfb:=Hd (hb2.out false);have hfB:=Hd (hB2.out false);rw[hum]at q1;replace hkr:=Hd hkr;replace hv:=Hd hv;replace hek:=Hd hek;replace hb:=Hd hb;replace hB:=Hd hB;replace hu:=Hd hu;replace hum:=Hd hum;clear hcl cu hgg hu0;go_wp2;go_roundw
     case rel=>exact⟨k,_,hmk2,gQ,hfB.out,hfb.out,by rw[List.length_set];exact hcl2.out,hfin.out⟩
     case measure=>simp[intOf]
end ckW
end Go.Proofs.YthaabihjeomipaaGreatDoor
